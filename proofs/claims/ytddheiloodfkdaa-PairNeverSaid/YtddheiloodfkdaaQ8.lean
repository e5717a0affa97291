-- Written by a program of this claim's prover; Lean checks it.
import Derived.Test.YtddheiloodfkdaaQ0
import Derived.Test.YtddheiloodfkdaaQ1
import Derived.Test.YtddheiloodfkdaaQ2
import Derived.Test.YtddheiloodfkdaaQ3
import Derived.Test.YtddheiloodfkdaaQ4
import Derived.Test.YtddheiloodfkdaaQ7
namespace Go.Proofs.Ytddheiloodfkdaa.Q
open Go.RowKit Go.Proofs.YtddheiloodfkdaaW.PrintWords Go.Proofs.YtddheiloodfkdaaW.PrintLast Go.Proofs.YtddheiloodfkdaaW.PrintMore
attribute [local go_sem] max2_int min2_int max_two min_two max_three min_three max_four min_four   -- for this text's walks alone
set_option linter.unusedVariables false
set_option linter.unusedSimpArgs false

theorem then_exit_ {K : Act → World → Prop} {Q : Exit → Act → World → Prop} {n : Nat} {a : Act} {w : World} (h : Q (.exit n) a w) : Exit.then K Q (.exit n) a w := h
theorem inBlock_skip_ {Q : Exit → Act → World → Prop} {id n : Nat} {a : Act} {w : World} (hn : (n == id) = false) (h : Q (.exit n) a w) : Exit.inBlock id Q (.exit n) a w := by
  have : ¬ n = id := by simpa using hn
  simp only [Exit.inBlock, if_neg this]; exact h
theorem inBlock_here_ {Q : Exit → Act → World → Prop} {n : Nat} {a : Act} {w : World} (h : Q .normal a w) : Exit.inBlock n Q (.exit n) a w := by
  simp only [Exit.inBlock, if_true]; exact h
/-! ### pair_Holds: function 10 -/
mutual
def pair_Holds.j0 : Nat → Int → Int → Int → Bool → Int → Int → Int → Int → Int → Int → Int → Int → Int → Int → Int → Int → Int → Option (Bool)
  | 0, _, _, _, _, _, _, _, _, _, _, _, _, _, _, _, _, _ => none
  | k + 1, x1, x2, x5, x13, x163000, x163001, x163002, x164000, x164001, x164002, x164003, x164004, x165000, x165001, x165002, x165003, x165004 => (pair_Needs.f k x1).bind fun bt165 => (if bt165.1 = true then ((when_Right.f x163000 x163001 x163002 x164000 x164001 x164002 x164003).bind fun t167 => (if t167 = true then ((when_Right.f x163000 x163001 x163002 x165000 x165001 x165002 x165003).bind fun t168 => (pair_Holds.j1 k x1 x2 x5 x13 (!t168) x163000 x163001 x163002 x164000 x164001 x164002 x164003 x164004 x165000 x165001 x165002 x165003 x165004)) else (pair_Holds.j1 k x1 x2 x5 x13 true x163000 x163001 x163002 x164000 x164001 x164002 x164003 x164004 x165000 x165001 x165002 x165003 x165004))) else (pair_Holds.j1 k x1 x2 x5 x13 false x163000 x163001 x163002 x164000 x164001 x164002 x164003 x164004 x165000 x165001 x165002 x165003 x165004))
def pair_Holds.j1 : Nat → Int → Int → Int → Bool → Bool → Int → Int → Int → Int → Int → Int → Int → Int → Int → Int → Int → Int → Int → Option (Bool)
  | 0, _, _, _, _, _, _, _, _, _, _, _, _, _, _, _, _, _, _ => none
  | k + 1, x1, x2, x5, x13, x50, x163000, x163001, x163002, x164000, x164001, x164002, x164003, x164004, x165000, x165001, x165002, x165003, x165004 => if x50 = true then (some false) else ((pair_slots.f k x164000 x164001 x164002 x164003 x165000 x165001 x165002 x165003).bind fun bt171 => (if x1 = 11 then (pair_Holds.j2 k x13 true) else (if x1 = 10 then (pair_Holds.j2 k x13 false) else (if x1 = 9 then (pair_Holds.j3 k true x164000 x164001 x164002 x164003 x165000 x165001 x165002 x165003) else (if x1 = 8 then (pair_Holds.j3 k false x164000 x164001 x164002 x164003 x165000 x165001 x165002 x165003) else (if x1 = 1 then (some (x164002 == x165002)) else (if x1 = 2 then (some bt171.1) else (if x1 = 3 then (some (!bt171.2)) else (if x1 = 4 then ((pair_inside.f ((x164001) % 4294967296) ((x165001) % 4294967296)).bind fun t174 => (some t174)) else (if x1 = 5 then (some ((Go.bits .and .u8 x164001 x165001) == 0)) else (if x1 = 6 then ((pair_inside.f x164000 x165000).bind fun t175 => (some t175)) else (if x1 = 7 then (some ((Go.bits .and .u32 x164000 x165000) == 0)) else (if x1 = 12 then ((pair_ahead.f k x163000 x163001 x163002 x164000 x164001 x164002 x164003 x165000 x165001 x165002 x165003).bind fun t176 => (some t176)) else (if x1 = 13 then ((pair_short.f x164000 x164001 x164002 x164003 x165000 x165001 x165002 x165003 x2).bind fun t177 => (some t177)) else (if x1 = 14 then ((person_Reach.f x164000 x164001 x164002 x164003 x165000 x165001 x165002 x165003 x5).bind fun t178 => (some t178)) else (some false))))))))))))))))
def pair_Holds.j3 : Nat → Bool → Int → Int → Int → Int → Int → Int → Int → Int → Option (Bool)
  | 0, _, _, _, _, _, _, _, _, _ => none
  | k + 1, x20, x170000, x170001, x170002, x170003, x171000, x171001, x171002, x171003 => (when_Meet.f x170000 x170001 x170002 x170003 x171000 x171001 x171002 x171003).bind fun t173 => (some (t173 != x20))
def pair_Holds.j2 : Nat → Bool → Bool → Option (Bool)
  | 0, _, _ => none
  | k + 1, x13, x20 => some (x13 != x20)
end
def pair_Holds.f (k : Nat) (a0_0 : Int) (a0_1 : Int) (a0_2 : Int) (a1 : Int) (a2 : Int) (a3_0 : Int) (a3_1 : Int) (a3_2 : Int) (a3_3 : Int) (a3_4 : Int) (a4_0 : Int) (a4_1 : Int) (a4_2 : Int) (a4_3 : Int) (a4_4 : Int) (a5 : Int) : Option (Bool) := if a3_4 ≥ 0 then (pair_Holds.j0 k a1 a2 a5 (a3_4 == a4_4) a0_0 a0_1 a0_2 a3_0 a3_1 a3_2 a3_3 a3_4 a4_0 a4_1 a4_2 a4_3 a4_4) else (pair_Holds.j0 k a1 a2 a5 false a0_0 a0_1 a0_2 a3_0 a3_1 a3_2 a3_3 a3_4 a4_0 a4_1 a4_2 a4_3 a4_4)
theorem pair_Holds.mono_l : ∀ k, (∀ y0 y1 y2 y3 y4 y5 y6 y7 y8 y9 y10 y11 y12 y13 y14 y15 y16, LeO (pair_Holds.j0 k y0 y1 y2 y3 y4 y5 y6 y7 y8 y9 y10 y11 y12 y13 y14 y15 y16) (pair_Holds.j0 (k + 1) y0 y1 y2 y3 y4 y5 y6 y7 y8 y9 y10 y11 y12 y13 y14 y15 y16)) ∧ (∀ y0 y1 y2 y3 y4 y5 y6 y7 y8 y9 y10 y11 y12 y13 y14 y15 y16 y17, LeO (pair_Holds.j1 k y0 y1 y2 y3 y4 y5 y6 y7 y8 y9 y10 y11 y12 y13 y14 y15 y16 y17) (pair_Holds.j1 (k + 1) y0 y1 y2 y3 y4 y5 y6 y7 y8 y9 y10 y11 y12 y13 y14 y15 y16 y17)) ∧ (∀ y0 y1 y2 y3 y4 y5 y6 y7 y8, LeO (pair_Holds.j3 k y0 y1 y2 y3 y4 y5 y6 y7 y8) (pair_Holds.j3 (k + 1) y0 y1 y2 y3 y4 y5 y6 y7 y8)) ∧ (∀ y0 y1, LeO (pair_Holds.j2 k y0 y1) (pair_Holds.j2 (k + 1) y0 y1))
  | 0 => ⟨fun _ _ _ _ _ _ _ _ _ _ _ _ _ _ _ _ _ r h => by simp [pair_Holds.j0] at h, fun _ _ _ _ _ _ _ _ _ _ _ _ _ _ _ _ _ _ r h => by simp [pair_Holds.j1] at h, fun _ _ _ _ _ _ _ _ _ r h => by simp [pair_Holds.j3] at h, fun _ _ r h => by simp [pair_Holds.j2] at h⟩
  | k + 1 => by
    obtain ⟨ih0, ih1, ih2, ih3⟩ := pair_Holds.mono_l k
    refine ⟨?_, ?_, ?_, ?_⟩
    · intro y0 y1 y2 y3 y4 y5 y6 y7 y8 y9 y10 y11 y12 y13 y14 y15 y16
      unfold pair_Holds.j0
      repeat' first
      | (with_reducible exact ih0 _ _ _ _ _ _ _ _ _ _ _ _ _ _ _ _ _)
      | (with_reducible exact ih1 _ _ _ _ _ _ _ _ _ _ _ _ _ _ _ _ _ _)
      | (with_reducible exact ih2 _ _ _ _ _ _ _ _ _)
      | (with_reducible exact ih3 _ _)
      | (with_reducible exact pair_Needs.mono _ _)
      | (with_reducible exact pair_ahead.mono _ _ _ _ _ _ _ _ _ _ _ _)
      | (with_reducible exact pair_slots.mono _ _ _ _ _ _ _ _ _)
      | (with_reducible exact LeO.refl _)
      | (with_reducible exact LeO.none _)
      | (with_reducible refine LeO.ite ?_ ?_)
      | (with_reducible refine LeO.bind ?_ (fun _ => ?_))
      | exact ih0 _ _ _ _ _ _ _ _ _ _ _ _ _ _ _ _ _
      | exact ih1 _ _ _ _ _ _ _ _ _ _ _ _ _ _ _ _ _ _
      | exact ih2 _ _ _ _ _ _ _ _ _
      | exact ih3 _ _
      | exact pair_Needs.mono _ _
      | exact pair_ahead.mono _ _ _ _ _ _ _ _ _ _ _ _
      | exact pair_slots.mono _ _ _ _ _ _ _ _ _
      | exact LeO.none _
      | refine LeO.ite ?_ ?_
      | refine LeO.bind ?_ (fun _ => ?_)
    · intro y0 y1 y2 y3 y4 y5 y6 y7 y8 y9 y10 y11 y12 y13 y14 y15 y16 y17
      unfold pair_Holds.j1
      repeat' first
      | (with_reducible exact ih0 _ _ _ _ _ _ _ _ _ _ _ _ _ _ _ _ _)
      | (with_reducible exact ih1 _ _ _ _ _ _ _ _ _ _ _ _ _ _ _ _ _ _)
      | (with_reducible exact ih2 _ _ _ _ _ _ _ _ _)
      | (with_reducible exact ih3 _ _)
      | (with_reducible exact pair_Needs.mono _ _)
      | (with_reducible exact pair_ahead.mono _ _ _ _ _ _ _ _ _ _ _ _)
      | (with_reducible exact pair_slots.mono _ _ _ _ _ _ _ _ _)
      | (with_reducible exact LeO.refl _)
      | (with_reducible exact LeO.none _)
      | (with_reducible refine LeO.ite ?_ ?_)
      | (with_reducible refine LeO.bind ?_ (fun _ => ?_))
      | exact ih0 _ _ _ _ _ _ _ _ _ _ _ _ _ _ _ _ _
      | exact ih1 _ _ _ _ _ _ _ _ _ _ _ _ _ _ _ _ _ _
      | exact ih2 _ _ _ _ _ _ _ _ _
      | exact ih3 _ _
      | exact pair_Needs.mono _ _
      | exact pair_ahead.mono _ _ _ _ _ _ _ _ _ _ _ _
      | exact pair_slots.mono _ _ _ _ _ _ _ _ _
      | exact LeO.none _
      | refine LeO.ite ?_ ?_
      | refine LeO.bind ?_ (fun _ => ?_)
    · intro y0 y1 y2 y3 y4 y5 y6 y7 y8
      unfold pair_Holds.j3
      repeat' first
      | (with_reducible exact ih0 _ _ _ _ _ _ _ _ _ _ _ _ _ _ _ _ _)
      | (with_reducible exact ih1 _ _ _ _ _ _ _ _ _ _ _ _ _ _ _ _ _ _)
      | (with_reducible exact ih2 _ _ _ _ _ _ _ _ _)
      | (with_reducible exact ih3 _ _)
      | (with_reducible exact pair_Needs.mono _ _)
      | (with_reducible exact pair_ahead.mono _ _ _ _ _ _ _ _ _ _ _ _)
      | (with_reducible exact pair_slots.mono _ _ _ _ _ _ _ _ _)
      | (with_reducible exact LeO.refl _)
      | (with_reducible exact LeO.none _)
      | (with_reducible refine LeO.ite ?_ ?_)
      | (with_reducible refine LeO.bind ?_ (fun _ => ?_))
      | exact ih0 _ _ _ _ _ _ _ _ _ _ _ _ _ _ _ _ _
      | exact ih1 _ _ _ _ _ _ _ _ _ _ _ _ _ _ _ _ _ _
      | exact ih2 _ _ _ _ _ _ _ _ _
      | exact ih3 _ _
      | exact pair_Needs.mono _ _
      | exact pair_ahead.mono _ _ _ _ _ _ _ _ _ _ _ _
      | exact pair_slots.mono _ _ _ _ _ _ _ _ _
      | exact LeO.none _
      | refine LeO.ite ?_ ?_
      | refine LeO.bind ?_ (fun _ => ?_)
    · intro y0 y1
      unfold pair_Holds.j2
      repeat' first
      | (with_reducible exact ih0 _ _ _ _ _ _ _ _ _ _ _ _ _ _ _ _ _)
      | (with_reducible exact ih1 _ _ _ _ _ _ _ _ _ _ _ _ _ _ _ _ _ _)
      | (with_reducible exact ih2 _ _ _ _ _ _ _ _ _)
      | (with_reducible exact ih3 _ _)
      | (with_reducible exact pair_Needs.mono _ _)
      | (with_reducible exact pair_ahead.mono _ _ _ _ _ _ _ _ _ _ _ _)
      | (with_reducible exact pair_slots.mono _ _ _ _ _ _ _ _ _)
      | (with_reducible exact LeO.refl _)
      | (with_reducible exact LeO.none _)
      | (with_reducible refine LeO.ite ?_ ?_)
      | (with_reducible refine LeO.bind ?_ (fun _ => ?_))
      | exact ih0 _ _ _ _ _ _ _ _ _ _ _ _ _ _ _ _ _
      | exact ih1 _ _ _ _ _ _ _ _ _ _ _ _ _ _ _ _ _ _
      | exact ih2 _ _ _ _ _ _ _ _ _
      | exact ih3 _ _
      | exact pair_Needs.mono _ _
      | exact pair_ahead.mono _ _ _ _ _ _ _ _ _ _ _ _
      | exact pair_slots.mono _ _ _ _ _ _ _ _ _
      | exact LeO.none _
      | refine LeO.ite ?_ ?_
      | refine LeO.bind ?_ (fun _ => ?_)
theorem pair_Holds.mono : ∀ a0 a1 a2 a3 a4 a5 a6 a7 a8 a9 a10 a11 a12 a13 a14 a15 k, LeO (pair_Holds.f k a0 a1 a2 a3 a4 a5 a6 a7 a8 a9 a10 a11 a12 a13 a14 a15) (pair_Holds.f (k + 1) a0 a1 a2 a3 a4 a5 a6 a7 a8 a9 a10 a11 a12 a13 a14 a15) := by
  intro a0 a1 a2 a3 a4 a5 a6 a7 a8 a9 a10 a11 a12 a13 a14 a15 k
  obtain ⟨ih0, ih1, ih2, ih3⟩ := pair_Holds.mono_l k
  unfold pair_Holds.f
  repeat' first
      | (with_reducible exact ih0 _ _ _ _ _ _ _ _ _ _ _ _ _ _ _ _ _)
      | (with_reducible exact ih1 _ _ _ _ _ _ _ _ _ _ _ _ _ _ _ _ _ _)
      | (with_reducible exact ih2 _ _ _ _ _ _ _ _ _)
      | (with_reducible exact ih3 _ _)
      | (with_reducible exact pair_Needs.mono _ _)
      | (with_reducible exact pair_ahead.mono _ _ _ _ _ _ _ _ _ _ _ _)
      | (with_reducible exact pair_slots.mono _ _ _ _ _ _ _ _ _)
      | (with_reducible exact LeO.refl _)
      | (with_reducible exact LeO.none _)
      | (with_reducible refine LeO.ite ?_ ?_)
      | (with_reducible refine LeO.bind ?_ (fun _ => ?_))
      | exact ih0 _ _ _ _ _ _ _ _ _ _ _ _ _ _ _ _ _
      | exact ih1 _ _ _ _ _ _ _ _ _ _ _ _ _ _ _ _ _ _
      | exact ih2 _ _ _ _ _ _ _ _ _
      | exact ih3 _ _
      | exact pair_Needs.mono _ _
      | exact pair_ahead.mono _ _ _ _ _ _ _ _ _ _ _ _
      | exact pair_slots.mono _ _ _ _ _ _ _ _ _
      | exact LeO.none _
      | refine LeO.ite ?_ ?_
      | refine LeO.bind ?_ (fun _ => ?_)
def pair_Holds.T5 : Bool × List (List Nat × List Nat) := (true, [([], []), ([0], [0]), ([], []), ([2], [2]), ([], []), ([], []), ([4, 1, 0, 1, 4, 5], [1, 4]), ([5, 3, 6, 0, 1, 2, 3, 4, 5, 6], [3, 5])])
def pair_Holds.B5 : List Nat := [0, 1, 0, 4, 0, 0, 51, 127]
theorem pair_Holds.tab5 : rtab .any (opsOf Try.f10 5) = pair_Holds.T5 := by kernel_rfl
theorem pair_Holds.bits5 : waitsOk pair_Holds.T5.2 pair_Holds.B5 = true := by kernel_rfl
set_option maxHeartbeats 8000000 in
set_option maxRecDepth 100000 in
theorem pair_Holds.calls (k : Nat) (a0_0 : Int) (a0_1 : Int) (a0_2 : Int) (a1 : Int) (a2 : Int) (a3_0 : Int) (a3_1 : Int) (a3_2 : Int) (a3_3 : Int) (a3_4 : Int) (a4_0 : Int) (a4_1 : Int) (a4_2 : Int) (a4_3 : Int) (a4_4 : Int) (a5 : Int) (r : Bool) (w : World) (h : pair_Holds.f k a0_0 a0_1 a0_2 a1 a2 a3_0 a3_1 a3_2 a3_3 a3_4 a4_0 a4_1 a4_2 a4_3 a4_4 a5 = some r) :
  Calls Try.prog 10 #[.agg #[.int .i64 a0_0, .int .i64 a0_1, .int .i64 a0_2], .int .i64 a1, .int .i64 a2, .agg #[.int .u32 a3_0, .int .u8 a3_1, .int .i64 a3_2, .int .i64 a3_3, .int .i64 a3_4], .agg #[.int .u32 a4_0, .int .u8 a4_1, .int .i64 a4_2, .int .i64 a4_3, .int .i64 a4_4], .int .i64 a5] w fun e w' => e = .returned (.bool r) ∧ Below w.heap.size w w' := by
 have hu23 := Try.underlying23
 have hu28 := Try.underlying28
 have hu26 := Try.underlying26
 have HB := Aside0.mk (Below.refl w.heap.size w)
 have H : (if a3_4 ≥ 0 then (pair_Holds.j0 k a1 a2 a5 (a3_4 == a4_4) a0_0 a0_1 a0_2 a3_0 a3_1 a3_2 a3_3 a3_4 a4_0 a4_1 a4_2 a4_3 a4_4) else (pair_Holds.j0 k a1 a2 a5 false a0_0 a0_1 a0_2 a3_0 a3_1 a3_2 a3_3 a3_4 a4_0 a4_1 a4_2 a4_3 a4_4)) = some r := h
 clear h
 have HC7 := Aside0.mk H
 clear H
 go_enter Try.func10, Try.ntmps10
 go_upto_region 1 with (first | ((with_reducible refine gate_dst (N := 6) rfl ?_); refine box_event ?hg (N := 6) ?hd (cs := #[.int .i64 a0_0, .int .i64 a0_1, .int .i64 a0_2]) (t := 23) ?hr ?_; (case hd => rfl); (case hg => rfl); (case hr => first | (go_simp; done) | (go_simp; rfl)); intro gb162 hg w8 hbox hb; have n0_ := Aside0.mk (below_step (by repeat (first | (with_reducible first | exact HB.out | apply below_alloc | apply pw_below_drewN | apply below_drew1) | exact HB.out)) hb); have n1_ := Aside0.mk (hbox); have n2_ := Aside0.mk ((by rw [hg]; exact (below_size (by repeat (first | (with_reducible first | exact HB.out | apply below_alloc | apply pw_below_drewN | apply below_drew1) | exact HB.out))) : w.heap.size ≤ gb162)); have n3_ := Aside0.mk ((by rw [hg]; exact (below_size (by repeat (first | (with_reducible first | exact HB.out | apply below_alloc | apply pw_below_drewN | apply below_drew1) | exact HB.out))) : w.heap.size ≤ gb162)); clear HB; have HB := n0_; have BK162 := n1_; have GW162 := n2_; have GE162 := n3_; clear n0_ n1_ n2_ n3_; clear hb hbox hg) | ((with_reducible refine gate_dst (N := 9) rfl ?_); refine box_event ?hg (N := 9) ?hd (cs := #[.int .u32 a3_0, .int .u8 a3_1, .int .i64 a3_2, .int .i64 a3_3, .int .i64 a3_4]) (t := 28) ?hr ?_; (case hd => rfl); (case hg => rfl); (case hr => first | (go_simp; done) | (go_simp; rfl)); intro gb163 hg w9 hbox hb; have n0_ := Aside0.mk (blk_below (g := gb162) (o := .cells #[.int .i64 a0_0, .int .i64 a0_1, .int .i64 a0_2] 23 (0, 0)) (by (with_reducible repeat (first | refine blk_drewN ?_ _ | refine blk_drew ?_ | refine blk_alloc ?_ _)); exact BK162.out) hb); have n1_ := Aside0.mk (below_step (by repeat (first | (with_reducible first | exact HB.out | apply below_alloc | apply pw_below_drewN | apply below_drew1 | refine below_set ?_ GE162.out) | exact HB.out)) hb); have n2_ := Aside0.mk (hbox); have n3_ := Aside0.mk ((by rw [hg]; exact (below_size (by repeat (first | (with_reducible first | exact HB.out | apply below_alloc | apply pw_below_drewN | apply below_drew1 | refine below_set ?_ GE162.out) | exact HB.out))) : w.heap.size ≤ gb163)); have n4_ := Aside0.mk ((by rw [hg]; exact (below_size (by repeat (first | (with_reducible first | exact HB.out | apply below_alloc | apply pw_below_drewN | apply below_drew1 | refine below_set ?_ GE162.out) | exact HB.out))) : w.heap.size ≤ gb163)); have n5_ := Aside0.mk ((by rw [hg]; exact Nat.ne_of_lt (blk_lt (g := gb162) (o := .cells #[.int .i64 a0_0, .int .i64 a0_1, .int .i64 a0_2] 23 (0, 0)) (by (with_reducible repeat (first | refine blk_drewN ?_ _ | refine blk_drew ?_ | refine blk_alloc ?_ _)); exact BK162.out)) : gb162 ≠ gb163)); have n6_ := Aside0.mk ((by rw [hg]; exact Nat.ne_of_gt (blk_lt (g := gb162) (o := .cells #[.int .i64 a0_0, .int .i64 a0_1, .int .i64 a0_2] 23 (0, 0)) (by (with_reducible repeat (first | refine blk_drewN ?_ _ | refine blk_drew ?_ | refine blk_alloc ?_ _)); exact BK162.out)) : gb163 ≠ gb162)); clear BK162; clear HB; have BK162 := n0_; have HB := n1_; have BK163 := n2_; have GW163 := n3_; have GE163 := n4_; have NB162_163 := n5_; have NB163_162 := n6_; clear n0_ n1_ n2_ n3_ n4_ n5_ n6_; clear hb hbox hg) | ((with_reducible refine gate_dst (N := 10) rfl ?_); refine box_event ?hg (N := 10) ?hd (cs := #[.int .u32 a4_0, .int .u8 a4_1, .int .i64 a4_2, .int .i64 a4_3, .int .i64 a4_4]) (t := 28) ?hr ?_; (case hd => rfl); (case hg => rfl); (case hr => first | (go_simp; done) | (go_simp; rfl)); intro gb164 hg w10 hbox hb; have n0_ := Aside0.mk (blk_below (g := gb162) (o := .cells #[.int .i64 a0_0, .int .i64 a0_1, .int .i64 a0_2] 23 (0, 0)) (by (with_reducible repeat (first | refine blk_drewN ?_ _ | refine blk_drew ?_ | refine blk_alloc ?_ _)); exact BK162.out) hb); have n1_ := Aside0.mk (blk_below (g := gb163) (o := .cells #[.int .u32 a3_0, .int .u8 a3_1, .int .i64 a3_2, .int .i64 a3_3, .int .i64 a3_4] 28 (0, 0)) (by (with_reducible repeat (first | refine blk_drewN ?_ _ | refine blk_drew ?_ | refine blk_alloc ?_ _)); exact BK163.out) hb); have n2_ := Aside0.mk (below_step (by repeat (first | (with_reducible first | exact HB.out | apply below_alloc | apply pw_below_drewN | apply below_drew1 | refine below_set ?_ GE162.out | refine below_set ?_ GE163.out) | exact HB.out)) hb); have n3_ := Aside0.mk (hbox); have n4_ := Aside0.mk ((by rw [hg]; exact (below_size (by repeat (first | (with_reducible first | exact HB.out | apply below_alloc | apply pw_below_drewN | apply below_drew1 | refine below_set ?_ GE162.out | refine below_set ?_ GE163.out) | exact HB.out))) : w.heap.size ≤ gb164)); have n5_ := Aside0.mk ((by rw [hg]; exact (below_size (by repeat (first | (with_reducible first | exact HB.out | apply below_alloc | apply pw_below_drewN | apply below_drew1 | refine below_set ?_ GE162.out | refine below_set ?_ GE163.out) | exact HB.out))) : w.heap.size ≤ gb164)); have n6_ := Aside0.mk ((by rw [hg]; exact Nat.ne_of_lt (blk_lt (g := gb162) (o := .cells #[.int .i64 a0_0, .int .i64 a0_1, .int .i64 a0_2] 23 (0, 0)) (by (with_reducible repeat (first | refine blk_drewN ?_ _ | refine blk_drew ?_ | refine blk_alloc ?_ _)); exact BK162.out)) : gb162 ≠ gb164)); have n7_ := Aside0.mk ((by rw [hg]; exact Nat.ne_of_gt (blk_lt (g := gb162) (o := .cells #[.int .i64 a0_0, .int .i64 a0_1, .int .i64 a0_2] 23 (0, 0)) (by (with_reducible repeat (first | refine blk_drewN ?_ _ | refine blk_drew ?_ | refine blk_alloc ?_ _)); exact BK162.out)) : gb164 ≠ gb162)); have n8_ := Aside0.mk ((by rw [hg]; exact Nat.ne_of_lt (blk_lt (g := gb163) (o := .cells #[.int .u32 a3_0, .int .u8 a3_1, .int .i64 a3_2, .int .i64 a3_3, .int .i64 a3_4] 28 (0, 0)) (by (with_reducible repeat (first | refine blk_drewN ?_ _ | refine blk_drew ?_ | refine blk_alloc ?_ _)); exact BK163.out)) : gb163 ≠ gb164)); have n9_ := Aside0.mk ((by rw [hg]; exact Nat.ne_of_gt (blk_lt (g := gb163) (o := .cells #[.int .u32 a3_0, .int .u8 a3_1, .int .i64 a3_2, .int .i64 a3_3, .int .i64 a3_4] 28 (0, 0)) (by (with_reducible repeat (first | refine blk_drewN ?_ _ | refine blk_drew ?_ | refine blk_alloc ?_ _)); exact BK163.out)) : gb164 ≠ gb163)); clear BK162; clear BK163; clear HB; have BK162 := n0_; have BK163 := n1_; have HB := n2_; have BK164 := n3_; have GW164 := n4_; have GE164 := n5_; have NB162_164 := n6_; have NB164_162 := n7_; have NB163_164 := n8_; have NB164_163 := n9_; clear n0_ n1_ n2_ n3_ n4_ n5_ n6_ n7_ n8_ n9_; clear hb hbox hg))
 (try simp only [Act.put, List.setIfInBounds_toArray, List.set_cons_zero, List.set_cons_succ])
 go_cut [13] (fun v13 wc => ∃ (kq : Nat) (x13_6 : Bool), v13 = .bool x13_6 ∧ Aside0 (pair_Holds.j0 kq a1 a2 a5 x13_6 a0_0 a0_1 a0_2 a3_0 a3_1 a3_2 a3_3 a3_4 a4_0 a4_1 a4_2 a4_3 a4_4 = some r) ∧ Aside0 (kq ≤ k) ∧ Aside0 (wc.heap[gb162]? = some (.cells #[.int .i64 a0_0, .int .i64 a0_1, .int .i64 a0_2] 23 (0, 0))) ∧ Aside0 (wc.heap[gb163]? = some (.cells #[.int .u32 a3_0, .int .u8 a3_1, .int .i64 a3_2, .int .i64 a3_3, .int .i64 a3_4] 28 (0, 0))) ∧ Aside0 (wc.heap[gb164]? = some (.cells #[.int .u32 a4_0, .int .u8 a4_1, .int .i64 a4_2, .int .i64 a4_3, .int .i64 a4_4] 28 (0, 0))) ∧ Aside0 (Below w.heap.size w wc))
 case first =>
  have H := HC7.out
  clear HC7
  by_cases c11 : a3_4 ≥ 0
  ·
   rw [if_pos c11] at H
   have c11b0 : decide (0 ≤ a3_4) = true := decide_eq_true c11
   clear c11
   (first | rw [c11b0] | (simp only [i64_w, i32_w]; rw [c11b0]) | skip)
   have H' := Aside0.mk H
   clear H
   have hnb12 := NB163_162.out
   have hnc12 := NB162_163.out
   have hnb13 := NB163_164.out
   have hnc13 := NB164_163.out
   have hcz14_0 : w10.cell? ⟨gb163, 0, none⟩ = some (.int .u32 a3_0) := (blk_cell BK163.out 0).trans rfl
   have hcz14_1 : w10.cell? ⟨gb163, 1, none⟩ = some (.int .u8 a3_1) := (blk_cell BK163.out 1).trans rfl
   have hcz14_2 : w10.cell? ⟨gb163, 2, none⟩ = some (.int .i64 a3_2) := (blk_cell BK163.out 2).trans rfl
   have hcz14_3 : w10.cell? ⟨gb163, 3, none⟩ = some (.int .i64 a3_3) := (blk_cell BK163.out 3).trans rfl
   have hcz14_4 : w10.cell? ⟨gb163, 4, none⟩ = some (.int .i64 a3_4) := (blk_cell BK163.out 4).trans rfl
   have hfz14_0 := blk_frozen BK163.out 0
   have hfz14_1 := blk_frozen BK163.out 1
   have hfz14_2 := blk_frozen BK163.out 2
   have hfz14_3 := blk_frozen BK163.out 3
   have hfz14_4 := blk_frozen BK163.out 4
   have hnb15 := NB164_162.out
   have hnc15 := NB162_164.out
   have hcz16_0 : w10.cell? ⟨gb164, 0, none⟩ = some (.int .u32 a4_0) := (blk_cell BK164.out 0).trans rfl
   have hcz16_1 : w10.cell? ⟨gb164, 1, none⟩ = some (.int .u8 a4_1) := (blk_cell BK164.out 1).trans rfl
   have hcz16_2 : w10.cell? ⟨gb164, 2, none⟩ = some (.int .i64 a4_2) := (blk_cell BK164.out 2).trans rfl
   have hcz16_3 : w10.cell? ⟨gb164, 3, none⟩ = some (.int .i64 a4_3) := (blk_cell BK164.out 3).trans rfl
   have hcz16_4 : w10.cell? ⟨gb164, 4, none⟩ = some (.int .i64 a4_4) := (blk_cell BK164.out 4).trans rfl
   have hfz16_0 := blk_frozen BK164.out 0
   have hfz16_1 := blk_frozen BK164.out 1
   have hfz16_2 := blk_frozen BK164.out 2
   have hfz16_3 := blk_frozen BK164.out 3
   have hfz16_4 := blk_frozen BK164.out 4
   go_wp2
   go_meet
   case rel => exact ⟨_, ((a3_4 == a4_4)), (by first | rfl | (simp; done) | (simp [*]; done)), H', ⟨by first | omega | exact Nat.le_refl _⟩, ⟨by (with_reducible repeat (first | refine blk_drewN ?_ _ | refine blk_drew ?_ | refine blk_alloc ?_ _)); exact BK162.out⟩, ⟨by (with_reducible repeat (first | refine blk_drewN ?_ _ | refine blk_drew ?_ | refine blk_alloc ?_ _)); exact BK163.out⟩, ⟨by (with_reducible repeat (first | refine blk_drewN ?_ _ | refine blk_drew ?_ | refine blk_alloc ?_ _)); exact BK164.out⟩, ⟨by repeat (first | (with_reducible first | exact HB.out | apply below_alloc | apply pw_below_drewN | apply below_drew1 | refine below_set ?_ GE162.out | refine below_set ?_ GE163.out | refine below_set ?_ GE164.out) | exact HB.out)⟩⟩
  ·
   rw [if_neg c11] at H
   have c11b0 : decide (0 ≤ a3_4) = false := decide_eq_false c11
   clear c11
   (first | rw [c11b0] | (simp only [i64_w, i32_w]; rw [c11b0]) | skip)
   have H' := Aside0.mk H
   clear H
   have hnb17 := NB163_162.out
   have hnc17 := NB162_163.out
   have hnb18 := NB163_164.out
   have hnc18 := NB164_163.out
   have hcz19_0 : w10.cell? ⟨gb163, 0, none⟩ = some (.int .u32 a3_0) := (blk_cell BK163.out 0).trans rfl
   have hcz19_1 : w10.cell? ⟨gb163, 1, none⟩ = some (.int .u8 a3_1) := (blk_cell BK163.out 1).trans rfl
   have hcz19_2 : w10.cell? ⟨gb163, 2, none⟩ = some (.int .i64 a3_2) := (blk_cell BK163.out 2).trans rfl
   have hcz19_3 : w10.cell? ⟨gb163, 3, none⟩ = some (.int .i64 a3_3) := (blk_cell BK163.out 3).trans rfl
   have hcz19_4 : w10.cell? ⟨gb163, 4, none⟩ = some (.int .i64 a3_4) := (blk_cell BK163.out 4).trans rfl
   have hfz19_0 := blk_frozen BK163.out 0
   have hfz19_1 := blk_frozen BK163.out 1
   have hfz19_2 := blk_frozen BK163.out 2
   have hfz19_3 := blk_frozen BK163.out 3
   have hfz19_4 := blk_frozen BK163.out 4
   go_wp2
   go_meet
   case rel => exact ⟨_, (false), (by first | rfl | (simp; done) | (simp [*]; done)), H', ⟨by first | omega | exact Nat.le_refl _⟩, ⟨by (with_reducible repeat (first | refine blk_drewN ?_ _ | refine blk_drew ?_ | refine blk_alloc ?_ _)); exact BK162.out⟩, ⟨by (with_reducible repeat (first | refine blk_drewN ?_ _ | refine blk_drew ?_ | refine blk_alloc ?_ _)); exact BK163.out⟩, ⟨by (with_reducible repeat (first | refine blk_drewN ?_ _ | refine blk_drew ?_ | refine blk_alloc ?_ _)); exact BK164.out⟩, ⟨by repeat (first | (with_reducible first | exact HB.out | apply below_alloc | apply pw_below_drewN | apply below_drew1 | refine below_set ?_ GE162.out | refine below_set ?_ GE163.out | refine below_set ?_ GE164.out) | exact HB.out)⟩⟩
 case rest =>
  clear HC7
  try clear c1
  try clear p2
  try clear c10
  try clear c11
  try clear c11b0
  try clear c12
  try clear c13
  try clear c15
  try clear c17
  try clear c18
  try clear hcz14_0
  try clear hcz14_1
  try clear hcz14_2
  try clear hcz14_3
  try clear hcz14_4
  try clear hcz16_0
  try clear hcz16_1
  try clear hcz16_2
  try clear hcz16_3
  try clear hcz16_4
  try clear hcz19_0
  try clear hcz19_1
  try clear hcz19_2
  try clear hcz19_3
  try clear hcz19_4
  try clear hfz14_0
  try clear hfz14_1
  try clear hfz14_2
  try clear hfz14_3
  try clear hfz14_4
  try clear hfz16_0
  try clear hfz16_1
  try clear hfz16_2
  try clear hfz16_3
  try clear hfz16_4
  try clear hfz19_0
  try clear hfz19_1
  try clear hfz19_2
  try clear hfz19_3
  try clear hfz19_4
  obtain ⟨kq, x13_6, rfl, HA, HJ6, BK162, BK163, BK164, HB⟩ := hcut
  cases kq with
  | zero => exact absurd HA.out (by simp [pair_Holds.j0])
  | succ kj6 =>
   have H := HA.out
   clear HA
   simp only [pair_Holds.j0] at H
   replace H := Option.bind_eq_some_iff.mp H
   obtain ⟨⟨t165, t166⟩, A200, H⟩ := H
   replace H : (if t165 = true then ((when_Right.f a0_0 a0_1 a0_2 a3_0 a3_1 a3_2 a3_3).bind fun t167 => (if t167 = true then ((when_Right.f a0_0 a0_1 a0_2 a4_0 a4_1 a4_2 a4_3).bind fun t168 => (pair_Holds.j1 kj6 a1 a2 a5 x13_6 (!t168) a0_0 a0_1 a0_2 a3_0 a3_1 a3_2 a3_3 a3_4 a4_0 a4_1 a4_2 a4_3 a4_4)) else (pair_Holds.j1 kj6 a1 a2 a5 x13_6 true a0_0 a0_1 a0_2 a3_0 a3_1 a3_2 a3_3 a3_4 a4_0 a4_1 a4_2 a4_3 a4_4))) else (pair_Holds.j1 kj6 a1 a2 a5 x13_6 false a0_0 a0_1 a0_2 a3_0 a3_1 a3_2 a3_3 a3_4 a4_0 a4_1 a4_2 a4_3 a4_4)) = some r := H
   have A20 := Aside0.mk A200
   clear A200
   have HC21 := Aside0.mk H
   clear H
   go_upto_region 3 with (first | ((with_reducible refine gate_callee (f := 18) rfl ?_); refine goesL_ (some 33) rfl rfl Try.func18 (by kernel_rfl) rfl #[.int .i64 a1] rfl (by (try simp only [List.map_toArray, List.map_cons, List.map_nil]); first | done | rfl | (simp only [List.length_drop, List.length_take]; rfl)) ?_; (with_reducible refine (pair_Needs.calls kj6 a1 t165 t166 _ A20.out).mono ?_); rintro e w' ⟨rfl, ⟨nd, rfl⟩⟩; refine ⟨_, rfl, ?_⟩))
   (try simp only [Act.put, List.setIfInBounds_toArray, List.set_cons_zero, List.set_cons_succ])
   go_cut [50] (fun v50 wc => ∃ (kq : Nat) (x50_20 : Bool), v50 = .bool x50_20 ∧ Aside0 (pair_Holds.j1 kq a1 a2 a5 x13_6 x50_20 a0_0 a0_1 a0_2 a3_0 a3_1 a3_2 a3_3 a3_4 a4_0 a4_1 a4_2 a4_3 a4_4 = some r) ∧ Aside0 (kq ≤ kj6) ∧ Aside0 (wc.heap[gb162]? = some (.cells #[.int .i64 a0_0, .int .i64 a0_1, .int .i64 a0_2] 23 (0, 0))) ∧ Aside0 (wc.heap[gb163]? = some (.cells #[.int .u32 a3_0, .int .u8 a3_1, .int .i64 a3_2, .int .i64 a3_3, .int .i64 a3_4] 28 (0, 0))) ∧ Aside0 (wc.heap[gb164]? = some (.cells #[.int .u32 a4_0, .int .u8 a4_1, .int .i64 a4_2, .int .i64 a4_3, .int .i64 a4_4] 28 (0, 0))) ∧ Aside0 (Below w.heap.size w wc))
   case first =>
    have H := HC21.out
    clear HC21
    by_cases c22 : t165 = true
    ·
     subst c22
     have H1 : ((when_Right.f a0_0 a0_1 a0_2 a3_0 a3_1 a3_2 a3_3).bind fun t167 => (if t167 = true then ((when_Right.f a0_0 a0_1 a0_2 a4_0 a4_1 a4_2 a4_3).bind fun t168 => (pair_Holds.j1 kj6 a1 a2 a5 x13_6 (!t168) a0_0 a0_1 a0_2 a3_0 a3_1 a3_2 a3_3 a3_4 a4_0 a4_1 a4_2 a4_3 a4_4)) else (pair_Holds.j1 kj6 a1 a2 a5 x13_6 true a0_0 a0_1 a0_2 a3_0 a3_1 a3_2 a3_3 a3_4 a4_0 a4_1 a4_2 a4_3 a4_4))) = some r := by rw [if_pos rfl] at H; exact H
     clear H
     have H := H1
     clear H1
     replace H := Option.bind_eq_some_iff.mp H
     obtain ⟨t167, A230, H⟩ := H
     replace H : (if t167 = true then ((when_Right.f a0_0 a0_1 a0_2 a4_0 a4_1 a4_2 a4_3).bind fun t168 => (pair_Holds.j1 kj6 a1 a2 a5 x13_6 (!t168) a0_0 a0_1 a0_2 a3_0 a3_1 a3_2 a3_3 a3_4 a4_0 a4_1 a4_2 a4_3 a4_4)) else (pair_Holds.j1 kj6 a1 a2 a5 x13_6 true a0_0 a0_1 a0_2 a3_0 a3_1 a3_2 a3_3 a3_4 a4_0 a4_1 a4_2 a4_3 a4_4)) = some r := H
     have A23 := Aside0.mk A230
     clear A230
     by_cases c24 : t167 = true
     ·
      subst c24
      have H1 : ((when_Right.f a0_0 a0_1 a0_2 a4_0 a4_1 a4_2 a4_3).bind fun t168 => (pair_Holds.j1 kj6 a1 a2 a5 x13_6 (!t168) a0_0 a0_1 a0_2 a3_0 a3_1 a3_2 a3_3 a3_4 a4_0 a4_1 a4_2 a4_3 a4_4)) = some r := by rw [if_pos rfl] at H; exact H
      clear H
      have H := H1
      clear H1
      replace H := Option.bind_eq_some_iff.mp H
      obtain ⟨t168, A250, H⟩ := H
      replace H : (pair_Holds.j1 kj6 a1 a2 a5 x13_6 (!t168) a0_0 a0_1 a0_2 a3_0 a3_1 a3_2 a3_3 a3_4 a4_0 a4_1 a4_2 a4_3 a4_4) = some r := H
      have A25 := Aside0.mk A250
      clear A250
      have H' := Aside0.mk H
      clear H
      have hnb26 := NB162_163.out
      have hnc26 := NB163_162.out
      have hnb27 := NB162_164.out
      have hnc27 := NB164_162.out
      have hcz28_0 : wc.cell? ⟨gb162, 0, none⟩ = some (.int .i64 a0_0) := (blk_cell BK162.out 0).trans rfl
      have hcz28_1 : wc.cell? ⟨gb162, 1, none⟩ = some (.int .i64 a0_1) := (blk_cell BK162.out 1).trans rfl
      have hcz28_2 : wc.cell? ⟨gb162, 2, none⟩ = some (.int .i64 a0_2) := (blk_cell BK162.out 2).trans rfl
      have hfz28_0 := blk_frozen BK162.out 0
      have hfz28_1 := blk_frozen BK162.out 1
      have hfz28_2 := blk_frozen BK162.out 2
      have hnb29 := NB163_164.out
      have hnc29 := NB164_163.out
      have hcz30_0 : wc.cell? ⟨gb163, 0, none⟩ = some (.int .u32 a3_0) := (blk_cell BK163.out 0).trans rfl
      have hcz30_1 : wc.cell? ⟨gb163, 1, none⟩ = some (.int .u8 a3_1) := (blk_cell BK163.out 1).trans rfl
      have hcz30_2 : wc.cell? ⟨gb163, 2, none⟩ = some (.int .i64 a3_2) := (blk_cell BK163.out 2).trans rfl
      have hcz30_3 : wc.cell? ⟨gb163, 3, none⟩ = some (.int .i64 a3_3) := (blk_cell BK163.out 3).trans rfl
      have hcz30_4 : wc.cell? ⟨gb163, 4, none⟩ = some (.int .i64 a3_4) := (blk_cell BK163.out 4).trans rfl
      have hfz30_0 := blk_frozen BK163.out 0
      have hfz30_1 := blk_frozen BK163.out 1
      have hfz30_2 := blk_frozen BK163.out 2
      have hfz30_3 := blk_frozen BK163.out 3
      have hfz30_4 := blk_frozen BK163.out 4
      go_wp2_with (first | (go_at_call 26; (with_reducible refine (when_Right.calls a0_0 a0_1 a0_2 a3_0 a3_1 a3_2 a3_3 true _ A23.out).mono ?_); rintro e w31 ⟨rfl, hb⟩; have n0_ := Aside0.mk (blk_below (g := gb162) (o := .cells #[.int .i64 a0_0, .int .i64 a0_1, .int .i64 a0_2] 23 (0, 0)) (by (with_reducible repeat (first | refine blk_drewN ?_ _ | refine blk_drew ?_ | refine blk_alloc ?_ _)); exact BK162.out) hb); have n1_ := Aside0.mk (blk_below (g := gb163) (o := .cells #[.int .u32 a3_0, .int .u8 a3_1, .int .i64 a3_2, .int .i64 a3_3, .int .i64 a3_4] 28 (0, 0)) (by (with_reducible repeat (first | refine blk_drewN ?_ _ | refine blk_drew ?_ | refine blk_alloc ?_ _)); exact BK163.out) hb); have n2_ := Aside0.mk (blk_below (g := gb164) (o := .cells #[.int .u32 a4_0, .int .u8 a4_1, .int .i64 a4_2, .int .i64 a4_3, .int .i64 a4_4] 28 (0, 0)) (by (with_reducible repeat (first | refine blk_drewN ?_ _ | refine blk_drew ?_ | refine blk_alloc ?_ _)); exact BK164.out) hb); have n3_ := Aside0.mk (below_step (by repeat (first | (with_reducible first | exact HB.out | apply below_alloc | apply pw_below_drewN | apply below_drew1 | refine below_set ?_ GE162.out | refine below_set ?_ GE163.out | refine below_set ?_ GE164.out) | exact HB.out)) hb); clear BK162; clear BK163; clear BK164; clear HB; have BK162 := n0_; have BK163 := n1_; have BK164 := n2_; have HB := n3_; clear n0_ n1_ n2_ n3_; (try clear hb); (try clear hb2); (try clear hk); (try clear hi); have hcz32_0 : w31.cell? ⟨gb162, 0, none⟩ = some (.int .i64 a0_0) := (blk_cell BK162.out 0).trans rfl; have hcz32_1 : w31.cell? ⟨gb162, 1, none⟩ = some (.int .i64 a0_1) := (blk_cell BK162.out 1).trans rfl; have hcz32_2 : w31.cell? ⟨gb162, 2, none⟩ = some (.int .i64 a0_2) := (blk_cell BK162.out 2).trans rfl; have hfz32_0 := blk_frozen BK162.out 0; have hfz32_1 := blk_frozen BK162.out 1; have hfz32_2 := blk_frozen BK162.out 2; have hcz33_0 : w31.cell? ⟨gb164, 0, none⟩ = some (.int .u32 a4_0) := (blk_cell BK164.out 0).trans rfl; have hcz33_1 : w31.cell? ⟨gb164, 1, none⟩ = some (.int .u8 a4_1) := (blk_cell BK164.out 1).trans rfl; have hcz33_2 : w31.cell? ⟨gb164, 2, none⟩ = some (.int .i64 a4_2) := (blk_cell BK164.out 2).trans rfl; have hcz33_3 : w31.cell? ⟨gb164, 3, none⟩ = some (.int .i64 a4_3) := (blk_cell BK164.out 3).trans rfl; have hcz33_4 : w31.cell? ⟨gb164, 4, none⟩ = some (.int .i64 a4_4) := (blk_cell BK164.out 4).trans rfl; have hfz33_0 := blk_frozen BK164.out 0; have hfz33_1 := blk_frozen BK164.out 1; have hfz33_2 := blk_frozen BK164.out 2; have hfz33_3 := blk_frozen BK164.out 3; have hfz33_4 := blk_frozen BK164.out 4) | (go_at_call 26; (with_reducible refine (when_Right.calls a0_0 a0_1 a0_2 a4_0 a4_1 a4_2 a4_3 t168 _ A25.out).mono ?_); rintro e w34 ⟨rfl, hb⟩; have n0_ := Aside0.mk (blk_below (g := gb162) (o := .cells #[.int .i64 a0_0, .int .i64 a0_1, .int .i64 a0_2] 23 (0, 0)) (by (with_reducible repeat (first | refine blk_drewN ?_ _ | refine blk_drew ?_ | refine blk_alloc ?_ _)); exact BK162.out) hb); have n1_ := Aside0.mk (blk_below (g := gb163) (o := .cells #[.int .u32 a3_0, .int .u8 a3_1, .int .i64 a3_2, .int .i64 a3_3, .int .i64 a3_4] 28 (0, 0)) (by (with_reducible repeat (first | refine blk_drewN ?_ _ | refine blk_drew ?_ | refine blk_alloc ?_ _)); exact BK163.out) hb); have n2_ := Aside0.mk (blk_below (g := gb164) (o := .cells #[.int .u32 a4_0, .int .u8 a4_1, .int .i64 a4_2, .int .i64 a4_3, .int .i64 a4_4] 28 (0, 0)) (by (with_reducible repeat (first | refine blk_drewN ?_ _ | refine blk_drew ?_ | refine blk_alloc ?_ _)); exact BK164.out) hb); have n3_ := Aside0.mk (below_step (by repeat (first | (with_reducible first | exact HB.out | apply below_alloc | apply pw_below_drewN | apply below_drew1 | refine below_set ?_ GE162.out | refine below_set ?_ GE163.out | refine below_set ?_ GE164.out) | exact HB.out)) hb); clear BK162; clear BK163; clear BK164; clear HB; have BK162 := n0_; have BK163 := n1_; have BK164 := n2_; have HB := n3_; clear n0_ n1_ n2_ n3_; (try clear hb); (try clear hb2); (try clear hk); (try clear hi)))
      go_meet
      case rel => exact ⟨_, (!t168), (by first | rfl | (simp; done) | (simp [*]; done)), H', ⟨by have := HJ6.out; first | omega | exact Nat.le_refl _⟩, ⟨by (with_reducible repeat (first | refine blk_drewN ?_ _ | refine blk_drew ?_ | refine blk_alloc ?_ _)); exact BK162.out⟩, ⟨by (with_reducible repeat (first | refine blk_drewN ?_ _ | refine blk_drew ?_ | refine blk_alloc ?_ _)); exact BK163.out⟩, ⟨by (with_reducible repeat (first | refine blk_drewN ?_ _ | refine blk_drew ?_ | refine blk_alloc ?_ _)); exact BK164.out⟩, ⟨by repeat (first | (with_reducible first | exact HB.out | apply below_alloc | apply pw_below_drewN | apply below_drew1 | refine below_set ?_ GE162.out | refine below_set ?_ GE163.out | refine below_set ?_ GE164.out) | exact HB.out)⟩⟩
     ·
      replace c24 := Bool.eq_false_iff.mpr c24
      subst c24
      have H1 : (pair_Holds.j1 kj6 a1 a2 a5 x13_6 true a0_0 a0_1 a0_2 a3_0 a3_1 a3_2 a3_3 a3_4 a4_0 a4_1 a4_2 a4_3 a4_4) = some r := by rw [if_neg (show ¬ (false = true) by decide)] at H; exact H
      clear H
      have H := H1
      clear H1
      have H' := Aside0.mk H
      clear H
      have hnb35 := NB162_163.out
      have hnc35 := NB163_162.out
      have hnb36 := NB162_164.out
      have hnc36 := NB164_162.out
      have hcz37_0 : wc.cell? ⟨gb162, 0, none⟩ = some (.int .i64 a0_0) := (blk_cell BK162.out 0).trans rfl
      have hcz37_1 : wc.cell? ⟨gb162, 1, none⟩ = some (.int .i64 a0_1) := (blk_cell BK162.out 1).trans rfl
      have hcz37_2 : wc.cell? ⟨gb162, 2, none⟩ = some (.int .i64 a0_2) := (blk_cell BK162.out 2).trans rfl
      have hfz37_0 := blk_frozen BK162.out 0
      have hfz37_1 := blk_frozen BK162.out 1
      have hfz37_2 := blk_frozen BK162.out 2
      have hnb38 := NB163_164.out
      have hnc38 := NB164_163.out
      have hcz39_0 : wc.cell? ⟨gb163, 0, none⟩ = some (.int .u32 a3_0) := (blk_cell BK163.out 0).trans rfl
      have hcz39_1 : wc.cell? ⟨gb163, 1, none⟩ = some (.int .u8 a3_1) := (blk_cell BK163.out 1).trans rfl
      have hcz39_2 : wc.cell? ⟨gb163, 2, none⟩ = some (.int .i64 a3_2) := (blk_cell BK163.out 2).trans rfl
      have hcz39_3 : wc.cell? ⟨gb163, 3, none⟩ = some (.int .i64 a3_3) := (blk_cell BK163.out 3).trans rfl
      have hcz39_4 : wc.cell? ⟨gb163, 4, none⟩ = some (.int .i64 a3_4) := (blk_cell BK163.out 4).trans rfl
      have hfz39_0 := blk_frozen BK163.out 0
      have hfz39_1 := blk_frozen BK163.out 1
      have hfz39_2 := blk_frozen BK163.out 2
      have hfz39_3 := blk_frozen BK163.out 3
      have hfz39_4 := blk_frozen BK163.out 4
      go_wp2_with (first | (go_at_call 26; (with_reducible refine (when_Right.calls a0_0 a0_1 a0_2 a3_0 a3_1 a3_2 a3_3 false _ A23.out).mono ?_); rintro e w40 ⟨rfl, hb⟩; have n0_ := Aside0.mk (blk_below (g := gb162) (o := .cells #[.int .i64 a0_0, .int .i64 a0_1, .int .i64 a0_2] 23 (0, 0)) (by (with_reducible repeat (first | refine blk_drewN ?_ _ | refine blk_drew ?_ | refine blk_alloc ?_ _)); exact BK162.out) hb); have n1_ := Aside0.mk (blk_below (g := gb163) (o := .cells #[.int .u32 a3_0, .int .u8 a3_1, .int .i64 a3_2, .int .i64 a3_3, .int .i64 a3_4] 28 (0, 0)) (by (with_reducible repeat (first | refine blk_drewN ?_ _ | refine blk_drew ?_ | refine blk_alloc ?_ _)); exact BK163.out) hb); have n2_ := Aside0.mk (blk_below (g := gb164) (o := .cells #[.int .u32 a4_0, .int .u8 a4_1, .int .i64 a4_2, .int .i64 a4_3, .int .i64 a4_4] 28 (0, 0)) (by (with_reducible repeat (first | refine blk_drewN ?_ _ | refine blk_drew ?_ | refine blk_alloc ?_ _)); exact BK164.out) hb); have n3_ := Aside0.mk (below_step (by repeat (first | (with_reducible first | exact HB.out | apply below_alloc | apply pw_below_drewN | apply below_drew1 | refine below_set ?_ GE162.out | refine below_set ?_ GE163.out | refine below_set ?_ GE164.out) | exact HB.out)) hb); clear BK162; clear BK163; clear BK164; clear HB; have BK162 := n0_; have BK163 := n1_; have BK164 := n2_; have HB := n3_; clear n0_ n1_ n2_ n3_; (try clear hb); (try clear hb2); (try clear hk); (try clear hi)))
      go_meet
      case rel => exact ⟨_, (true), (by first | rfl | (simp; done) | (simp [*]; done)), H', ⟨by have := HJ6.out; first | omega | exact Nat.le_refl _⟩, ⟨by (with_reducible repeat (first | refine blk_drewN ?_ _ | refine blk_drew ?_ | refine blk_alloc ?_ _)); exact BK162.out⟩, ⟨by (with_reducible repeat (first | refine blk_drewN ?_ _ | refine blk_drew ?_ | refine blk_alloc ?_ _)); exact BK163.out⟩, ⟨by (with_reducible repeat (first | refine blk_drewN ?_ _ | refine blk_drew ?_ | refine blk_alloc ?_ _)); exact BK164.out⟩, ⟨by repeat (first | (with_reducible first | exact HB.out | apply below_alloc | apply pw_below_drewN | apply below_drew1 | refine below_set ?_ GE162.out | refine below_set ?_ GE163.out | refine below_set ?_ GE164.out) | exact HB.out)⟩⟩
    ·
     replace c22 := Bool.eq_false_iff.mpr c22
     subst c22
     have H1 : (pair_Holds.j1 kj6 a1 a2 a5 x13_6 false a0_0 a0_1 a0_2 a3_0 a3_1 a3_2 a3_3 a3_4 a4_0 a4_1 a4_2 a4_3 a4_4) = some r := by rw [if_neg (show ¬ (false = true) by decide)] at H; exact H
     clear H
     have H := H1
     clear H1
     have H' := Aside0.mk H
     clear H
     go_wp2
     go_meet
     case rel => exact ⟨_, (false), (by first | rfl | (simp; done) | (simp [*]; done)), H', ⟨by have := HJ6.out; first | omega | exact Nat.le_refl _⟩, ⟨by (with_reducible repeat (first | refine blk_drewN ?_ _ | refine blk_drew ?_ | refine blk_alloc ?_ _)); exact BK162.out⟩, ⟨by (with_reducible repeat (first | refine blk_drewN ?_ _ | refine blk_drew ?_ | refine blk_alloc ?_ _)); exact BK163.out⟩, ⟨by (with_reducible repeat (first | refine blk_drewN ?_ _ | refine blk_drew ?_ | refine blk_alloc ?_ _)); exact BK164.out⟩, ⟨by repeat (first | (with_reducible first | exact HB.out | apply below_alloc | apply pw_below_drewN | apply below_drew1 | refine below_set ?_ GE162.out | refine below_set ?_ GE163.out | refine below_set ?_ GE164.out) | exact HB.out)⟩⟩
   case rest =>
    clear HC21
    try clear c2
    try clear c3
    try clear c22
    try clear c24
    try clear c26
    try clear c27
    try clear c29
    try clear c35
    try clear c36
    try clear c38
    try clear hcz28_0
    try clear hcz28_1
    try clear hcz28_2
    try clear hcz30_0
    try clear hcz30_1
    try clear hcz30_2
    try clear hcz30_3
    try clear hcz30_4
    try clear hcz32_0
    try clear hcz32_1
    try clear hcz32_2
    try clear hcz33_0
    try clear hcz33_1
    try clear hcz33_2
    try clear hcz33_3
    try clear hcz33_4
    try clear hcz37_0
    try clear hcz37_1
    try clear hcz37_2
    try clear hcz39_0
    try clear hcz39_1
    try clear hcz39_2
    try clear hcz39_3
    try clear hcz39_4
    try clear hfz28_0
    try clear hfz28_1
    try clear hfz28_2
    try clear hfz30_0
    try clear hfz30_1
    try clear hfz30_2
    try clear hfz30_3
    try clear hfz30_4
    try clear hfz32_0
    try clear hfz32_1
    try clear hfz32_2
    try clear hfz33_0
    try clear hfz33_1
    try clear hfz33_2
    try clear hfz33_3
    try clear hfz33_4
    try clear hfz37_0
    try clear hfz37_1
    try clear hfz37_2
    try clear hfz39_0
    try clear hfz39_1
    try clear hfz39_2
    try clear hfz39_3
    try clear hfz39_4
    obtain ⟨kq, x50_20, rfl, HA, HJ20, BK162, BK163, BK164, HB⟩ := hcut
    cases kq with
    | zero => exact absurd HA.out (by simp [pair_Holds.j1])
    | succ kj20 =>
     have H := HA.out
     clear HA
     simp only [pair_Holds.j1] at H
     by_cases c41 : x50_20 = true
     ·
      subst c41
      have H1 : (some false) = some r := by rw [if_pos rfl] at H; exact H
      clear H
      have H := H1
      clear H1
      obtain rfl := Option.some.inj H
      go_wp2
      go_ret
      exact ⟨by first | rfl | (simp [errW_none, errW_some] <;> rfl) | (simp [*, errW_none, errW_some] <;> rfl), by repeat (first | (with_reducible first | exact HB.out | apply below_alloc | apply pw_below_drewN | apply below_drew1 | refine below_set ?_ GE162.out | refine below_set ?_ GE163.out | refine below_set ?_ GE164.out) | exact HB.out)⟩
     ·
      replace c41 := Bool.eq_false_iff.mpr c41
      subst c41
      have H1 : ((pair_slots.f kj20 a3_0 a3_1 a3_2 a3_3 a4_0 a4_1 a4_2 a4_3).bind fun bt171 => (if a1 = 11 then (pair_Holds.j2 kj20 x13_6 true) else (if a1 = 10 then (pair_Holds.j2 kj20 x13_6 false) else (if a1 = 9 then (pair_Holds.j3 kj20 true a3_0 a3_1 a3_2 a3_3 a4_0 a4_1 a4_2 a4_3) else (if a1 = 8 then (pair_Holds.j3 kj20 false a3_0 a3_1 a3_2 a3_3 a4_0 a4_1 a4_2 a4_3) else (if a1 = 1 then (some (a3_2 == a4_2)) else (if a1 = 2 then (some bt171.1) else (if a1 = 3 then (some (!bt171.2)) else (if a1 = 4 then ((pair_inside.f ((a3_1) % 4294967296) ((a4_1) % 4294967296)).bind fun t174 => (some t174)) else (if a1 = 5 then (some ((Go.bits .and .u8 a3_1 a4_1) == 0)) else (if a1 = 6 then ((pair_inside.f a3_0 a4_0).bind fun t175 => (some t175)) else (if a1 = 7 then (some ((Go.bits .and .u32 a3_0 a4_0) == 0)) else (if a1 = 12 then ((pair_ahead.f kj20 a0_0 a0_1 a0_2 a3_0 a3_1 a3_2 a3_3 a4_0 a4_1 a4_2 a4_3).bind fun t176 => (some t176)) else (if a1 = 13 then ((pair_short.f a3_0 a3_1 a3_2 a3_3 a4_0 a4_1 a4_2 a4_3 a2).bind fun t177 => (some t177)) else (if a1 = 14 then ((person_Reach.f a3_0 a3_1 a3_2 a3_3 a4_0 a4_1 a4_2 a4_3 a5).bind fun t178 => (some t178)) else (some false)))))))))))))))) = some r := by rw [if_neg (show ¬ (false = true) by decide)] at H; exact H
      clear H
      have H := H1
      clear H1
      replace H := Option.bind_eq_some_iff.mp H
      obtain ⟨⟨t171, t172⟩, A420, H⟩ := H
      replace H : (if a1 = 11 then (pair_Holds.j2 kj20 x13_6 true) else (if a1 = 10 then (pair_Holds.j2 kj20 x13_6 false) else (if a1 = 9 then (pair_Holds.j3 kj20 true a3_0 a3_1 a3_2 a3_3 a4_0 a4_1 a4_2 a4_3) else (if a1 = 8 then (pair_Holds.j3 kj20 false a3_0 a3_1 a3_2 a3_3 a4_0 a4_1 a4_2 a4_3) else (if a1 = 1 then (some (a3_2 == a4_2)) else (if a1 = 2 then (some t171) else (if a1 = 3 then (some (!t172)) else (if a1 = 4 then ((pair_inside.f ((a3_1) % 4294967296) ((a4_1) % 4294967296)).bind fun t174 => (some t174)) else (if a1 = 5 then (some ((Go.bits .and .u8 a3_1 a4_1) == 0)) else (if a1 = 6 then ((pair_inside.f a3_0 a4_0).bind fun t175 => (some t175)) else (if a1 = 7 then (some ((Go.bits .and .u32 a3_0 a4_0) == 0)) else (if a1 = 12 then ((pair_ahead.f kj20 a0_0 a0_1 a0_2 a3_0 a3_1 a3_2 a3_3 a4_0 a4_1 a4_2 a4_3).bind fun t176 => (some t176)) else (if a1 = 13 then ((pair_short.f a3_0 a3_1 a3_2 a3_3 a4_0 a4_1 a4_2 a4_3 a2).bind fun t177 => (some t177)) else (if a1 = 14 then ((person_Reach.f a3_0 a3_1 a3_2 a3_3 a4_0 a4_1 a4_2 a4_3 a5).bind fun t178 => (some t178)) else (some false))))))))))))))) = some r := H
      have A42 := Aside0.mk A420
      clear A420
      have HC43 := Aside0.mk H
      clear H
      try go_wp2
      have n0_ := Aside0.mk (blk_drew BK162.out)
      have n1_ := Aside0.mk (blk_drew BK163.out)
      have n2_ := Aside0.mk (blk_drew BK164.out)
      have n3_ := Aside0.mk (below_drew1 HB.out)
      clear BK162
      clear BK163
      clear BK164
      clear HB
      have BK162 := n0_
      have BK163 := n1_
      have BK164 := n2_
      have HB := n3_
      clear n0_ n1_ n2_ n3_
      refine start_ (n := 8) (S := fun w' => w'.cell? ⟨gb163, 0, none⟩ = some (.int .u32 a3_0) ∧ w'.cell? ⟨gb163, 1, none⟩ = some (.int .u8 a3_1) ∧ w'.cell? ⟨gb163, 2, none⟩ = some (.int .i64 a3_2) ∧ w'.cell? ⟨gb163, 3, none⟩ = some (.int .i64 a3_3) ∧ w'.cell? ⟨gb163, 4, none⟩ = some (.int .i64 a3_4) ∧ w'.cell? ⟨gb164, 0, none⟩ = some (.int .u32 a4_0) ∧ w'.cell? ⟨gb164, 1, none⟩ = some (.int .u8 a4_1) ∧ w'.cell? ⟨gb164, 2, none⟩ = some (.int .i64 a4_2) ∧ w'.cell? ⟨gb164, 3, none⟩ = some (.int .i64 a4_3) ∧ w'.cell? ⟨gb164, 4, none⟩ = some (.int .i64 a4_4)) (ds := []) #[false, false, false, false, false, false, false, false] (by kernel_rfl) rfl rfl ⟨(blk_cell BK163.out 0).trans rfl, (blk_cell BK163.out 1).trans rfl, (blk_cell BK163.out 2).trans rfl, (blk_cell BK163.out 3).trans rfl, (blk_cell BK163.out 4).trans rfl, (blk_cell BK164.out 0).trans rfl, (blk_cell BK164.out 1).trans rfl, (blk_cell BK164.out 2).trans rfl, (blk_cell BK164.out 3).trans rfl, (blk_cell BK164.out 4).trans rfl⟩ (fun hHeld => ?_); refine with_tabW pair_Holds.tab5 pair_Holds.bits5 (fun HT_ HW_ => ?_)
      generalize wc.drew = w44 at BK162 BK163 BK164 HB hHeld ⊢
      refine pure_ (i := 0) (N := some 51) (v := ?_) (a' := ?_) #[true, false, false, false, false, false, false, false] rfl rfl (any_of HT_.out (by kernel_rfl)) (fun _ _ _ h => h) (Or.inl ⟨by rfl, ?_⟩) ?_ ?_
      rotate_left
      ·
       intro w'
       go_simp
       with_reducible rfl
      rotate_left
      ·
       simp only [Act.put, List.setIfInBounds_toArray, List.set_cons_zero, List.set_cons_succ, i64_w, i32_w]
       rfl
      refine pure_ (i := 2) (N := some 53) (v := ?_) (a' := ?_) #[true, false, true, false, false, false, false, false] rfl rfl (any_of HT_.out (by kernel_rfl)) (fun _ _ _ h => h) (Or.inl ⟨by rfl, ?_⟩) ?_ ?_
      rotate_left
      ·
       intro w'
       go_simp
       with_reducible rfl
      rotate_left
      ·
       simp only [Act.put, List.setIfInBounds_toArray, List.set_cons_zero, List.set_cons_succ, i64_w, i32_w]
       rfl
      refine take_ (i := 1) (N := some 52) (v := ?_) (a' := ?_) #[true, true, true, false, false, false, false, false] rfl rfl (take_ofW HT_.out HW_.out (by kernel_rfl)) (fun _ _ _ h => h) (Or.inl ⟨by rfl, ?_⟩) hHeld ?_ ?_
      rotate_left
      ·
       rintro w' ⟨s0, s1, s2, s3, s4, s5, s6, s7, s8, s9⟩
       go_simp
       with_reducible rfl
      rotate_left
      ·
       simp only [Act.put, List.setIfInBounds_toArray, List.set_cons_zero, List.set_cons_succ, i64_w, i32_w]
       rfl
      refine take_ (i := 3) (N := some 54) (v := ?_) (a' := ?_) #[true, true, true, true, false, false, false, false] rfl rfl (take_ofW HT_.out HW_.out (by kernel_rfl)) (fun _ _ _ h => h) (Or.inl ⟨by rfl, ?_⟩) hHeld ?_ ?_
      rotate_left
      ·
       rintro w' ⟨s0, s1, s2, s3, s4, s5, s6, s7, s8, s9⟩
       go_simp
       with_reducible rfl
      rotate_left
      ·
       simp only [Act.put, List.setIfInBounds_toArray, List.set_cons_zero, List.set_cons_succ, i64_w, i32_w]
       rfl
      refine join_ (σ := Nat × Nat) 2 #[true, true, true, true, true, true, false, false] (fun s_ => [(16, .pointer (some ⟨s_.1, 0, none⟩)), (17, .pointer (some ⟨s_.2, 0, none⟩))]) (fun s_ w' => (w'.cell? ⟨gb163, 0, none⟩ = some (.int .u32 a3_0) ∧ w'.cell? ⟨gb163, 1, none⟩ = some (.int .u8 a3_1) ∧ w'.cell? ⟨gb163, 2, none⟩ = some (.int .i64 a3_2) ∧ w'.cell? ⟨gb163, 3, none⟩ = some (.int .i64 a3_3) ∧ w'.cell? ⟨gb163, 4, none⟩ = some (.int .i64 a3_4) ∧ w'.cell? ⟨gb164, 0, none⟩ = some (.int .u32 a4_0) ∧ w'.cell? ⟨gb164, 1, none⟩ = some (.int .u8 a4_1) ∧ w'.cell? ⟨gb164, 2, none⟩ = some (.int .i64 a4_2) ∧ w'.cell? ⟨gb164, 3, none⟩ = some (.int .i64 a4_3) ∧ w'.cell? ⟨gb164, 4, none⟩ = some (.int .i64 a4_4)) ∧ (w'.heap[gb162]? = some (.cells #[.int .i64 a0_0, .int .i64 a0_1, .int .i64 a0_2] 23 (0, 0))) ∧ (w'.heap[gb163]? = some (.cells #[.int .u32 a3_0, .int .u8 a3_1, .int .i64 a3_2, .int .i64 a3_3, .int .i64 a3_4] 28 (0, 0))) ∧ (w'.heap[gb164]? = some (.cells #[.int .u32 a4_0, .int .u8 a4_1, .int .i64 a4_2, .int .i64 a4_3, .int .i64 a4_4] 28 (0, 0))) ∧ (w'.heap[s_.1]? = some (.cells #[.int .u32 0, .int .u8 0, .int .i64 0, .int .i64 0] 26 (0, 0))) ∧ (w'.heap[s_.2]? = some (.cells #[.int .u32 0, .int .u8 0, .int .i64 0, .int .i64 0] 26 (0, 0))) ∧ (w.heap.size ≤ s_.1) ∧ (w.heap.size ≤ s_.1) ∧ (gb162 ≠ s_.1) ∧ (s_.1 ≠ gb162) ∧ (gb163 ≠ s_.1) ∧ (s_.1 ≠ gb163) ∧ (gb164 ≠ s_.1) ∧ (s_.1 ≠ gb164) ∧ (s_.2 ≠ s_.1) ∧ (s_.1 ≠ s_.2) ∧ (w.heap.size ≤ s_.2) ∧ (w.heap.size ≤ s_.2) ∧ (gb162 ≠ s_.2) ∧ (s_.2 ≠ gb162) ∧ (gb163 ≠ s_.2) ∧ (s_.2 ≠ gb163) ∧ (gb164 ≠ s_.2) ∧ (s_.2 ≠ gb164) ∧ (Below w.heap.size w w')) ?_ ?_
      rotate_left
      ·
       intro hCont
       refine two_ (i := 4) (j := 5) (Ni := some 16) (Nj := some 17) #[true, true, true, true, true, false, false, false] #[true, true, true, true, false, true, false, false] rfl rfl rfl rfl (two_of HT_.out (by kernel_rfl)) (by decide) (by decide) (fun K hK => ?_) (fun K hK => ?_)
       ·
        skip
        refine box_step ?hg (N := 16) ?hd (cs := #[.int .u32 0, .int .u8 0, .int .i64 0, .int .i64 0]) (t := 26) ?hr ?_; (case hd => rfl); (case hg => rfl); (case hr => first | (go_simp; done) | (go_simp; rfl))
        intro gb169 hg w45 hbox hb
        have n0_ := Aside0.mk (blk_below (g := gb162) (o := .cells #[.int .i64 a0_0, .int .i64 a0_1, .int .i64 a0_2] 23 (0, 0)) (by (with_reducible repeat (first | refine blk_drewN ?_ _ | refine blk_drew ?_ | refine blk_alloc ?_ _)); exact BK162.out) hb)
        have n1_ := Aside0.mk (blk_below (g := gb163) (o := .cells #[.int .u32 a3_0, .int .u8 a3_1, .int .i64 a3_2, .int .i64 a3_3, .int .i64 a3_4] 28 (0, 0)) (by (with_reducible repeat (first | refine blk_drewN ?_ _ | refine blk_drew ?_ | refine blk_alloc ?_ _)); exact BK163.out) hb)
        have n2_ := Aside0.mk (blk_below (g := gb164) (o := .cells #[.int .u32 a4_0, .int .u8 a4_1, .int .i64 a4_2, .int .i64 a4_3, .int .i64 a4_4] 28 (0, 0)) (by (with_reducible repeat (first | refine blk_drewN ?_ _ | refine blk_drew ?_ | refine blk_alloc ?_ _)); exact BK164.out) hb)
        have n3_ := Aside0.mk (below_step (by repeat (first | (with_reducible first | exact HB.out | apply below_alloc | apply pw_below_drewN | apply below_drew1 | refine below_set ?_ GE162.out | refine below_set ?_ GE163.out | refine below_set ?_ GE164.out) | exact HB.out)) hb)
        have n4_ := Aside0.mk (hbox)
        have n5_ := Aside0.mk ((by rw [hg]; exact (below_size (by repeat (first | (with_reducible first | exact HB.out | apply below_alloc | apply pw_below_drewN | apply below_drew1 | refine below_set ?_ GE162.out | refine below_set ?_ GE163.out | refine below_set ?_ GE164.out) | exact HB.out))) : w.heap.size ≤ gb169))
        have n6_ := Aside0.mk ((by rw [hg]; exact (below_size (by repeat (first | (with_reducible first | exact HB.out | apply below_alloc | apply pw_below_drewN | apply below_drew1 | refine below_set ?_ GE162.out | refine below_set ?_ GE163.out | refine below_set ?_ GE164.out) | exact HB.out))) : w.heap.size ≤ gb169))
        have n7_ := Aside0.mk ((by rw [hg]; exact Nat.ne_of_lt (blk_lt (g := gb162) (o := .cells #[.int .i64 a0_0, .int .i64 a0_1, .int .i64 a0_2] 23 (0, 0)) (by (with_reducible repeat (first | refine blk_drewN ?_ _ | refine blk_drew ?_ | refine blk_alloc ?_ _)); exact BK162.out)) : gb162 ≠ gb169))
        have n8_ := Aside0.mk ((by rw [hg]; exact Nat.ne_of_gt (blk_lt (g := gb162) (o := .cells #[.int .i64 a0_0, .int .i64 a0_1, .int .i64 a0_2] 23 (0, 0)) (by (with_reducible repeat (first | refine blk_drewN ?_ _ | refine blk_drew ?_ | refine blk_alloc ?_ _)); exact BK162.out)) : gb169 ≠ gb162))
        have n9_ := Aside0.mk ((by rw [hg]; exact Nat.ne_of_lt (blk_lt (g := gb163) (o := .cells #[.int .u32 a3_0, .int .u8 a3_1, .int .i64 a3_2, .int .i64 a3_3, .int .i64 a3_4] 28 (0, 0)) (by (with_reducible repeat (first | refine blk_drewN ?_ _ | refine blk_drew ?_ | refine blk_alloc ?_ _)); exact BK163.out)) : gb163 ≠ gb169))
        have n10_ := Aside0.mk ((by rw [hg]; exact Nat.ne_of_gt (blk_lt (g := gb163) (o := .cells #[.int .u32 a3_0, .int .u8 a3_1, .int .i64 a3_2, .int .i64 a3_3, .int .i64 a3_4] 28 (0, 0)) (by (with_reducible repeat (first | refine blk_drewN ?_ _ | refine blk_drew ?_ | refine blk_alloc ?_ _)); exact BK163.out)) : gb169 ≠ gb163))
        have n11_ := Aside0.mk ((by rw [hg]; exact Nat.ne_of_lt (blk_lt (g := gb164) (o := .cells #[.int .u32 a4_0, .int .u8 a4_1, .int .i64 a4_2, .int .i64 a4_3, .int .i64 a4_4] 28 (0, 0)) (by (with_reducible repeat (first | refine blk_drewN ?_ _ | refine blk_drew ?_ | refine blk_alloc ?_ _)); exact BK164.out)) : gb164 ≠ gb169))
        have n12_ := Aside0.mk ((by rw [hg]; exact Nat.ne_of_gt (blk_lt (g := gb164) (o := .cells #[.int .u32 a4_0, .int .u8 a4_1, .int .i64 a4_2, .int .i64 a4_3, .int .i64 a4_4] 28 (0, 0)) (by (with_reducible repeat (first | refine blk_drewN ?_ _ | refine blk_drew ?_ | refine blk_alloc ?_ _)); exact BK164.out)) : gb169 ≠ gb164))
        clear BK162
        clear BK163
        clear BK164
        clear HB
        have BK162 := n0_
        have BK163 := n1_
        have BK164 := n2_
        have HB := n3_
        have BK169 := n4_
        have GW169 := n5_
        have GE169 := n6_
        have NB162_169 := n7_
        have NB169_162 := n8_
        have NB163_169 := n9_
        have NB169_163 := n10_
        have NB164_169 := n11_
        have NB169_164 := n12_
        clear n0_ n1_ n2_ n3_ n4_ n5_ n6_ n7_ n8_ n9_ n10_ n11_ n12_
        clear hb hbox hg
        refine hK.out _ _ ⟨(blk_cell BK163.out 0).trans rfl, (blk_cell BK163.out 1).trans rfl, (blk_cell BK163.out 2).trans rfl, (blk_cell BK163.out 3).trans rfl, (blk_cell BK163.out 4).trans rfl, (blk_cell BK164.out 0).trans rfl, (blk_cell BK164.out 1).trans rfl, (blk_cell BK164.out 2).trans rfl, (blk_cell BK164.out 3).trans rfl, (blk_cell BK164.out 4).trans rfl⟩ (fun hHeld => ?_)
        clear hK K
        refine norm_ (a' := ?_) ?_ ?_
        rotate_left
        ·
         show Act.put _ (some 16) _ = _
         simp only [Act.put, List.setIfInBounds_toArray, List.set_cons_zero, List.set_cons_succ, i64_w, i32_w]
         rfl
        refine one_ (i := 5) (N := some 17) #[true, true, true, true, true, true, false, false] rfl rfl (one_of HT_.out (by kernel_rfl)) (by decide) (fun K hK => ?_)
        refine box_step ?hg (N := 17) ?hd (cs := #[.int .u32 0, .int .u8 0, .int .i64 0, .int .i64 0]) (t := 26) ?hr ?_; (case hd => rfl); (case hg => rfl); (case hr => first | (go_simp; done) | (go_simp; rfl))
        intro gb170 hg w46 hbox hb
        have n0_ := Aside0.mk (blk_below (g := gb162) (o := .cells #[.int .i64 a0_0, .int .i64 a0_1, .int .i64 a0_2] 23 (0, 0)) (by (with_reducible repeat (first | refine blk_drewN ?_ _ | refine blk_drew ?_ | refine blk_alloc ?_ _)); exact BK162.out) hb)
        have n1_ := Aside0.mk (blk_below (g := gb163) (o := .cells #[.int .u32 a3_0, .int .u8 a3_1, .int .i64 a3_2, .int .i64 a3_3, .int .i64 a3_4] 28 (0, 0)) (by (with_reducible repeat (first | refine blk_drewN ?_ _ | refine blk_drew ?_ | refine blk_alloc ?_ _)); exact BK163.out) hb)
        have n2_ := Aside0.mk (blk_below (g := gb164) (o := .cells #[.int .u32 a4_0, .int .u8 a4_1, .int .i64 a4_2, .int .i64 a4_3, .int .i64 a4_4] 28 (0, 0)) (by (with_reducible repeat (first | refine blk_drewN ?_ _ | refine blk_drew ?_ | refine blk_alloc ?_ _)); exact BK164.out) hb)
        have n3_ := Aside0.mk (blk_below (g := gb169) (o := .cells #[.int .u32 0, .int .u8 0, .int .i64 0, .int .i64 0] 26 (0, 0)) (by (with_reducible repeat (first | refine blk_drewN ?_ _ | refine blk_drew ?_ | refine blk_alloc ?_ _)); exact BK169.out) hb)
        have n4_ := Aside0.mk (below_step (by repeat (first | (with_reducible first | exact HB.out | apply below_alloc | apply pw_below_drewN | apply below_drew1 | refine below_set ?_ GE162.out | refine below_set ?_ GE163.out | refine below_set ?_ GE164.out | refine below_set ?_ GE169.out) | exact HB.out)) hb)
        have n5_ := Aside0.mk (hbox)
        have n6_ := Aside0.mk ((by rw [hg]; exact (below_size (by repeat (first | (with_reducible first | exact HB.out | apply below_alloc | apply pw_below_drewN | apply below_drew1 | refine below_set ?_ GE162.out | refine below_set ?_ GE163.out | refine below_set ?_ GE164.out | refine below_set ?_ GE169.out) | exact HB.out))) : w.heap.size ≤ gb170))
        have n7_ := Aside0.mk ((by rw [hg]; exact (below_size (by repeat (first | (with_reducible first | exact HB.out | apply below_alloc | apply pw_below_drewN | apply below_drew1 | refine below_set ?_ GE162.out | refine below_set ?_ GE163.out | refine below_set ?_ GE164.out | refine below_set ?_ GE169.out) | exact HB.out))) : w.heap.size ≤ gb170))
        have n8_ := Aside0.mk ((by rw [hg]; exact Nat.ne_of_lt (blk_lt (g := gb162) (o := .cells #[.int .i64 a0_0, .int .i64 a0_1, .int .i64 a0_2] 23 (0, 0)) (by (with_reducible repeat (first | refine blk_drewN ?_ _ | refine blk_drew ?_ | refine blk_alloc ?_ _)); exact BK162.out)) : gb162 ≠ gb170))
        have n9_ := Aside0.mk ((by rw [hg]; exact Nat.ne_of_gt (blk_lt (g := gb162) (o := .cells #[.int .i64 a0_0, .int .i64 a0_1, .int .i64 a0_2] 23 (0, 0)) (by (with_reducible repeat (first | refine blk_drewN ?_ _ | refine blk_drew ?_ | refine blk_alloc ?_ _)); exact BK162.out)) : gb170 ≠ gb162))
        have n10_ := Aside0.mk ((by rw [hg]; exact Nat.ne_of_lt (blk_lt (g := gb163) (o := .cells #[.int .u32 a3_0, .int .u8 a3_1, .int .i64 a3_2, .int .i64 a3_3, .int .i64 a3_4] 28 (0, 0)) (by (with_reducible repeat (first | refine blk_drewN ?_ _ | refine blk_drew ?_ | refine blk_alloc ?_ _)); exact BK163.out)) : gb163 ≠ gb170))
        have n11_ := Aside0.mk ((by rw [hg]; exact Nat.ne_of_gt (blk_lt (g := gb163) (o := .cells #[.int .u32 a3_0, .int .u8 a3_1, .int .i64 a3_2, .int .i64 a3_3, .int .i64 a3_4] 28 (0, 0)) (by (with_reducible repeat (first | refine blk_drewN ?_ _ | refine blk_drew ?_ | refine blk_alloc ?_ _)); exact BK163.out)) : gb170 ≠ gb163))
        have n12_ := Aside0.mk ((by rw [hg]; exact Nat.ne_of_lt (blk_lt (g := gb164) (o := .cells #[.int .u32 a4_0, .int .u8 a4_1, .int .i64 a4_2, .int .i64 a4_3, .int .i64 a4_4] 28 (0, 0)) (by (with_reducible repeat (first | refine blk_drewN ?_ _ | refine blk_drew ?_ | refine blk_alloc ?_ _)); exact BK164.out)) : gb164 ≠ gb170))
        have n13_ := Aside0.mk ((by rw [hg]; exact Nat.ne_of_gt (blk_lt (g := gb164) (o := .cells #[.int .u32 a4_0, .int .u8 a4_1, .int .i64 a4_2, .int .i64 a4_3, .int .i64 a4_4] 28 (0, 0)) (by (with_reducible repeat (first | refine blk_drewN ?_ _ | refine blk_drew ?_ | refine blk_alloc ?_ _)); exact BK164.out)) : gb170 ≠ gb164))
        have n14_ := Aside0.mk ((by rw [hg]; exact Nat.ne_of_lt (blk_lt (g := gb169) (o := .cells #[.int .u32 0, .int .u8 0, .int .i64 0, .int .i64 0] 26 (0, 0)) (by (with_reducible repeat (first | refine blk_drewN ?_ _ | refine blk_drew ?_ | refine blk_alloc ?_ _)); exact BK169.out)) : gb169 ≠ gb170))
        have n15_ := Aside0.mk ((by rw [hg]; exact Nat.ne_of_gt (blk_lt (g := gb169) (o := .cells #[.int .u32 0, .int .u8 0, .int .i64 0, .int .i64 0] 26 (0, 0)) (by (with_reducible repeat (first | refine blk_drewN ?_ _ | refine blk_drew ?_ | refine blk_alloc ?_ _)); exact BK169.out)) : gb170 ≠ gb169))
        clear BK162
        clear BK163
        clear BK164
        clear BK169
        clear HB
        have BK162 := n0_
        have BK163 := n1_
        have BK164 := n2_
        have BK169 := n3_
        have HB := n4_
        have BK170 := n5_
        have GW170 := n6_
        have GE170 := n7_
        have NB162_170 := n8_
        have NB170_162 := n9_
        have NB163_170 := n10_
        have NB170_163 := n11_
        have NB164_170 := n12_
        have NB170_164 := n13_
        have NB169_170 := n14_
        have NB170_169 := n15_
        clear n0_ n1_ n2_ n3_ n4_ n5_ n6_ n7_ n8_ n9_ n10_ n11_ n12_ n13_ n14_ n15_
        clear hb hbox hg
        refine hK.out _ _ ⟨(blk_cell BK163.out 0).trans rfl, (blk_cell BK163.out 1).trans rfl, (blk_cell BK163.out 2).trans rfl, (blk_cell BK163.out 3).trans rfl, (blk_cell BK163.out 4).trans rfl, (blk_cell BK164.out 0).trans rfl, (blk_cell BK164.out 1).trans rfl, (blk_cell BK164.out 2).trans rfl, (blk_cell BK164.out 3).trans rfl, (blk_cell BK164.out 4).trans rfl⟩ (fun hHeld => ?_)
        clear hK K
        refine norm_ (a' := ?_) ?_ ?_
        rotate_left
        ·
         show Act.put _ (some 17) _ = _
         simp only [Act.put, List.setIfInBounds_toArray, List.set_cons_zero, List.set_cons_succ, i64_w, i32_w]
         rfl
        exact norm_ (by simp only [putAll, Act.put, List.setIfInBounds_toArray, List.set_cons_zero, List.set_cons_succ]) (hCont (gb169, gb170) _ ⟨hHeld, (by (with_reducible repeat (first | refine blk_drewN ?_ _ | refine blk_drew ?_ | refine blk_alloc ?_ _)); exact BK162.out), (by (with_reducible repeat (first | refine blk_drewN ?_ _ | refine blk_drew ?_ | refine blk_alloc ?_ _)); exact BK163.out), (by (with_reducible repeat (first | refine blk_drewN ?_ _ | refine blk_drew ?_ | refine blk_alloc ?_ _)); exact BK164.out), (by (with_reducible repeat (first | refine blk_drewN ?_ _ | refine blk_drew ?_ | refine blk_alloc ?_ _)); exact BK169.out), (by (with_reducible repeat (first | refine blk_drewN ?_ _ | refine blk_drew ?_ | refine blk_alloc ?_ _)); exact BK170.out), GW169.out, GE169.out, NB162_169.out, NB169_162.out, NB163_169.out, NB169_163.out, NB164_169.out, NB169_164.out, NB170_169.out, NB169_170.out, GW170.out, GE170.out, NB162_170.out, NB170_162.out, NB163_170.out, NB170_163.out, NB164_170.out, NB170_164.out, (by repeat (first | (with_reducible first | exact HB.out | apply below_alloc | apply pw_below_drewN | apply below_drew1 | refine below_set ?_ GE162.out | refine below_set ?_ GE163.out | refine below_set ?_ GE164.out | refine below_set ?_ GE169.out | refine below_set ?_ GE170.out) | exact HB.out))⟩)
       ·
        skip
        refine box_step ?hg (N := 17) ?hd (cs := #[.int .u32 0, .int .u8 0, .int .i64 0, .int .i64 0]) (t := 26) ?hr ?_; (case hd => rfl); (case hg => rfl); (case hr => first | (go_simp; done) | (go_simp; rfl))
        intro gb170 hg w45 hbox hb
        have n0_ := Aside0.mk (blk_below (g := gb162) (o := .cells #[.int .i64 a0_0, .int .i64 a0_1, .int .i64 a0_2] 23 (0, 0)) (by (with_reducible repeat (first | refine blk_drewN ?_ _ | refine blk_drew ?_ | refine blk_alloc ?_ _)); exact BK162.out) hb)
        have n1_ := Aside0.mk (blk_below (g := gb163) (o := .cells #[.int .u32 a3_0, .int .u8 a3_1, .int .i64 a3_2, .int .i64 a3_3, .int .i64 a3_4] 28 (0, 0)) (by (with_reducible repeat (first | refine blk_drewN ?_ _ | refine blk_drew ?_ | refine blk_alloc ?_ _)); exact BK163.out) hb)
        have n2_ := Aside0.mk (blk_below (g := gb164) (o := .cells #[.int .u32 a4_0, .int .u8 a4_1, .int .i64 a4_2, .int .i64 a4_3, .int .i64 a4_4] 28 (0, 0)) (by (with_reducible repeat (first | refine blk_drewN ?_ _ | refine blk_drew ?_ | refine blk_alloc ?_ _)); exact BK164.out) hb)
        have n3_ := Aside0.mk (below_step (by repeat (first | (with_reducible first | exact HB.out | apply below_alloc | apply pw_below_drewN | apply below_drew1 | refine below_set ?_ GE162.out | refine below_set ?_ GE163.out | refine below_set ?_ GE164.out) | exact HB.out)) hb)
        have n4_ := Aside0.mk (hbox)
        have n5_ := Aside0.mk ((by rw [hg]; exact (below_size (by repeat (first | (with_reducible first | exact HB.out | apply below_alloc | apply pw_below_drewN | apply below_drew1 | refine below_set ?_ GE162.out | refine below_set ?_ GE163.out | refine below_set ?_ GE164.out) | exact HB.out))) : w.heap.size ≤ gb170))
        have n6_ := Aside0.mk ((by rw [hg]; exact (below_size (by repeat (first | (with_reducible first | exact HB.out | apply below_alloc | apply pw_below_drewN | apply below_drew1 | refine below_set ?_ GE162.out | refine below_set ?_ GE163.out | refine below_set ?_ GE164.out) | exact HB.out))) : w.heap.size ≤ gb170))
        have n7_ := Aside0.mk ((by rw [hg]; exact Nat.ne_of_lt (blk_lt (g := gb162) (o := .cells #[.int .i64 a0_0, .int .i64 a0_1, .int .i64 a0_2] 23 (0, 0)) (by (with_reducible repeat (first | refine blk_drewN ?_ _ | refine blk_drew ?_ | refine blk_alloc ?_ _)); exact BK162.out)) : gb162 ≠ gb170))
        have n8_ := Aside0.mk ((by rw [hg]; exact Nat.ne_of_gt (blk_lt (g := gb162) (o := .cells #[.int .i64 a0_0, .int .i64 a0_1, .int .i64 a0_2] 23 (0, 0)) (by (with_reducible repeat (first | refine blk_drewN ?_ _ | refine blk_drew ?_ | refine blk_alloc ?_ _)); exact BK162.out)) : gb170 ≠ gb162))
        have n9_ := Aside0.mk ((by rw [hg]; exact Nat.ne_of_lt (blk_lt (g := gb163) (o := .cells #[.int .u32 a3_0, .int .u8 a3_1, .int .i64 a3_2, .int .i64 a3_3, .int .i64 a3_4] 28 (0, 0)) (by (with_reducible repeat (first | refine blk_drewN ?_ _ | refine blk_drew ?_ | refine blk_alloc ?_ _)); exact BK163.out)) : gb163 ≠ gb170))
        have n10_ := Aside0.mk ((by rw [hg]; exact Nat.ne_of_gt (blk_lt (g := gb163) (o := .cells #[.int .u32 a3_0, .int .u8 a3_1, .int .i64 a3_2, .int .i64 a3_3, .int .i64 a3_4] 28 (0, 0)) (by (with_reducible repeat (first | refine blk_drewN ?_ _ | refine blk_drew ?_ | refine blk_alloc ?_ _)); exact BK163.out)) : gb170 ≠ gb163))
        have n11_ := Aside0.mk ((by rw [hg]; exact Nat.ne_of_lt (blk_lt (g := gb164) (o := .cells #[.int .u32 a4_0, .int .u8 a4_1, .int .i64 a4_2, .int .i64 a4_3, .int .i64 a4_4] 28 (0, 0)) (by (with_reducible repeat (first | refine blk_drewN ?_ _ | refine blk_drew ?_ | refine blk_alloc ?_ _)); exact BK164.out)) : gb164 ≠ gb170))
        have n12_ := Aside0.mk ((by rw [hg]; exact Nat.ne_of_gt (blk_lt (g := gb164) (o := .cells #[.int .u32 a4_0, .int .u8 a4_1, .int .i64 a4_2, .int .i64 a4_3, .int .i64 a4_4] 28 (0, 0)) (by (with_reducible repeat (first | refine blk_drewN ?_ _ | refine blk_drew ?_ | refine blk_alloc ?_ _)); exact BK164.out)) : gb170 ≠ gb164))
        clear BK162
        clear BK163
        clear BK164
        clear HB
        have BK162 := n0_
        have BK163 := n1_
        have BK164 := n2_
        have HB := n3_
        have BK170 := n4_
        have GW170 := n5_
        have GE170 := n6_
        have NB162_170 := n7_
        have NB170_162 := n8_
        have NB163_170 := n9_
        have NB170_163 := n10_
        have NB164_170 := n11_
        have NB170_164 := n12_
        clear n0_ n1_ n2_ n3_ n4_ n5_ n6_ n7_ n8_ n9_ n10_ n11_ n12_
        clear hb hbox hg
        refine hK.out _ _ ⟨(blk_cell BK163.out 0).trans rfl, (blk_cell BK163.out 1).trans rfl, (blk_cell BK163.out 2).trans rfl, (blk_cell BK163.out 3).trans rfl, (blk_cell BK163.out 4).trans rfl, (blk_cell BK164.out 0).trans rfl, (blk_cell BK164.out 1).trans rfl, (blk_cell BK164.out 2).trans rfl, (blk_cell BK164.out 3).trans rfl, (blk_cell BK164.out 4).trans rfl⟩ (fun hHeld => ?_)
        clear hK K
        refine norm_ (a' := ?_) ?_ ?_
        rotate_left
        ·
         show Act.put _ (some 17) _ = _
         simp only [Act.put, List.setIfInBounds_toArray, List.set_cons_zero, List.set_cons_succ, i64_w, i32_w]
         rfl
        refine one_ (i := 4) (N := some 16) #[true, true, true, true, true, true, false, false] rfl rfl (one_of HT_.out (by kernel_rfl)) (by decide) (fun K hK => ?_)
        refine box_step ?hg (N := 16) ?hd (cs := #[.int .u32 0, .int .u8 0, .int .i64 0, .int .i64 0]) (t := 26) ?hr ?_; (case hd => rfl); (case hg => rfl); (case hr => first | (go_simp; done) | (go_simp; rfl))
        intro gb169 hg w46 hbox hb
        have n0_ := Aside0.mk (blk_below (g := gb162) (o := .cells #[.int .i64 a0_0, .int .i64 a0_1, .int .i64 a0_2] 23 (0, 0)) (by (with_reducible repeat (first | refine blk_drewN ?_ _ | refine blk_drew ?_ | refine blk_alloc ?_ _)); exact BK162.out) hb)
        have n1_ := Aside0.mk (blk_below (g := gb163) (o := .cells #[.int .u32 a3_0, .int .u8 a3_1, .int .i64 a3_2, .int .i64 a3_3, .int .i64 a3_4] 28 (0, 0)) (by (with_reducible repeat (first | refine blk_drewN ?_ _ | refine blk_drew ?_ | refine blk_alloc ?_ _)); exact BK163.out) hb)
        have n2_ := Aside0.mk (blk_below (g := gb164) (o := .cells #[.int .u32 a4_0, .int .u8 a4_1, .int .i64 a4_2, .int .i64 a4_3, .int .i64 a4_4] 28 (0, 0)) (by (with_reducible repeat (first | refine blk_drewN ?_ _ | refine blk_drew ?_ | refine blk_alloc ?_ _)); exact BK164.out) hb)
        have n3_ := Aside0.mk (blk_below (g := gb170) (o := .cells #[.int .u32 0, .int .u8 0, .int .i64 0, .int .i64 0] 26 (0, 0)) (by (with_reducible repeat (first | refine blk_drewN ?_ _ | refine blk_drew ?_ | refine blk_alloc ?_ _)); exact BK170.out) hb)
        have n4_ := Aside0.mk (below_step (by repeat (first | (with_reducible first | exact HB.out | apply below_alloc | apply pw_below_drewN | apply below_drew1 | refine below_set ?_ GE162.out | refine below_set ?_ GE163.out | refine below_set ?_ GE164.out | refine below_set ?_ GE170.out) | exact HB.out)) hb)
        have n5_ := Aside0.mk (hbox)
        have n6_ := Aside0.mk ((by rw [hg]; exact (below_size (by repeat (first | (with_reducible first | exact HB.out | apply below_alloc | apply pw_below_drewN | apply below_drew1 | refine below_set ?_ GE162.out | refine below_set ?_ GE163.out | refine below_set ?_ GE164.out | refine below_set ?_ GE170.out) | exact HB.out))) : w.heap.size ≤ gb169))
        have n7_ := Aside0.mk ((by rw [hg]; exact (below_size (by repeat (first | (with_reducible first | exact HB.out | apply below_alloc | apply pw_below_drewN | apply below_drew1 | refine below_set ?_ GE162.out | refine below_set ?_ GE163.out | refine below_set ?_ GE164.out | refine below_set ?_ GE170.out) | exact HB.out))) : w.heap.size ≤ gb169))
        have n8_ := Aside0.mk ((by rw [hg]; exact Nat.ne_of_lt (blk_lt (g := gb162) (o := .cells #[.int .i64 a0_0, .int .i64 a0_1, .int .i64 a0_2] 23 (0, 0)) (by (with_reducible repeat (first | refine blk_drewN ?_ _ | refine blk_drew ?_ | refine blk_alloc ?_ _)); exact BK162.out)) : gb162 ≠ gb169))
        have n9_ := Aside0.mk ((by rw [hg]; exact Nat.ne_of_gt (blk_lt (g := gb162) (o := .cells #[.int .i64 a0_0, .int .i64 a0_1, .int .i64 a0_2] 23 (0, 0)) (by (with_reducible repeat (first | refine blk_drewN ?_ _ | refine blk_drew ?_ | refine blk_alloc ?_ _)); exact BK162.out)) : gb169 ≠ gb162))
        have n10_ := Aside0.mk ((by rw [hg]; exact Nat.ne_of_lt (blk_lt (g := gb163) (o := .cells #[.int .u32 a3_0, .int .u8 a3_1, .int .i64 a3_2, .int .i64 a3_3, .int .i64 a3_4] 28 (0, 0)) (by (with_reducible repeat (first | refine blk_drewN ?_ _ | refine blk_drew ?_ | refine blk_alloc ?_ _)); exact BK163.out)) : gb163 ≠ gb169))
        have n11_ := Aside0.mk ((by rw [hg]; exact Nat.ne_of_gt (blk_lt (g := gb163) (o := .cells #[.int .u32 a3_0, .int .u8 a3_1, .int .i64 a3_2, .int .i64 a3_3, .int .i64 a3_4] 28 (0, 0)) (by (with_reducible repeat (first | refine blk_drewN ?_ _ | refine blk_drew ?_ | refine blk_alloc ?_ _)); exact BK163.out)) : gb169 ≠ gb163))
        have n12_ := Aside0.mk ((by rw [hg]; exact Nat.ne_of_lt (blk_lt (g := gb164) (o := .cells #[.int .u32 a4_0, .int .u8 a4_1, .int .i64 a4_2, .int .i64 a4_3, .int .i64 a4_4] 28 (0, 0)) (by (with_reducible repeat (first | refine blk_drewN ?_ _ | refine blk_drew ?_ | refine blk_alloc ?_ _)); exact BK164.out)) : gb164 ≠ gb169))
        have n13_ := Aside0.mk ((by rw [hg]; exact Nat.ne_of_gt (blk_lt (g := gb164) (o := .cells #[.int .u32 a4_0, .int .u8 a4_1, .int .i64 a4_2, .int .i64 a4_3, .int .i64 a4_4] 28 (0, 0)) (by (with_reducible repeat (first | refine blk_drewN ?_ _ | refine blk_drew ?_ | refine blk_alloc ?_ _)); exact BK164.out)) : gb169 ≠ gb164))
        have n14_ := Aside0.mk ((by rw [hg]; exact Nat.ne_of_lt (blk_lt (g := gb170) (o := .cells #[.int .u32 0, .int .u8 0, .int .i64 0, .int .i64 0] 26 (0, 0)) (by (with_reducible repeat (first | refine blk_drewN ?_ _ | refine blk_drew ?_ | refine blk_alloc ?_ _)); exact BK170.out)) : gb170 ≠ gb169))
        have n15_ := Aside0.mk ((by rw [hg]; exact Nat.ne_of_gt (blk_lt (g := gb170) (o := .cells #[.int .u32 0, .int .u8 0, .int .i64 0, .int .i64 0] 26 (0, 0)) (by (with_reducible repeat (first | refine blk_drewN ?_ _ | refine blk_drew ?_ | refine blk_alloc ?_ _)); exact BK170.out)) : gb169 ≠ gb170))
        clear BK162
        clear BK163
        clear BK164
        clear BK170
        clear HB
        have BK162 := n0_
        have BK163 := n1_
        have BK164 := n2_
        have BK170 := n3_
        have HB := n4_
        have BK169 := n5_
        have GW169 := n6_
        have GE169 := n7_
        have NB162_169 := n8_
        have NB169_162 := n9_
        have NB163_169 := n10_
        have NB169_163 := n11_
        have NB164_169 := n12_
        have NB169_164 := n13_
        have NB170_169 := n14_
        have NB169_170 := n15_
        clear n0_ n1_ n2_ n3_ n4_ n5_ n6_ n7_ n8_ n9_ n10_ n11_ n12_ n13_ n14_ n15_
        clear hb hbox hg
        refine hK.out _ _ ⟨(blk_cell BK163.out 0).trans rfl, (blk_cell BK163.out 1).trans rfl, (blk_cell BK163.out 2).trans rfl, (blk_cell BK163.out 3).trans rfl, (blk_cell BK163.out 4).trans rfl, (blk_cell BK164.out 0).trans rfl, (blk_cell BK164.out 1).trans rfl, (blk_cell BK164.out 2).trans rfl, (blk_cell BK164.out 3).trans rfl, (blk_cell BK164.out 4).trans rfl⟩ (fun hHeld => ?_)
        clear hK K
        refine norm_ (a' := ?_) ?_ ?_
        rotate_left
        ·
         show Act.put _ (some 16) _ = _
         simp only [Act.put, List.setIfInBounds_toArray, List.set_cons_zero, List.set_cons_succ, i64_w, i32_w]
         rfl
        exact norm_ (by simp only [putAll, Act.put, List.setIfInBounds_toArray, List.set_cons_zero, List.set_cons_succ]) (hCont (gb169, gb170) _ ⟨hHeld, (by (with_reducible repeat (first | refine blk_drewN ?_ _ | refine blk_drew ?_ | refine blk_alloc ?_ _)); exact BK162.out), (by (with_reducible repeat (first | refine blk_drewN ?_ _ | refine blk_drew ?_ | refine blk_alloc ?_ _)); exact BK163.out), (by (with_reducible repeat (first | refine blk_drewN ?_ _ | refine blk_drew ?_ | refine blk_alloc ?_ _)); exact BK164.out), (by (with_reducible repeat (first | refine blk_drewN ?_ _ | refine blk_drew ?_ | refine blk_alloc ?_ _)); exact BK169.out), (by (with_reducible repeat (first | refine blk_drewN ?_ _ | refine blk_drew ?_ | refine blk_alloc ?_ _)); exact BK170.out), GW169.out, GE169.out, NB162_169.out, NB169_162.out, NB163_169.out, NB169_163.out, NB164_169.out, NB169_164.out, NB170_169.out, NB169_170.out, GW170.out, GE170.out, NB162_170.out, NB170_162.out, NB163_170.out, NB170_163.out, NB164_170.out, NB170_164.out, (by repeat (first | (with_reducible first | exact HB.out | apply below_alloc | apply pw_below_drewN | apply below_drew1 | refine below_set ?_ GE162.out | refine below_set ?_ GE163.out | refine below_set ?_ GE164.out | refine below_set ?_ GE170.out | refine below_set ?_ GE169.out) | exact HB.out))⟩)
      rintro ⟨gb169, gb170⟩ w47 ⟨hS_, h0_, h1_, h2_, h3_, h4_, h5_, h6_, h7_, h8_, h9_, h10_, h11_, h12_, h13_, h14_, h15_, h16_, h17_, h18_, h19_, h20_, h21_, h22_, h23_⟩
      have n0_ : Aside0 (w47.heap[gb162]? = some (.cells #[.int .i64 a0_0, .int .i64 a0_1, .int .i64 a0_2] 23 (0, 0))) := ⟨h0_⟩
      have n1_ : Aside0 (w47.heap[gb163]? = some (.cells #[.int .u32 a3_0, .int .u8 a3_1, .int .i64 a3_2, .int .i64 a3_3, .int .i64 a3_4] 28 (0, 0))) := ⟨h1_⟩
      have n2_ : Aside0 (w47.heap[gb164]? = some (.cells #[.int .u32 a4_0, .int .u8 a4_1, .int .i64 a4_2, .int .i64 a4_3, .int .i64 a4_4] 28 (0, 0))) := ⟨h2_⟩
      have n3_ : Aside0 (w47.heap[gb169]? = some (.cells #[.int .u32 0, .int .u8 0, .int .i64 0, .int .i64 0] 26 (0, 0))) := ⟨h3_⟩
      have n4_ : Aside0 (w47.heap[gb170]? = some (.cells #[.int .u32 0, .int .u8 0, .int .i64 0, .int .i64 0] 26 (0, 0))) := ⟨h4_⟩
      have n5_ : Aside0 (w.heap.size ≤ gb169) := ⟨h5_⟩
      have n6_ : Aside0 (w.heap.size ≤ gb169) := ⟨h6_⟩
      have n7_ : Aside0 (gb162 ≠ gb169) := ⟨h7_⟩
      have n8_ : Aside0 (gb169 ≠ gb162) := ⟨h8_⟩
      have n9_ : Aside0 (gb163 ≠ gb169) := ⟨h9_⟩
      have n10_ : Aside0 (gb169 ≠ gb163) := ⟨h10_⟩
      have n11_ : Aside0 (gb164 ≠ gb169) := ⟨h11_⟩
      have n12_ : Aside0 (gb169 ≠ gb164) := ⟨h12_⟩
      have n13_ : Aside0 (gb170 ≠ gb169) := ⟨h13_⟩
      have n14_ : Aside0 (gb169 ≠ gb170) := ⟨h14_⟩
      have n15_ : Aside0 (w.heap.size ≤ gb170) := ⟨h15_⟩
      have n16_ : Aside0 (w.heap.size ≤ gb170) := ⟨h16_⟩
      have n17_ : Aside0 (gb162 ≠ gb170) := ⟨h17_⟩
      have n18_ : Aside0 (gb170 ≠ gb162) := ⟨h18_⟩
      have n19_ : Aside0 (gb163 ≠ gb170) := ⟨h19_⟩
      have n20_ : Aside0 (gb170 ≠ gb163) := ⟨h20_⟩
      have n21_ : Aside0 (gb164 ≠ gb170) := ⟨h21_⟩
      have n22_ : Aside0 (gb170 ≠ gb164) := ⟨h22_⟩
      have n23_ : Aside0 (Below w.heap.size w w47) := ⟨h23_⟩
      clear BK162
      clear BK163
      clear BK164
      clear HB
      clear h0_ h1_ h2_ h3_ h4_ h5_ h6_ h7_ h8_ h9_ h10_ h11_ h12_ h13_ h14_ h15_ h16_ h17_ h18_ h19_ h20_ h21_ h22_ h23_
      have BK162 := n0_
      have BK163 := n1_
      have BK164 := n2_
      have BK169 := n3_
      have BK170 := n4_
      have GW169 := n5_
      have GE169 := n6_
      have NB162_169 := n7_
      have NB169_162 := n8_
      have NB163_169 := n9_
      have NB169_163 := n10_
      have NB164_169 := n11_
      have NB169_164 := n12_
      have NB170_169 := n13_
      have NB169_170 := n14_
      have GW170 := n15_
      have GE170 := n16_
      have NB162_170 := n17_
      have NB170_162 := n18_
      have NB163_170 := n19_
      have NB170_163 := n20_
      have NB164_170 := n21_
      have NB170_164 := n22_
      have HB := n23_
      clear n0_ n1_ n2_ n3_ n4_ n5_ n6_ n7_ n8_ n9_ n10_ n11_ n12_ n13_ n14_ n15_ n16_ n17_ n18_ n19_ n20_ n21_ n22_ n23_
      have hHeld : w47.cell? ⟨gb163, 0, none⟩ = some (.int .u32 a3_0) ∧ w47.cell? ⟨gb163, 1, none⟩ = some (.int .u8 a3_1) ∧ w47.cell? ⟨gb163, 2, none⟩ = some (.int .i64 a3_2) ∧ w47.cell? ⟨gb163, 3, none⟩ = some (.int .i64 a3_3) ∧ w47.cell? ⟨gb163, 4, none⟩ = some (.int .i64 a3_4) ∧ w47.cell? ⟨gb164, 0, none⟩ = some (.int .u32 a4_0) ∧ w47.cell? ⟨gb164, 1, none⟩ = some (.int .u8 a4_1) ∧ w47.cell? ⟨gb164, 2, none⟩ = some (.int .i64 a4_2) ∧ w47.cell? ⟨gb164, 3, none⟩ = some (.int .i64 a4_3) ∧ w47.cell? ⟨gb164, 4, none⟩ = some (.int .i64 a4_4) := hS_
      refine norm_ (a' := ?_) ?_ ?_
      rotate_left
      ·
       simp only [putAll, Act.put, List.setIfInBounds_toArray, List.set_cons_zero, List.set_cons_succ]
       rfl
      refine one_ (i := 6) (N := none) #[true, true, true, true, true, true, true, false] rfl rfl (one_of HT_.out (by kernel_rfl)) (by decide) (fun K hK => ?_)
      have hs48 : w47.cell? ⟨gb169, 0, none⟩ = some (.int .u32 0) := (blk_cell BK169.out 0).trans rfl
      have hfs48 := blk_frozen BK169.out 0
      have hns48_0 := NB162_169.out
      have hns48_1 := NB163_169.out
      have hns48_2 := NB164_169.out
      have hns48_4 := NB170_169.out
      have hms48_0 := NB169_162.out
      have hms48_1 := NB169_163.out
      have hms48_2 := NB169_164.out
      have hms48_4 := NB169_170.out
      have hs49 : w47.cell? ⟨gb169, 1, none⟩ = some (.int .u8 0) := (blk_cell BK169.out 1).trans rfl
      have hfs49 := blk_frozen BK169.out 1
      have hns49_0 := NB162_169.out
      have hns49_1 := NB163_169.out
      have hns49_2 := NB164_169.out
      have hns49_4 := NB170_169.out
      have hms49_0 := NB169_162.out
      have hms49_1 := NB169_163.out
      have hms49_2 := NB169_164.out
      have hms49_4 := NB169_170.out
      have hs50 : w47.cell? ⟨gb169, 2, none⟩ = some (.int .i64 0) := (blk_cell BK169.out 2).trans rfl
      have hfs50 := blk_frozen BK169.out 2
      have hns50_0 := NB162_169.out
      have hns50_1 := NB163_169.out
      have hns50_2 := NB164_169.out
      have hns50_4 := NB170_169.out
      have hms50_0 := NB169_162.out
      have hms50_1 := NB169_163.out
      have hms50_2 := NB169_164.out
      have hms50_4 := NB169_170.out
      have hs51 : w47.cell? ⟨gb169, 3, none⟩ = some (.int .i64 0) := (blk_cell BK169.out 3).trans rfl
      have hfs51 := blk_frozen BK169.out 3
      have hns51_0 := NB162_169.out
      have hns51_1 := NB163_169.out
      have hns51_2 := NB164_169.out
      have hns51_4 := NB170_169.out
      have hms51_0 := NB169_162.out
      have hms51_1 := NB169_163.out
      have hms51_2 := NB169_164.out
      have hms51_4 := NB169_170.out
      refine skip_ (w1 := ?_) (by rfl) rfl ?_ ?_
      rotate_left
      ·
       go_simp
       rfl
      refine hK.out _ _ ⟨((cell_far (p := ⟨gb169, _, none⟩) NB163_169.out _).trans (((cell_far (p := ⟨gb169, _, none⟩) NB163_169.out _).trans (((cell_far (p := ⟨gb169, _, none⟩) NB163_169.out _).trans (((cell_far (p := ⟨gb169, _, none⟩) NB163_169.out _).trans (hHeld.1)))))))), ((cell_far (p := ⟨gb169, _, none⟩) NB163_169.out _).trans (((cell_far (p := ⟨gb169, _, none⟩) NB163_169.out _).trans (((cell_far (p := ⟨gb169, _, none⟩) NB163_169.out _).trans (((cell_far (p := ⟨gb169, _, none⟩) NB163_169.out _).trans (hHeld.2.1)))))))), ((cell_far (p := ⟨gb169, _, none⟩) NB163_169.out _).trans (((cell_far (p := ⟨gb169, _, none⟩) NB163_169.out _).trans (((cell_far (p := ⟨gb169, _, none⟩) NB163_169.out _).trans (((cell_far (p := ⟨gb169, _, none⟩) NB163_169.out _).trans (hHeld.2.2.1)))))))), ((cell_far (p := ⟨gb169, _, none⟩) NB163_169.out _).trans (((cell_far (p := ⟨gb169, _, none⟩) NB163_169.out _).trans (((cell_far (p := ⟨gb169, _, none⟩) NB163_169.out _).trans (((cell_far (p := ⟨gb169, _, none⟩) NB163_169.out _).trans (hHeld.2.2.2.1)))))))), ((cell_far (p := ⟨gb169, _, none⟩) NB163_169.out _).trans (((cell_far (p := ⟨gb169, _, none⟩) NB163_169.out _).trans (((cell_far (p := ⟨gb169, _, none⟩) NB163_169.out _).trans (((cell_far (p := ⟨gb169, _, none⟩) NB163_169.out _).trans (hHeld.2.2.2.2.1)))))))), ((cell_far (p := ⟨gb169, _, none⟩) NB164_169.out _).trans (((cell_far (p := ⟨gb169, _, none⟩) NB164_169.out _).trans (((cell_far (p := ⟨gb169, _, none⟩) NB164_169.out _).trans (((cell_far (p := ⟨gb169, _, none⟩) NB164_169.out _).trans (hHeld.2.2.2.2.2.1)))))))), ((cell_far (p := ⟨gb169, _, none⟩) NB164_169.out _).trans (((cell_far (p := ⟨gb169, _, none⟩) NB164_169.out _).trans (((cell_far (p := ⟨gb169, _, none⟩) NB164_169.out _).trans (((cell_far (p := ⟨gb169, _, none⟩) NB164_169.out _).trans (hHeld.2.2.2.2.2.2.1)))))))), ((cell_far (p := ⟨gb169, _, none⟩) NB164_169.out _).trans (((cell_far (p := ⟨gb169, _, none⟩) NB164_169.out _).trans (((cell_far (p := ⟨gb169, _, none⟩) NB164_169.out _).trans (((cell_far (p := ⟨gb169, _, none⟩) NB164_169.out _).trans (hHeld.2.2.2.2.2.2.2.1)))))))), ((cell_far (p := ⟨gb169, _, none⟩) NB164_169.out _).trans (((cell_far (p := ⟨gb169, _, none⟩) NB164_169.out _).trans (((cell_far (p := ⟨gb169, _, none⟩) NB164_169.out _).trans (((cell_far (p := ⟨gb169, _, none⟩) NB164_169.out _).trans (hHeld.2.2.2.2.2.2.2.2.1)))))))), ((cell_far (p := ⟨gb169, _, none⟩) NB164_169.out _).trans (((cell_far (p := ⟨gb169, _, none⟩) NB164_169.out _).trans (((cell_far (p := ⟨gb169, _, none⟩) NB164_169.out _).trans (((cell_far (p := ⟨gb169, _, none⟩) NB164_169.out _).trans (hHeld.2.2.2.2.2.2.2.2.2))))))))⟩ (fun hHeld => ?_)
      clear hK K
      refine one_ (i := 7) (N := none) #[true, true, true, true, true, true, true, true] rfl rfl (one_of HT_.out (by kernel_rfl)) (by decide) (fun K hK => ?_)
      have hs52 : w47.cell? ⟨gb170, 0, none⟩ = some (.int .u32 0) := (blk_cell BK170.out 0).trans rfl
      have hfs52 := blk_frozen BK170.out 0
      have hns52_0 := NB162_170.out
      have hns52_1 := NB163_170.out
      have hns52_2 := NB164_170.out
      have hns52_3 := NB169_170.out
      have hms52_0 := NB170_162.out
      have hms52_1 := NB170_163.out
      have hms52_2 := NB170_164.out
      have hms52_3 := NB170_169.out
      have hs53 : w47.cell? ⟨gb170, 1, none⟩ = some (.int .u8 0) := (blk_cell BK170.out 1).trans rfl
      have hfs53 := blk_frozen BK170.out 1
      have hns53_0 := NB162_170.out
      have hns53_1 := NB163_170.out
      have hns53_2 := NB164_170.out
      have hns53_3 := NB169_170.out
      have hms53_0 := NB170_162.out
      have hms53_1 := NB170_163.out
      have hms53_2 := NB170_164.out
      have hms53_3 := NB170_169.out
      have hs54 : w47.cell? ⟨gb170, 2, none⟩ = some (.int .i64 0) := (blk_cell BK170.out 2).trans rfl
      have hfs54 := blk_frozen BK170.out 2
      have hns54_0 := NB162_170.out
      have hns54_1 := NB163_170.out
      have hns54_2 := NB164_170.out
      have hns54_3 := NB169_170.out
      have hms54_0 := NB170_162.out
      have hms54_1 := NB170_163.out
      have hms54_2 := NB170_164.out
      have hms54_3 := NB170_169.out
      have hs55 : w47.cell? ⟨gb170, 3, none⟩ = some (.int .i64 0) := (blk_cell BK170.out 3).trans rfl
      have hfs55 := blk_frozen BK170.out 3
      have hns55_0 := NB162_170.out
      have hns55_1 := NB163_170.out
      have hns55_2 := NB164_170.out
      have hns55_3 := NB169_170.out
      have hms55_0 := NB170_162.out
      have hms55_1 := NB170_163.out
      have hms55_2 := NB170_164.out
      have hms55_3 := NB170_169.out
      refine skip_ (w1 := ?_) (by rfl) rfl ?_ ?_
      rotate_left
      ·
       go_simp
       rfl
      refine hK.out _ _ ⟨((cell_far (p := ⟨gb170, _, none⟩) NB163_170.out _).trans (((cell_far (p := ⟨gb170, _, none⟩) NB163_170.out _).trans (((cell_far (p := ⟨gb170, _, none⟩) NB163_170.out _).trans (((cell_far (p := ⟨gb170, _, none⟩) NB163_170.out _).trans (hHeld.1)))))))), ((cell_far (p := ⟨gb170, _, none⟩) NB163_170.out _).trans (((cell_far (p := ⟨gb170, _, none⟩) NB163_170.out _).trans (((cell_far (p := ⟨gb170, _, none⟩) NB163_170.out _).trans (((cell_far (p := ⟨gb170, _, none⟩) NB163_170.out _).trans (hHeld.2.1)))))))), ((cell_far (p := ⟨gb170, _, none⟩) NB163_170.out _).trans (((cell_far (p := ⟨gb170, _, none⟩) NB163_170.out _).trans (((cell_far (p := ⟨gb170, _, none⟩) NB163_170.out _).trans (((cell_far (p := ⟨gb170, _, none⟩) NB163_170.out _).trans (hHeld.2.2.1)))))))), ((cell_far (p := ⟨gb170, _, none⟩) NB163_170.out _).trans (((cell_far (p := ⟨gb170, _, none⟩) NB163_170.out _).trans (((cell_far (p := ⟨gb170, _, none⟩) NB163_170.out _).trans (((cell_far (p := ⟨gb170, _, none⟩) NB163_170.out _).trans (hHeld.2.2.2.1)))))))), ((cell_far (p := ⟨gb170, _, none⟩) NB163_170.out _).trans (((cell_far (p := ⟨gb170, _, none⟩) NB163_170.out _).trans (((cell_far (p := ⟨gb170, _, none⟩) NB163_170.out _).trans (((cell_far (p := ⟨gb170, _, none⟩) NB163_170.out _).trans (hHeld.2.2.2.2.1)))))))), ((cell_far (p := ⟨gb170, _, none⟩) NB164_170.out _).trans (((cell_far (p := ⟨gb170, _, none⟩) NB164_170.out _).trans (((cell_far (p := ⟨gb170, _, none⟩) NB164_170.out _).trans (((cell_far (p := ⟨gb170, _, none⟩) NB164_170.out _).trans (hHeld.2.2.2.2.2.1)))))))), ((cell_far (p := ⟨gb170, _, none⟩) NB164_170.out _).trans (((cell_far (p := ⟨gb170, _, none⟩) NB164_170.out _).trans (((cell_far (p := ⟨gb170, _, none⟩) NB164_170.out _).trans (((cell_far (p := ⟨gb170, _, none⟩) NB164_170.out _).trans (hHeld.2.2.2.2.2.2.1)))))))), ((cell_far (p := ⟨gb170, _, none⟩) NB164_170.out _).trans (((cell_far (p := ⟨gb170, _, none⟩) NB164_170.out _).trans (((cell_far (p := ⟨gb170, _, none⟩) NB164_170.out _).trans (((cell_far (p := ⟨gb170, _, none⟩) NB164_170.out _).trans (hHeld.2.2.2.2.2.2.2.1)))))))), ((cell_far (p := ⟨gb170, _, none⟩) NB164_170.out _).trans (((cell_far (p := ⟨gb170, _, none⟩) NB164_170.out _).trans (((cell_far (p := ⟨gb170, _, none⟩) NB164_170.out _).trans (((cell_far (p := ⟨gb170, _, none⟩) NB164_170.out _).trans (hHeld.2.2.2.2.2.2.2.2.1)))))))), ((cell_far (p := ⟨gb170, _, none⟩) NB164_170.out _).trans (((cell_far (p := ⟨gb170, _, none⟩) NB164_170.out _).trans (((cell_far (p := ⟨gb170, _, none⟩) NB164_170.out _).trans (((cell_far (p := ⟨gb170, _, none⟩) NB164_170.out _).trans (hHeld.2.2.2.2.2.2.2.2.2))))))))⟩ (fun hHeld => ?_)
      clear hK K
      refine done_ (done_of HT_.out (by kernel_rfl)) ?_
      have hnb56 := NB169_162.out
      have hnc56 := NB162_169.out
      have hnb57 := NB169_163.out
      have hnc57 := NB163_169.out
      have hnb58 := NB169_164.out
      have hnc58 := NB164_169.out
      have hnb59 := NB169_170.out
      have hnc59 := NB170_169.out
      have hcz60_0 : w47.cell? ⟨gb169, 0, none⟩ = some (.int .u32 0) := (blk_cell BK169.out 0).trans rfl
      have hcz60_1 : w47.cell? ⟨gb169, 1, none⟩ = some (.int .u8 0) := (blk_cell BK169.out 1).trans rfl
      have hcz60_2 : w47.cell? ⟨gb169, 2, none⟩ = some (.int .i64 0) := (blk_cell BK169.out 2).trans rfl
      have hcz60_3 : w47.cell? ⟨gb169, 3, none⟩ = some (.int .i64 0) := (blk_cell BK169.out 3).trans rfl
      have hfz60_0 := blk_frozen BK169.out 0
      have hfz60_1 := blk_frozen BK169.out 1
      have hfz60_2 := blk_frozen BK169.out 2
      have hfz60_3 := blk_frozen BK169.out 3
      have hnb61 := NB170_162.out
      have hnc61 := NB162_170.out
      have hnb62 := NB170_163.out
      have hnc62 := NB163_170.out
      have hnb63 := NB170_164.out
      have hnc63 := NB164_170.out
      have hcz64_0 : w47.cell? ⟨gb170, 0, none⟩ = some (.int .u32 0) := (blk_cell BK170.out 0).trans rfl
      have hcz64_1 : w47.cell? ⟨gb170, 1, none⟩ = some (.int .u8 0) := (blk_cell BK170.out 1).trans rfl
      have hcz64_2 : w47.cell? ⟨gb170, 2, none⟩ = some (.int .i64 0) := (blk_cell BK170.out 2).trans rfl
      have hcz64_3 : w47.cell? ⟨gb170, 3, none⟩ = some (.int .i64 0) := (blk_cell BK170.out 3).trans rfl
      have hfz64_0 := blk_frozen BK170.out 0
      have hfz64_1 := blk_frozen BK170.out 1
      have hfz64_2 := blk_frozen BK170.out 2
      have hfz64_3 := blk_frozen BK170.out 3
      go_upto_block 4 with (first | ((with_reducible refine gate_callee (f := 27) rfl ?_); refine goesL_ (some 58) rfl rfl Try.func27 (by kernel_rfl) rfl #[.agg #[.int .u32 a3_0, .int .u8 a3_1, .int .i64 a3_2, .int .i64 a3_3], .agg #[.int .u32 a4_0, .int .u8 a4_1, .int .i64 a4_2, .int .i64 a4_3]] rfl (by (try simp only [List.map_toArray, List.map_cons, List.map_nil]); first | done | rfl | (simp only [List.length_drop, List.length_take]; rfl)) ?_; (with_reducible refine (pair_slots.calls kj20 a3_0 a3_1 a3_2 a3_3 a4_0 a4_1 a4_2 a4_3 t171 t172 _ A42.out).mono ?_); rintro e w65 ⟨rfl, hb⟩; refine ⟨_, rfl, ?_⟩; have n0_ := Aside0.mk (blk_below (g := gb162) (o := .cells #[.int .i64 a0_0, .int .i64 a0_1, .int .i64 a0_2] 23 (0, 0)) (by (with_reducible repeat (first | refine blk_drewN ?_ _ | refine blk_drew ?_ | refine blk_alloc ?_ _)); refine blk_far ?_ NB162_170.out _; (with_reducible repeat (first | refine blk_drewN ?_ _ | refine blk_drew ?_ | refine blk_alloc ?_ _)); refine blk_far ?_ NB162_170.out _; (with_reducible repeat (first | refine blk_drewN ?_ _ | refine blk_drew ?_ | refine blk_alloc ?_ _)); refine blk_far ?_ NB162_170.out _; (with_reducible repeat (first | refine blk_drewN ?_ _ | refine blk_drew ?_ | refine blk_alloc ?_ _)); refine blk_far ?_ NB162_170.out _; (with_reducible repeat (first | refine blk_drewN ?_ _ | refine blk_drew ?_ | refine blk_alloc ?_ _)); refine blk_far ?_ NB162_169.out _; (with_reducible repeat (first | refine blk_drewN ?_ _ | refine blk_drew ?_ | refine blk_alloc ?_ _)); refine blk_far ?_ NB162_169.out _; (with_reducible repeat (first | refine blk_drewN ?_ _ | refine blk_drew ?_ | refine blk_alloc ?_ _)); refine blk_far ?_ NB162_169.out _; (with_reducible repeat (first | refine blk_drewN ?_ _ | refine blk_drew ?_ | refine blk_alloc ?_ _)); refine blk_far ?_ NB162_169.out _; (with_reducible repeat (first | refine blk_drewN ?_ _ | refine blk_drew ?_ | refine blk_alloc ?_ _)); exact BK162.out) hb); have n1_ := Aside0.mk (blk_below (g := gb163) (o := .cells #[.int .u32 a3_0, .int .u8 a3_1, .int .i64 a3_2, .int .i64 a3_3, .int .i64 a3_4] 28 (0, 0)) (by (with_reducible repeat (first | refine blk_drewN ?_ _ | refine blk_drew ?_ | refine blk_alloc ?_ _)); refine blk_far ?_ NB163_170.out _; (with_reducible repeat (first | refine blk_drewN ?_ _ | refine blk_drew ?_ | refine blk_alloc ?_ _)); refine blk_far ?_ NB163_170.out _; (with_reducible repeat (first | refine blk_drewN ?_ _ | refine blk_drew ?_ | refine blk_alloc ?_ _)); refine blk_far ?_ NB163_170.out _; (with_reducible repeat (first | refine blk_drewN ?_ _ | refine blk_drew ?_ | refine blk_alloc ?_ _)); refine blk_far ?_ NB163_170.out _; (with_reducible repeat (first | refine blk_drewN ?_ _ | refine blk_drew ?_ | refine blk_alloc ?_ _)); refine blk_far ?_ NB163_169.out _; (with_reducible repeat (first | refine blk_drewN ?_ _ | refine blk_drew ?_ | refine blk_alloc ?_ _)); refine blk_far ?_ NB163_169.out _; (with_reducible repeat (first | refine blk_drewN ?_ _ | refine blk_drew ?_ | refine blk_alloc ?_ _)); refine blk_far ?_ NB163_169.out _; (with_reducible repeat (first | refine blk_drewN ?_ _ | refine blk_drew ?_ | refine blk_alloc ?_ _)); refine blk_far ?_ NB163_169.out _; (with_reducible repeat (first | refine blk_drewN ?_ _ | refine blk_drew ?_ | refine blk_alloc ?_ _)); exact BK163.out) hb); have n2_ := Aside0.mk (blk_below (g := gb164) (o := .cells #[.int .u32 a4_0, .int .u8 a4_1, .int .i64 a4_2, .int .i64 a4_3, .int .i64 a4_4] 28 (0, 0)) (by (with_reducible repeat (first | refine blk_drewN ?_ _ | refine blk_drew ?_ | refine blk_alloc ?_ _)); refine blk_far ?_ NB164_170.out _; (with_reducible repeat (first | refine blk_drewN ?_ _ | refine blk_drew ?_ | refine blk_alloc ?_ _)); refine blk_far ?_ NB164_170.out _; (with_reducible repeat (first | refine blk_drewN ?_ _ | refine blk_drew ?_ | refine blk_alloc ?_ _)); refine blk_far ?_ NB164_170.out _; (with_reducible repeat (first | refine blk_drewN ?_ _ | refine blk_drew ?_ | refine blk_alloc ?_ _)); refine blk_far ?_ NB164_170.out _; (with_reducible repeat (first | refine blk_drewN ?_ _ | refine blk_drew ?_ | refine blk_alloc ?_ _)); refine blk_far ?_ NB164_169.out _; (with_reducible repeat (first | refine blk_drewN ?_ _ | refine blk_drew ?_ | refine blk_alloc ?_ _)); refine blk_far ?_ NB164_169.out _; (with_reducible repeat (first | refine blk_drewN ?_ _ | refine blk_drew ?_ | refine blk_alloc ?_ _)); refine blk_far ?_ NB164_169.out _; (with_reducible repeat (first | refine blk_drewN ?_ _ | refine blk_drew ?_ | refine blk_alloc ?_ _)); refine blk_far ?_ NB164_169.out _; (with_reducible repeat (first | refine blk_drewN ?_ _ | refine blk_drew ?_ | refine blk_alloc ?_ _)); exact BK164.out) hb); have n3_ := Aside0.mk (blk_below (g := gb169) (o := .cells #[.int .u32 a3_0, .int .u8 a3_1, .int .i64 a3_2, .int .i64 a3_3] 26 (0, 0)) (by (with_reducible repeat (first | refine blk_drewN ?_ _ | refine blk_drew ?_ | refine blk_alloc ?_ _)); refine blk_far ?_ NB169_170.out _; (with_reducible repeat (first | refine blk_drewN ?_ _ | refine blk_drew ?_ | refine blk_alloc ?_ _)); refine blk_far ?_ NB169_170.out _; (with_reducible repeat (first | refine blk_drewN ?_ _ | refine blk_drew ?_ | refine blk_alloc ?_ _)); refine blk_far ?_ NB169_170.out _; (with_reducible repeat (first | refine blk_drewN ?_ _ | refine blk_drew ?_ | refine blk_alloc ?_ _)); refine blk_far ?_ NB169_170.out _; (with_reducible repeat (first | refine blk_drewN ?_ _ | refine blk_drew ?_ | refine blk_alloc ?_ _)); refine blk_put (cs := #[.int .u32 a3_0, .int .u8 a3_1, .int .i64 a3_2, .int .i64 0]) ?_ 3 _ rfl; (with_reducible repeat (first | refine blk_drewN ?_ _ | refine blk_drew ?_ | refine blk_alloc ?_ _)); refine blk_put (cs := #[.int .u32 a3_0, .int .u8 a3_1, .int .i64 0, .int .i64 0]) ?_ 2 _ rfl; (with_reducible repeat (first | refine blk_drewN ?_ _ | refine blk_drew ?_ | refine blk_alloc ?_ _)); refine blk_put (cs := #[.int .u32 a3_0, .int .u8 0, .int .i64 0, .int .i64 0]) ?_ 1 _ rfl; (with_reducible repeat (first | refine blk_drewN ?_ _ | refine blk_drew ?_ | refine blk_alloc ?_ _)); refine blk_put (cs := #[.int .u32 0, .int .u8 0, .int .i64 0, .int .i64 0]) ?_ 0 _ rfl; (with_reducible repeat (first | refine blk_drewN ?_ _ | refine blk_drew ?_ | refine blk_alloc ?_ _)); exact BK169.out) hb); have n4_ := Aside0.mk (blk_below (g := gb170) (o := .cells #[.int .u32 a4_0, .int .u8 a4_1, .int .i64 a4_2, .int .i64 a4_3] 26 (0, 0)) (by (with_reducible repeat (first | refine blk_drewN ?_ _ | refine blk_drew ?_ | refine blk_alloc ?_ _)); refine blk_put (cs := #[.int .u32 a4_0, .int .u8 a4_1, .int .i64 a4_2, .int .i64 0]) ?_ 3 _ rfl; (with_reducible repeat (first | refine blk_drewN ?_ _ | refine blk_drew ?_ | refine blk_alloc ?_ _)); refine blk_put (cs := #[.int .u32 a4_0, .int .u8 a4_1, .int .i64 0, .int .i64 0]) ?_ 2 _ rfl; (with_reducible repeat (first | refine blk_drewN ?_ _ | refine blk_drew ?_ | refine blk_alloc ?_ _)); refine blk_put (cs := #[.int .u32 a4_0, .int .u8 0, .int .i64 0, .int .i64 0]) ?_ 1 _ rfl; (with_reducible repeat (first | refine blk_drewN ?_ _ | refine blk_drew ?_ | refine blk_alloc ?_ _)); refine blk_put (cs := #[.int .u32 0, .int .u8 0, .int .i64 0, .int .i64 0]) ?_ 0 _ rfl; (with_reducible repeat (first | refine blk_drewN ?_ _ | refine blk_drew ?_ | refine blk_alloc ?_ _)); refine blk_far ?_ NB170_169.out _; (with_reducible repeat (first | refine blk_drewN ?_ _ | refine blk_drew ?_ | refine blk_alloc ?_ _)); refine blk_far ?_ NB170_169.out _; (with_reducible repeat (first | refine blk_drewN ?_ _ | refine blk_drew ?_ | refine blk_alloc ?_ _)); refine blk_far ?_ NB170_169.out _; (with_reducible repeat (first | refine blk_drewN ?_ _ | refine blk_drew ?_ | refine blk_alloc ?_ _)); refine blk_far ?_ NB170_169.out _; (with_reducible repeat (first | refine blk_drewN ?_ _ | refine blk_drew ?_ | refine blk_alloc ?_ _)); exact BK170.out) hb); have n5_ := Aside0.mk (below_step (by repeat (first | (with_reducible first | exact HB.out | apply below_alloc | apply pw_below_drewN | apply below_drew1 | refine below_set ?_ GE162.out | refine below_set ?_ GE163.out | refine below_set ?_ GE164.out | refine below_set ?_ GE169.out | refine below_set ?_ GE170.out) | exact HB.out)) hb); clear BK162; clear BK163; clear BK164; clear BK169; clear BK170; clear HB; have BK162 := n0_; have BK163 := n1_; have BK164 := n2_; have BK169 := n3_; have BK170 := n4_; have HB := n5_; clear n0_ n1_ n2_ n3_ n4_ n5_; (try clear hb); (try clear hb2); (try clear hk); (try clear hi)))
      (try simp only [Act.put, List.setIfInBounds_toArray, List.set_cons_zero, List.set_cons_succ])
      go_cut [20] (fun v20 wc => ∃ (kq : Nat) (x20_42 : Bool), v20 = .bool x20_42 ∧ Aside0 (pair_Holds.j3 kq x20_42 a3_0 a3_1 a3_2 a3_3 a4_0 a4_1 a4_2 a4_3 = some r) ∧ Aside0 (kq ≤ kj20) ∧ Aside0 (wc.heap[gb162]? = some (.cells #[.int .i64 a0_0, .int .i64 a0_1, .int .i64 a0_2] 23 (0, 0))) ∧ Aside0 (wc.heap[gb163]? = some (.cells #[.int .u32 a3_0, .int .u8 a3_1, .int .i64 a3_2, .int .i64 a3_3, .int .i64 a3_4] 28 (0, 0))) ∧ Aside0 (wc.heap[gb164]? = some (.cells #[.int .u32 a4_0, .int .u8 a4_1, .int .i64 a4_2, .int .i64 a4_3, .int .i64 a4_4] 28 (0, 0))) ∧ Aside0 (wc.heap[gb169]? = some (.cells #[.int .u32 a3_0, .int .u8 a3_1, .int .i64 a3_2, .int .i64 a3_3] 26 (0, 0))) ∧ Aside0 (wc.heap[gb170]? = some (.cells #[.int .u32 a4_0, .int .u8 a4_1, .int .i64 a4_2, .int .i64 a4_3] 26 (0, 0))) ∧ Aside0 (Below w.heap.size w wc))
      case first =>
       have H := HC43.out
       clear HC43
       have HC66 := Aside0.mk H
       clear H
       go_upto_block 2 with (fail)
       go_cut [20] (fun v20 wc => ∃ (kq : Nat) (x20_65 : Bool), v20 = .bool x20_65 ∧ Aside0 (pair_Holds.j2 kq x13_6 x20_65 = some r) ∧ Aside0 (kq ≤ kj20) ∧ Aside0 (wc.heap[gb162]? = some (.cells #[.int .i64 a0_0, .int .i64 a0_1, .int .i64 a0_2] 23 (0, 0))) ∧ Aside0 (wc.heap[gb163]? = some (.cells #[.int .u32 a3_0, .int .u8 a3_1, .int .i64 a3_2, .int .i64 a3_3, .int .i64 a3_4] 28 (0, 0))) ∧ Aside0 (wc.heap[gb164]? = some (.cells #[.int .u32 a4_0, .int .u8 a4_1, .int .i64 a4_2, .int .i64 a4_3, .int .i64 a4_4] 28 (0, 0))) ∧ Aside0 (wc.heap[gb169]? = some (.cells #[.int .u32 a3_0, .int .u8 a3_1, .int .i64 a3_2, .int .i64 a3_3] 26 (0, 0))) ∧ Aside0 (wc.heap[gb170]? = some (.cells #[.int .u32 a4_0, .int .u8 a4_1, .int .i64 a4_2, .int .i64 a4_3] 26 (0, 0))) ∧ Aside0 (Below w.heap.size w wc))
       case first =>
        have H := HC66.out
        clear HC66
        repeat clear ‹_ ≠ _›
        repeat clear ‹World.frozen? _ _ = _›
        repeat clear ‹World.cell? _ _ = _›
        go_upto_if 62 with (fail)
        by_cases c67 : a1 = 11
        ·
         rw [if_pos c67] at H
         have c67b0 : (a1 == 11) = true := beq_iff_eq.mpr c67
         have c67b1 : (a1 != 11) = false := bne_eq_false_iff_eq.mpr c67
         clear c67
         skip
         have H' := Aside0.mk H
         clear H
         refine wp_cond_true (congrArg Value.bool c67b0) ?_
         refine wp_exit ?_
         repeat (first | refine then_exit_ ?_ | refine inBlock_skip_ rfl ?_)
         refine inBlock_here_ ?_
         go_wp2
         go_meet
         case rel => exact ⟨_, (true), (by first | rfl | (simp; done) | (simp [*]; done)), H', ⟨by have := HJ6.out; have := HJ20.out; first | omega | exact Nat.le_refl _⟩, ⟨by (with_reducible repeat (first | refine blk_drewN ?_ _ | refine blk_drew ?_ | refine blk_alloc ?_ _)); exact BK162.out⟩, ⟨by (with_reducible repeat (first | refine blk_drewN ?_ _ | refine blk_drew ?_ | refine blk_alloc ?_ _)); exact BK163.out⟩, ⟨by (with_reducible repeat (first | refine blk_drewN ?_ _ | refine blk_drew ?_ | refine blk_alloc ?_ _)); exact BK164.out⟩, ⟨by (with_reducible repeat (first | refine blk_drewN ?_ _ | refine blk_drew ?_ | refine blk_alloc ?_ _)); exact BK169.out⟩, ⟨by (with_reducible repeat (first | refine blk_drewN ?_ _ | refine blk_drew ?_ | refine blk_alloc ?_ _)); exact BK170.out⟩, ⟨by repeat (first | (with_reducible first | exact HB.out | apply below_alloc | apply pw_below_drewN | apply below_drew1 | refine below_set ?_ GE162.out | refine below_set ?_ GE163.out | refine below_set ?_ GE164.out | refine below_set ?_ GE169.out | refine below_set ?_ GE170.out) | exact HB.out)⟩⟩
        ·
         rw [if_neg c67] at H
         have c67b0 : (a1 == 11) = false := beq_eq_false_iff_ne.mpr c67
         have c67b1 : (a1 != 11) = true := bne_iff_ne.mpr c67
         (first | rw [c67b0] | (simp only [i64_w, i32_w]; rw [c67b0]) | skip)
         go_upto_if 64 with (fail)
         by_cases c68 : a1 = 10
         ·
          rw [if_pos c68] at H
          have c68b0 : (a1 == 10) = true := beq_iff_eq.mpr c68
          have c68b1 : (a1 != 10) = false := bne_eq_false_iff_eq.mpr c68
          clear c68
          have H' := Aside0.mk H
          clear H
          refine wp_cond_true (congrArg Value.bool c68b0) ?_
          refine wp_exit ?_
          repeat (first | refine then_exit_ ?_ | refine inBlock_skip_ rfl ?_)
          refine inBlock_here_ ?_
          go_wp2
          go_meet
          case rel => exact ⟨_, (false), (by first | rfl | (simp; done) | (simp [*]; done)), H', ⟨by have := HJ6.out; have := HJ20.out; first | omega | exact Nat.le_refl _⟩, ⟨by (with_reducible repeat (first | refine blk_drewN ?_ _ | refine blk_drew ?_ | refine blk_alloc ?_ _)); exact BK162.out⟩, ⟨by (with_reducible repeat (first | refine blk_drewN ?_ _ | refine blk_drew ?_ | refine blk_alloc ?_ _)); exact BK163.out⟩, ⟨by (with_reducible repeat (first | refine blk_drewN ?_ _ | refine blk_drew ?_ | refine blk_alloc ?_ _)); exact BK164.out⟩, ⟨by (with_reducible repeat (first | refine blk_drewN ?_ _ | refine blk_drew ?_ | refine blk_alloc ?_ _)); exact BK169.out⟩, ⟨by (with_reducible repeat (first | refine blk_drewN ?_ _ | refine blk_drew ?_ | refine blk_alloc ?_ _)); exact BK170.out⟩, ⟨by repeat (first | (with_reducible first | exact HB.out | apply below_alloc | apply pw_below_drewN | apply below_drew1 | refine below_set ?_ GE162.out | refine below_set ?_ GE163.out | refine below_set ?_ GE164.out | refine below_set ?_ GE169.out | refine below_set ?_ GE170.out) | exact HB.out)⟩⟩
         ·
          rw [if_neg c68] at H
          have c68b0 : (a1 == 10) = false := beq_eq_false_iff_ne.mpr c68
          have c68b1 : (a1 != 10) = true := bne_iff_ne.mpr c68
          go_upto_if 66 with (fail)
          by_cases c69 : a1 = 9
          ·
           rw [if_pos c69] at H
           have c69b0 : (a1 == 9) = true := beq_iff_eq.mpr c69
           have c69b1 : (a1 != 9) = false := bne_eq_false_iff_eq.mpr c69
           clear c69
           have H' := Aside0.mk H
           clear H
           refine wp_cond_true (congrArg Value.bool c69b0) ?_
           refine wp_exit ?_
           repeat (first | refine then_exit_ ?_ | refine inBlock_skip_ rfl ?_)
           refine inBlock_here_ ?_
           go_wp2
           go_meet
           case rel => exact ⟨_, (true), (by first | rfl | (simp; done) | (simp [*]; done)), H', ⟨by have := HJ6.out; have := HJ20.out; first | omega | exact Nat.le_refl _⟩, ⟨by (with_reducible repeat (first | refine blk_drewN ?_ _ | refine blk_drew ?_ | refine blk_alloc ?_ _)); exact BK162.out⟩, ⟨by (with_reducible repeat (first | refine blk_drewN ?_ _ | refine blk_drew ?_ | refine blk_alloc ?_ _)); exact BK163.out⟩, ⟨by (with_reducible repeat (first | refine blk_drewN ?_ _ | refine blk_drew ?_ | refine blk_alloc ?_ _)); exact BK164.out⟩, ⟨by (with_reducible repeat (first | refine blk_drewN ?_ _ | refine blk_drew ?_ | refine blk_alloc ?_ _)); exact BK169.out⟩, ⟨by (with_reducible repeat (first | refine blk_drewN ?_ _ | refine blk_drew ?_ | refine blk_alloc ?_ _)); exact BK170.out⟩, ⟨by repeat (first | (with_reducible first | exact HB.out | apply below_alloc | apply pw_below_drewN | apply below_drew1 | refine below_set ?_ GE162.out | refine below_set ?_ GE163.out | refine below_set ?_ GE164.out | refine below_set ?_ GE169.out | refine below_set ?_ GE170.out) | exact HB.out)⟩⟩
          ·
           rw [if_neg c69] at H
           have c69b0 : (a1 == 9) = false := beq_eq_false_iff_ne.mpr c69
           have c69b1 : (a1 != 9) = true := bne_iff_ne.mpr c69
           go_upto_if 68 with (fail)
           by_cases c70 : a1 = 8
           ·
            rw [if_pos c70] at H
            have c70b0 : (a1 == 8) = true := beq_iff_eq.mpr c70
            have c70b1 : (a1 != 8) = false := bne_eq_false_iff_eq.mpr c70
            clear c70
            have H' := Aside0.mk H
            clear H
            refine wp_cond_true (congrArg Value.bool c70b0) ?_
            refine wp_exit ?_
            repeat (first | refine then_exit_ ?_ | refine inBlock_skip_ rfl ?_)
            refine inBlock_here_ ?_
            go_wp2
            go_meet
            case rel => exact ⟨_, (false), (by first | rfl | (simp; done) | (simp [*]; done)), H', ⟨by have := HJ6.out; have := HJ20.out; first | omega | exact Nat.le_refl _⟩, ⟨by (with_reducible repeat (first | refine blk_drewN ?_ _ | refine blk_drew ?_ | refine blk_alloc ?_ _)); exact BK162.out⟩, ⟨by (with_reducible repeat (first | refine blk_drewN ?_ _ | refine blk_drew ?_ | refine blk_alloc ?_ _)); exact BK163.out⟩, ⟨by (with_reducible repeat (first | refine blk_drewN ?_ _ | refine blk_drew ?_ | refine blk_alloc ?_ _)); exact BK164.out⟩, ⟨by (with_reducible repeat (first | refine blk_drewN ?_ _ | refine blk_drew ?_ | refine blk_alloc ?_ _)); exact BK169.out⟩, ⟨by (with_reducible repeat (first | refine blk_drewN ?_ _ | refine blk_drew ?_ | refine blk_alloc ?_ _)); exact BK170.out⟩, ⟨by repeat (first | (with_reducible first | exact HB.out | apply below_alloc | apply pw_below_drewN | apply below_drew1 | refine below_set ?_ GE162.out | refine below_set ?_ GE163.out | refine below_set ?_ GE164.out | refine below_set ?_ GE169.out | refine below_set ?_ GE170.out) | exact HB.out)⟩⟩
           ·
            rw [if_neg c70] at H
            have c70b0 : (a1 == 8) = false := beq_eq_false_iff_ne.mpr c70
            have c70b1 : (a1 != 8) = true := bne_iff_ne.mpr c70
            go_upto_if 70 with (fail)
            by_cases c71 : a1 = 1
            ·
             rw [if_pos c71] at H
             have c71b0 : (a1 == 1) = true := beq_iff_eq.mpr c71
             have c71b1 : (a1 != 1) = false := bne_eq_false_iff_eq.mpr c71
             clear c71
             obtain rfl := Option.some.inj H
             have hnb72 := NB169_162.out
             have hnc72 := NB162_169.out
             have hnb73 := NB169_163.out
             have hnc73 := NB163_169.out
             have hnb74 := NB169_164.out
             have hnc74 := NB164_169.out
             have hnb75 := NB169_170.out
             have hnc75 := NB170_169.out
             have hcz76_0 : w65.cell? ⟨gb169, 0, none⟩ = some (.int .u32 a3_0) := (blk_cell BK169.out 0).trans rfl
             have hcz76_1 : w65.cell? ⟨gb169, 1, none⟩ = some (.int .u8 a3_1) := (blk_cell BK169.out 1).trans rfl
             have hcz76_2 : w65.cell? ⟨gb169, 2, none⟩ = some (.int .i64 a3_2) := (blk_cell BK169.out 2).trans rfl
             have hcz76_3 : w65.cell? ⟨gb169, 3, none⟩ = some (.int .i64 a3_3) := (blk_cell BK169.out 3).trans rfl
             have hfz76_0 := blk_frozen BK169.out 0
             have hfz76_1 := blk_frozen BK169.out 1
             have hfz76_2 := blk_frozen BK169.out 2
             have hfz76_3 := blk_frozen BK169.out 3
             have hnb77 := NB170_162.out
             have hnc77 := NB162_170.out
             have hnb78 := NB170_163.out
             have hnc78 := NB163_170.out
             have hnb79 := NB170_164.out
             have hnc79 := NB164_170.out
             have hcz80_0 : w65.cell? ⟨gb170, 0, none⟩ = some (.int .u32 a4_0) := (blk_cell BK170.out 0).trans rfl
             have hcz80_1 : w65.cell? ⟨gb170, 1, none⟩ = some (.int .u8 a4_1) := (blk_cell BK170.out 1).trans rfl
             have hcz80_2 : w65.cell? ⟨gb170, 2, none⟩ = some (.int .i64 a4_2) := (blk_cell BK170.out 2).trans rfl
             have hcz80_3 : w65.cell? ⟨gb170, 3, none⟩ = some (.int .i64 a4_3) := (blk_cell BK170.out 3).trans rfl
             have hfz80_0 := blk_frozen BK170.out 0
             have hfz80_1 := blk_frozen BK170.out 1
             have hfz80_2 := blk_frozen BK170.out 2
             have hfz80_3 := blk_frozen BK170.out 3
             refine wp_cond_true (congrArg Value.bool c71b0) ?_
             refine wp_exit ?_
             repeat (first | refine then_exit_ ?_ | refine inBlock_skip_ rfl ?_)
             refine inBlock_here_ ?_
             go_wp2
             go_ret
             exact ⟨by first | rfl | (simp [errW_none, errW_some] <;> rfl) | (simp [*, errW_none, errW_some] <;> rfl), by repeat (first | (with_reducible first | exact HB.out | apply below_alloc | apply pw_below_drewN | apply below_drew1 | refine below_set ?_ GE162.out | refine below_set ?_ GE163.out | refine below_set ?_ GE164.out | refine below_set ?_ GE169.out | refine below_set ?_ GE170.out) | exact HB.out)⟩
            ·
             rw [if_neg c71] at H
             have c71b0 : (a1 == 1) = false := beq_eq_false_iff_ne.mpr c71
             have c71b1 : (a1 != 1) = true := bne_iff_ne.mpr c71
             go_upto_if 72 with (fail)
             by_cases c81 : a1 = 2
             ·
              rw [if_pos c81] at H
              have c81b0 : (a1 == 2) = true := beq_iff_eq.mpr c81
              have c81b1 : (a1 != 2) = false := bne_eq_false_iff_eq.mpr c81
              clear c81
              obtain rfl := Option.some.inj H
              refine wp_cond_true (congrArg Value.bool c81b0) ?_
              refine wp_exit ?_
              repeat (first | refine then_exit_ ?_ | refine inBlock_skip_ rfl ?_)
              refine inBlock_here_ ?_
              go_wp2
              go_ret
              exact ⟨by first | rfl | (simp [errW_none, errW_some] <;> rfl) | (simp [*, errW_none, errW_some] <;> rfl), by repeat (first | (with_reducible first | exact HB.out | apply below_alloc | apply pw_below_drewN | apply below_drew1 | refine below_set ?_ GE162.out | refine below_set ?_ GE163.out | refine below_set ?_ GE164.out | refine below_set ?_ GE169.out | refine below_set ?_ GE170.out) | exact HB.out)⟩
             ·
              rw [if_neg c81] at H
              have c81b0 : (a1 == 2) = false := beq_eq_false_iff_ne.mpr c81
              have c81b1 : (a1 != 2) = true := bne_iff_ne.mpr c81
              go_upto_if 74 with (fail)
              by_cases c82 : a1 = 3
              ·
               rw [if_pos c82] at H
               have c82b0 : (a1 == 3) = true := beq_iff_eq.mpr c82
               have c82b1 : (a1 != 3) = false := bne_eq_false_iff_eq.mpr c82
               clear c82
               obtain rfl := Option.some.inj H
               refine wp_cond_true (congrArg Value.bool c82b0) ?_
               refine wp_exit ?_
               repeat (first | refine then_exit_ ?_ | refine inBlock_skip_ rfl ?_)
               refine inBlock_here_ ?_
               go_wp2
               go_ret
               exact ⟨by first | rfl | (simp [errW_none, errW_some] <;> rfl) | (simp [*, errW_none, errW_some] <;> rfl), by repeat (first | (with_reducible first | exact HB.out | apply below_alloc | apply pw_below_drewN | apply below_drew1 | refine below_set ?_ GE162.out | refine below_set ?_ GE163.out | refine below_set ?_ GE164.out | refine below_set ?_ GE169.out | refine below_set ?_ GE170.out) | exact HB.out)⟩
              ·
               rw [if_neg c82] at H
               have c82b0 : (a1 == 3) = false := beq_eq_false_iff_ne.mpr c82
               have c82b1 : (a1 != 3) = true := bne_iff_ne.mpr c82
               go_upto_if 76 with (fail)
               by_cases c83 : a1 = 4
               ·
                rw [if_pos c83] at H
                have c83b0 : (a1 == 4) = true := beq_iff_eq.mpr c83
                have c83b1 : (a1 != 4) = false := bne_eq_false_iff_eq.mpr c83
                clear c83
                replace H := Option.bind_eq_some_iff.mp H
                obtain ⟨t174, A840, H⟩ := H
                replace H : (some t174) = some r := H
                have A84 := Aside0.mk A840
                clear A840
                obtain rfl := Option.some.inj H
                have hnb85 := NB169_162.out
                have hnc85 := NB162_169.out
                have hnb86 := NB169_163.out
                have hnc86 := NB163_169.out
                have hnb87 := NB169_164.out
                have hnc87 := NB164_169.out
                have hnb88 := NB169_170.out
                have hnc88 := NB170_169.out
                have hcz89_0 : w65.cell? ⟨gb169, 0, none⟩ = some (.int .u32 a3_0) := (blk_cell BK169.out 0).trans rfl
                have hcz89_1 : w65.cell? ⟨gb169, 1, none⟩ = some (.int .u8 a3_1) := (blk_cell BK169.out 1).trans rfl
                have hcz89_2 : w65.cell? ⟨gb169, 2, none⟩ = some (.int .i64 a3_2) := (blk_cell BK169.out 2).trans rfl
                have hcz89_3 : w65.cell? ⟨gb169, 3, none⟩ = some (.int .i64 a3_3) := (blk_cell BK169.out 3).trans rfl
                have hfz89_0 := blk_frozen BK169.out 0
                have hfz89_1 := blk_frozen BK169.out 1
                have hfz89_2 := blk_frozen BK169.out 2
                have hfz89_3 := blk_frozen BK169.out 3
                have hnb90 := NB170_162.out
                have hnc90 := NB162_170.out
                have hnb91 := NB170_163.out
                have hnc91 := NB163_170.out
                have hnb92 := NB170_164.out
                have hnc92 := NB164_170.out
                have hcz93_0 : w65.cell? ⟨gb170, 0, none⟩ = some (.int .u32 a4_0) := (blk_cell BK170.out 0).trans rfl
                have hcz93_1 : w65.cell? ⟨gb170, 1, none⟩ = some (.int .u8 a4_1) := (blk_cell BK170.out 1).trans rfl
                have hcz93_2 : w65.cell? ⟨gb170, 2, none⟩ = some (.int .i64 a4_2) := (blk_cell BK170.out 2).trans rfl
                have hcz93_3 : w65.cell? ⟨gb170, 3, none⟩ = some (.int .i64 a4_3) := (blk_cell BK170.out 3).trans rfl
                have hfz93_0 := blk_frozen BK170.out 0
                have hfz93_1 := blk_frozen BK170.out 1
                have hfz93_2 := blk_frozen BK170.out 2
                have hfz93_3 := blk_frozen BK170.out 3
                refine wp_cond_true (congrArg Value.bool c83b0) ?_
                refine wp_exit ?_
                repeat (first | refine then_exit_ ?_ | refine inBlock_skip_ rfl ?_)
                refine inBlock_here_ ?_
                go_wp2_with (first | ((with_reducible refine gate_callee (f := 29) rfl ?_); refine goesL_ (some 112) rfl rfl Try.func29 (by kernel_rfl) rfl #[.int .u32 ((a3_1) % 4294967296), .int .u32 ((a4_1) % 4294967296)] rfl (by (try simp only [List.map_toArray, List.map_cons, List.map_nil]); first | done | rfl | (simp only [List.length_drop, List.length_take]; rfl)) ?_; (with_reducible refine (pair_inside.calls ((a3_1) % 4294967296) ((a4_1) % 4294967296) t174 _ A84.out).mono ?_); rintro e w' ⟨rfl, ⟨nd, rfl⟩⟩; refine ⟨_, rfl, ?_⟩))
                go_ret
                exact ⟨by first | rfl | (simp [errW_none, errW_some] <;> rfl) | (simp [*, errW_none, errW_some] <;> rfl), by repeat (first | (with_reducible first | exact HB.out | apply below_alloc | apply pw_below_drewN | apply below_drew1 | refine below_set ?_ GE162.out | refine below_set ?_ GE163.out | refine below_set ?_ GE164.out | refine below_set ?_ GE169.out | refine below_set ?_ GE170.out) | exact HB.out)⟩
               ·
                rw [if_neg c83] at H
                have c83b0 : (a1 == 4) = false := beq_eq_false_iff_ne.mpr c83
                have c83b1 : (a1 != 4) = true := bne_iff_ne.mpr c83
                go_upto_if 78 with (fail)
                by_cases c94 : a1 = 5
                ·
                 rw [if_pos c94] at H
                 have c94b0 : (a1 == 5) = true := beq_iff_eq.mpr c94
                 have c94b1 : (a1 != 5) = false := bne_eq_false_iff_eq.mpr c94
                 clear c94
                 obtain rfl := Option.some.inj H
                 have hnb95 := NB169_162.out
                 have hnc95 := NB162_169.out
                 have hnb96 := NB169_163.out
                 have hnc96 := NB163_169.out
                 have hnb97 := NB169_164.out
                 have hnc97 := NB164_169.out
                 have hnb98 := NB169_170.out
                 have hnc98 := NB170_169.out
                 have hcz99_0 : w65.cell? ⟨gb169, 0, none⟩ = some (.int .u32 a3_0) := (blk_cell BK169.out 0).trans rfl
                 have hcz99_1 : w65.cell? ⟨gb169, 1, none⟩ = some (.int .u8 a3_1) := (blk_cell BK169.out 1).trans rfl
                 have hcz99_2 : w65.cell? ⟨gb169, 2, none⟩ = some (.int .i64 a3_2) := (blk_cell BK169.out 2).trans rfl
                 have hcz99_3 : w65.cell? ⟨gb169, 3, none⟩ = some (.int .i64 a3_3) := (blk_cell BK169.out 3).trans rfl
                 have hfz99_0 := blk_frozen BK169.out 0
                 have hfz99_1 := blk_frozen BK169.out 1
                 have hfz99_2 := blk_frozen BK169.out 2
                 have hfz99_3 := blk_frozen BK169.out 3
                 have hnb100 := NB170_162.out
                 have hnc100 := NB162_170.out
                 have hnb101 := NB170_163.out
                 have hnc101 := NB163_170.out
                 have hnb102 := NB170_164.out
                 have hnc102 := NB164_170.out
                 have hcz103_0 : w65.cell? ⟨gb170, 0, none⟩ = some (.int .u32 a4_0) := (blk_cell BK170.out 0).trans rfl
                 have hcz103_1 : w65.cell? ⟨gb170, 1, none⟩ = some (.int .u8 a4_1) := (blk_cell BK170.out 1).trans rfl
                 have hcz103_2 : w65.cell? ⟨gb170, 2, none⟩ = some (.int .i64 a4_2) := (blk_cell BK170.out 2).trans rfl
                 have hcz103_3 : w65.cell? ⟨gb170, 3, none⟩ = some (.int .i64 a4_3) := (blk_cell BK170.out 3).trans rfl
                 have hfz103_0 := blk_frozen BK170.out 0
                 have hfz103_1 := blk_frozen BK170.out 1
                 have hfz103_2 := blk_frozen BK170.out 2
                 have hfz103_3 := blk_frozen BK170.out 3
                 refine wp_cond_true (congrArg Value.bool c94b0) ?_
                 refine wp_exit ?_
                 repeat (first | refine then_exit_ ?_ | refine inBlock_skip_ rfl ?_)
                 refine inBlock_here_ ?_
                 go_wp2
                 go_ret
                 exact ⟨by first | rfl | (simp [errW_none, errW_some] <;> rfl) | (simp [*, errW_none, errW_some] <;> rfl), by repeat (first | (with_reducible first | exact HB.out | apply below_alloc | apply pw_below_drewN | apply below_drew1 | refine below_set ?_ GE162.out | refine below_set ?_ GE163.out | refine below_set ?_ GE164.out | refine below_set ?_ GE169.out | refine below_set ?_ GE170.out) | exact HB.out)⟩
                ·
                 rw [if_neg c94] at H
                 have c94b0 : (a1 == 5) = false := beq_eq_false_iff_ne.mpr c94
                 have c94b1 : (a1 != 5) = true := bne_iff_ne.mpr c94
                 go_upto_if 80 with (fail)
                 by_cases c104 : a1 = 6
                 ·
                  rw [if_pos c104] at H
                  have c104b0 : (a1 == 6) = true := beq_iff_eq.mpr c104
                  have c104b1 : (a1 != 6) = false := bne_eq_false_iff_eq.mpr c104
                  clear c104
                  replace H := Option.bind_eq_some_iff.mp H
                  obtain ⟨t175, A1050, H⟩ := H
                  replace H : (some t175) = some r := H
                  have A105 := Aside0.mk A1050
                  clear A1050
                  obtain rfl := Option.some.inj H
                  have hnb106 := NB169_162.out
                  have hnc106 := NB162_169.out
                  have hnb107 := NB169_163.out
                  have hnc107 := NB163_169.out
                  have hnb108 := NB169_164.out
                  have hnc108 := NB164_169.out
                  have hnb109 := NB169_170.out
                  have hnc109 := NB170_169.out
                  have hcz110_0 : w65.cell? ⟨gb169, 0, none⟩ = some (.int .u32 a3_0) := (blk_cell BK169.out 0).trans rfl
                  have hcz110_1 : w65.cell? ⟨gb169, 1, none⟩ = some (.int .u8 a3_1) := (blk_cell BK169.out 1).trans rfl
                  have hcz110_2 : w65.cell? ⟨gb169, 2, none⟩ = some (.int .i64 a3_2) := (blk_cell BK169.out 2).trans rfl
                  have hcz110_3 : w65.cell? ⟨gb169, 3, none⟩ = some (.int .i64 a3_3) := (blk_cell BK169.out 3).trans rfl
                  have hfz110_0 := blk_frozen BK169.out 0
                  have hfz110_1 := blk_frozen BK169.out 1
                  have hfz110_2 := blk_frozen BK169.out 2
                  have hfz110_3 := blk_frozen BK169.out 3
                  have hnb111 := NB170_162.out
                  have hnc111 := NB162_170.out
                  have hnb112 := NB170_163.out
                  have hnc112 := NB163_170.out
                  have hnb113 := NB170_164.out
                  have hnc113 := NB164_170.out
                  have hcz114_0 : w65.cell? ⟨gb170, 0, none⟩ = some (.int .u32 a4_0) := (blk_cell BK170.out 0).trans rfl
                  have hcz114_1 : w65.cell? ⟨gb170, 1, none⟩ = some (.int .u8 a4_1) := (blk_cell BK170.out 1).trans rfl
                  have hcz114_2 : w65.cell? ⟨gb170, 2, none⟩ = some (.int .i64 a4_2) := (blk_cell BK170.out 2).trans rfl
                  have hcz114_3 : w65.cell? ⟨gb170, 3, none⟩ = some (.int .i64 a4_3) := (blk_cell BK170.out 3).trans rfl
                  have hfz114_0 := blk_frozen BK170.out 0
                  have hfz114_1 := blk_frozen BK170.out 1
                  have hfz114_2 := blk_frozen BK170.out 2
                  have hfz114_3 := blk_frozen BK170.out 3
                  refine wp_cond_true (congrArg Value.bool c104b0) ?_
                  refine wp_exit ?_
                  repeat (first | refine then_exit_ ?_ | refine inBlock_skip_ rfl ?_)
                  refine inBlock_here_ ?_
                  go_wp2_with (first | ((with_reducible refine gate_callee (f := 29) rfl ?_); refine goesL_ (some 123) rfl rfl Try.func29 (by kernel_rfl) rfl #[.int .u32 a3_0, .int .u32 a4_0] rfl (by (try simp only [List.map_toArray, List.map_cons, List.map_nil]); first | done | rfl | (simp only [List.length_drop, List.length_take]; rfl)) ?_; (with_reducible refine (pair_inside.calls a3_0 a4_0 t175 _ A105.out).mono ?_); rintro e w' ⟨rfl, ⟨nd, rfl⟩⟩; refine ⟨_, rfl, ?_⟩))
                  go_ret
                  exact ⟨by first | rfl | (simp [errW_none, errW_some] <;> rfl) | (simp [*, errW_none, errW_some] <;> rfl), by repeat (first | (with_reducible first | exact HB.out | apply below_alloc | apply pw_below_drewN | apply below_drew1 | refine below_set ?_ GE162.out | refine below_set ?_ GE163.out | refine below_set ?_ GE164.out | refine below_set ?_ GE169.out | refine below_set ?_ GE170.out) | exact HB.out)⟩
                 ·
                  rw [if_neg c104] at H
                  have c104b0 : (a1 == 6) = false := beq_eq_false_iff_ne.mpr c104
                  have c104b1 : (a1 != 6) = true := bne_iff_ne.mpr c104
                  go_upto_if 82 with (fail)
                  by_cases c115 : a1 = 7
                  ·
                   rw [if_pos c115] at H
                   have c115b0 : (a1 == 7) = true := beq_iff_eq.mpr c115
                   have c115b1 : (a1 != 7) = false := bne_eq_false_iff_eq.mpr c115
                   clear c115
                   obtain rfl := Option.some.inj H
                   have hnb116 := NB169_162.out
                   have hnc116 := NB162_169.out
                   have hnb117 := NB169_163.out
                   have hnc117 := NB163_169.out
                   have hnb118 := NB169_164.out
                   have hnc118 := NB164_169.out
                   have hnb119 := NB169_170.out
                   have hnc119 := NB170_169.out
                   have hcz120_0 : w65.cell? ⟨gb169, 0, none⟩ = some (.int .u32 a3_0) := (blk_cell BK169.out 0).trans rfl
                   have hcz120_1 : w65.cell? ⟨gb169, 1, none⟩ = some (.int .u8 a3_1) := (blk_cell BK169.out 1).trans rfl
                   have hcz120_2 : w65.cell? ⟨gb169, 2, none⟩ = some (.int .i64 a3_2) := (blk_cell BK169.out 2).trans rfl
                   have hcz120_3 : w65.cell? ⟨gb169, 3, none⟩ = some (.int .i64 a3_3) := (blk_cell BK169.out 3).trans rfl
                   have hfz120_0 := blk_frozen BK169.out 0
                   have hfz120_1 := blk_frozen BK169.out 1
                   have hfz120_2 := blk_frozen BK169.out 2
                   have hfz120_3 := blk_frozen BK169.out 3
                   have hnb121 := NB170_162.out
                   have hnc121 := NB162_170.out
                   have hnb122 := NB170_163.out
                   have hnc122 := NB163_170.out
                   have hnb123 := NB170_164.out
                   have hnc123 := NB164_170.out
                   have hcz124_0 : w65.cell? ⟨gb170, 0, none⟩ = some (.int .u32 a4_0) := (blk_cell BK170.out 0).trans rfl
                   have hcz124_1 : w65.cell? ⟨gb170, 1, none⟩ = some (.int .u8 a4_1) := (blk_cell BK170.out 1).trans rfl
                   have hcz124_2 : w65.cell? ⟨gb170, 2, none⟩ = some (.int .i64 a4_2) := (blk_cell BK170.out 2).trans rfl
                   have hcz124_3 : w65.cell? ⟨gb170, 3, none⟩ = some (.int .i64 a4_3) := (blk_cell BK170.out 3).trans rfl
                   have hfz124_0 := blk_frozen BK170.out 0
                   have hfz124_1 := blk_frozen BK170.out 1
                   have hfz124_2 := blk_frozen BK170.out 2
                   have hfz124_3 := blk_frozen BK170.out 3
                   refine wp_cond_true (congrArg Value.bool c115b0) ?_
                   refine wp_exit ?_
                   repeat (first | refine then_exit_ ?_ | refine inBlock_skip_ rfl ?_)
                   refine inBlock_here_ ?_
                   go_wp2
                   go_ret
                   exact ⟨by first | rfl | (simp [errW_none, errW_some] <;> rfl) | (simp [*, errW_none, errW_some] <;> rfl), by repeat (first | (with_reducible first | exact HB.out | apply below_alloc | apply pw_below_drewN | apply below_drew1 | refine below_set ?_ GE162.out | refine below_set ?_ GE163.out | refine below_set ?_ GE164.out | refine below_set ?_ GE169.out | refine below_set ?_ GE170.out) | exact HB.out)⟩
                  ·
                   rw [if_neg c115] at H
                   have c115b0 : (a1 == 7) = false := beq_eq_false_iff_ne.mpr c115
                   have c115b1 : (a1 != 7) = true := bne_iff_ne.mpr c115
                   go_upto_if 84 with (fail)
                   by_cases c125 : a1 = 12
                   ·
                    rw [if_pos c125] at H
                    have c125b0 : (a1 == 12) = true := beq_iff_eq.mpr c125
                    have c125b1 : (a1 != 12) = false := bne_eq_false_iff_eq.mpr c125
                    clear c125
                    replace H := Option.bind_eq_some_iff.mp H
                    obtain ⟨t176, A1260, H⟩ := H
                    replace H : (some t176) = some r := H
                    have A126 := Aside0.mk A1260
                    clear A1260
                    obtain rfl := Option.some.inj H
                    have hnb127 := NB162_163.out
                    have hnc127 := NB163_162.out
                    have hnb128 := NB162_164.out
                    have hnc128 := NB164_162.out
                    have hnb129 := NB162_169.out
                    have hnc129 := NB169_162.out
                    have hnb130 := NB162_170.out
                    have hnc130 := NB170_162.out
                    have hcz131_0 : w65.cell? ⟨gb162, 0, none⟩ = some (.int .i64 a0_0) := (blk_cell BK162.out 0).trans rfl
                    have hcz131_1 : w65.cell? ⟨gb162, 1, none⟩ = some (.int .i64 a0_1) := (blk_cell BK162.out 1).trans rfl
                    have hcz131_2 : w65.cell? ⟨gb162, 2, none⟩ = some (.int .i64 a0_2) := (blk_cell BK162.out 2).trans rfl
                    have hfz131_0 := blk_frozen BK162.out 0
                    have hfz131_1 := blk_frozen BK162.out 1
                    have hfz131_2 := blk_frozen BK162.out 2
                    have hnb132 := NB169_163.out
                    have hnc132 := NB163_169.out
                    have hnb133 := NB169_164.out
                    have hnc133 := NB164_169.out
                    have hnb134 := NB169_170.out
                    have hnc134 := NB170_169.out
                    have hcz135_0 : w65.cell? ⟨gb169, 0, none⟩ = some (.int .u32 a3_0) := (blk_cell BK169.out 0).trans rfl
                    have hcz135_1 : w65.cell? ⟨gb169, 1, none⟩ = some (.int .u8 a3_1) := (blk_cell BK169.out 1).trans rfl
                    have hcz135_2 : w65.cell? ⟨gb169, 2, none⟩ = some (.int .i64 a3_2) := (blk_cell BK169.out 2).trans rfl
                    have hcz135_3 : w65.cell? ⟨gb169, 3, none⟩ = some (.int .i64 a3_3) := (blk_cell BK169.out 3).trans rfl
                    have hfz135_0 := blk_frozen BK169.out 0
                    have hfz135_1 := blk_frozen BK169.out 1
                    have hfz135_2 := blk_frozen BK169.out 2
                    have hfz135_3 := blk_frozen BK169.out 3
                    have hnb136 := NB170_163.out
                    have hnc136 := NB163_170.out
                    have hnb137 := NB170_164.out
                    have hnc137 := NB164_170.out
                    have hcz138_0 : w65.cell? ⟨gb170, 0, none⟩ = some (.int .u32 a4_0) := (blk_cell BK170.out 0).trans rfl
                    have hcz138_1 : w65.cell? ⟨gb170, 1, none⟩ = some (.int .u8 a4_1) := (blk_cell BK170.out 1).trans rfl
                    have hcz138_2 : w65.cell? ⟨gb170, 2, none⟩ = some (.int .i64 a4_2) := (blk_cell BK170.out 2).trans rfl
                    have hcz138_3 : w65.cell? ⟨gb170, 3, none⟩ = some (.int .i64 a4_3) := (blk_cell BK170.out 3).trans rfl
                    have hfz138_0 := blk_frozen BK170.out 0
                    have hfz138_1 := blk_frozen BK170.out 1
                    have hfz138_2 := blk_frozen BK170.out 2
                    have hfz138_3 := blk_frozen BK170.out 3
                    refine wp_cond_true (congrArg Value.bool c125b0) ?_
                    refine wp_exit ?_
                    repeat (first | refine then_exit_ ?_ | refine inBlock_skip_ rfl ?_)
                    refine inBlock_here_ ?_
                    go_wp2_with (first | ((with_reducible refine gate_callee (f := 30) rfl ?_); refine goesL_ (some 133) rfl rfl Try.func30 (by kernel_rfl) rfl #[.agg #[.int .i64 a0_0, .int .i64 a0_1, .int .i64 a0_2], .agg #[.int .u32 a3_0, .int .u8 a3_1, .int .i64 a3_2, .int .i64 a3_3], .agg #[.int .u32 a4_0, .int .u8 a4_1, .int .i64 a4_2, .int .i64 a4_3]] rfl (by (try simp only [List.map_toArray, List.map_cons, List.map_nil]); first | done | rfl | (simp only [List.length_drop, List.length_take]; rfl)) ?_; (with_reducible refine (pair_ahead.calls kj20 a0_0 a0_1 a0_2 a3_0 a3_1 a3_2 a3_3 a4_0 a4_1 a4_2 a4_3 t176 _ A126.out).mono ?_); rintro e w139 ⟨rfl, hb⟩; refine ⟨_, rfl, ?_⟩; have n0_ := Aside0.mk (blk_below (g := gb162) (o := .cells #[.int .i64 a0_0, .int .i64 a0_1, .int .i64 a0_2] 23 (0, 0)) (by (with_reducible repeat (first | refine blk_drewN ?_ _ | refine blk_drew ?_ | refine blk_alloc ?_ _)); exact BK162.out) hb); have n1_ := Aside0.mk (blk_below (g := gb163) (o := .cells #[.int .u32 a3_0, .int .u8 a3_1, .int .i64 a3_2, .int .i64 a3_3, .int .i64 a3_4] 28 (0, 0)) (by (with_reducible repeat (first | refine blk_drewN ?_ _ | refine blk_drew ?_ | refine blk_alloc ?_ _)); exact BK163.out) hb); have n2_ := Aside0.mk (blk_below (g := gb164) (o := .cells #[.int .u32 a4_0, .int .u8 a4_1, .int .i64 a4_2, .int .i64 a4_3, .int .i64 a4_4] 28 (0, 0)) (by (with_reducible repeat (first | refine blk_drewN ?_ _ | refine blk_drew ?_ | refine blk_alloc ?_ _)); exact BK164.out) hb); have n3_ := Aside0.mk (blk_below (g := gb169) (o := .cells #[.int .u32 a3_0, .int .u8 a3_1, .int .i64 a3_2, .int .i64 a3_3] 26 (0, 0)) (by (with_reducible repeat (first | refine blk_drewN ?_ _ | refine blk_drew ?_ | refine blk_alloc ?_ _)); exact BK169.out) hb); have n4_ := Aside0.mk (blk_below (g := gb170) (o := .cells #[.int .u32 a4_0, .int .u8 a4_1, .int .i64 a4_2, .int .i64 a4_3] 26 (0, 0)) (by (with_reducible repeat (first | refine blk_drewN ?_ _ | refine blk_drew ?_ | refine blk_alloc ?_ _)); exact BK170.out) hb); have n5_ := Aside0.mk (below_step (by repeat (first | (with_reducible first | exact HB.out | apply below_alloc | apply pw_below_drewN | apply below_drew1 | refine below_set ?_ GE162.out | refine below_set ?_ GE163.out | refine below_set ?_ GE164.out | refine below_set ?_ GE169.out | refine below_set ?_ GE170.out) | exact HB.out)) hb); clear BK162; clear BK163; clear BK164; clear BK169; clear BK170; clear HB; have BK162 := n0_; have BK163 := n1_; have BK164 := n2_; have BK169 := n3_; have BK170 := n4_; have HB := n5_; clear n0_ n1_ n2_ n3_ n4_ n5_; (try clear hb); (try clear hb2); (try clear hk); (try clear hi)))
                    go_ret
                    exact ⟨by first | rfl | (simp [errW_none, errW_some] <;> rfl) | (simp [*, errW_none, errW_some] <;> rfl), by repeat (first | (with_reducible first | exact HB.out | apply below_alloc | apply pw_below_drewN | apply below_drew1 | refine below_set ?_ GE162.out | refine below_set ?_ GE163.out | refine below_set ?_ GE164.out | refine below_set ?_ GE169.out | refine below_set ?_ GE170.out) | exact HB.out)⟩
                   ·
                    rw [if_neg c125] at H
                    have c125b0 : (a1 == 12) = false := beq_eq_false_iff_ne.mpr c125
                    have c125b1 : (a1 != 12) = true := bne_iff_ne.mpr c125
                    go_upto_if 86 with (fail)
                    by_cases c140 : a1 = 13
                    ·
                     rw [if_pos c140] at H
                     have c140b0 : (a1 == 13) = true := beq_iff_eq.mpr c140
                     have c140b1 : (a1 != 13) = false := bne_eq_false_iff_eq.mpr c140
                     clear c140
                     replace H := Option.bind_eq_some_iff.mp H
                     obtain ⟨t177, A1410, H⟩ := H
                     replace H : (some t177) = some r := H
                     have A141 := Aside0.mk A1410
                     clear A1410
                     obtain rfl := Option.some.inj H
                     have hnb142 := NB169_162.out
                     have hnc142 := NB162_169.out
                     have hnb143 := NB169_163.out
                     have hnc143 := NB163_169.out
                     have hnb144 := NB169_164.out
                     have hnc144 := NB164_169.out
                     have hnb145 := NB169_170.out
                     have hnc145 := NB170_169.out
                     have hcz146_0 : w65.cell? ⟨gb169, 0, none⟩ = some (.int .u32 a3_0) := (blk_cell BK169.out 0).trans rfl
                     have hcz146_1 : w65.cell? ⟨gb169, 1, none⟩ = some (.int .u8 a3_1) := (blk_cell BK169.out 1).trans rfl
                     have hcz146_2 : w65.cell? ⟨gb169, 2, none⟩ = some (.int .i64 a3_2) := (blk_cell BK169.out 2).trans rfl
                     have hcz146_3 : w65.cell? ⟨gb169, 3, none⟩ = some (.int .i64 a3_3) := (blk_cell BK169.out 3).trans rfl
                     have hfz146_0 := blk_frozen BK169.out 0
                     have hfz146_1 := blk_frozen BK169.out 1
                     have hfz146_2 := blk_frozen BK169.out 2
                     have hfz146_3 := blk_frozen BK169.out 3
                     have hnb147 := NB170_162.out
                     have hnc147 := NB162_170.out
                     have hnb148 := NB170_163.out
                     have hnc148 := NB163_170.out
                     have hnb149 := NB170_164.out
                     have hnc149 := NB164_170.out
                     have hcz150_0 : w65.cell? ⟨gb170, 0, none⟩ = some (.int .u32 a4_0) := (blk_cell BK170.out 0).trans rfl
                     have hcz150_1 : w65.cell? ⟨gb170, 1, none⟩ = some (.int .u8 a4_1) := (blk_cell BK170.out 1).trans rfl
                     have hcz150_2 : w65.cell? ⟨gb170, 2, none⟩ = some (.int .i64 a4_2) := (blk_cell BK170.out 2).trans rfl
                     have hcz150_3 : w65.cell? ⟨gb170, 3, none⟩ = some (.int .i64 a4_3) := (blk_cell BK170.out 3).trans rfl
                     have hfz150_0 := blk_frozen BK170.out 0
                     have hfz150_1 := blk_frozen BK170.out 1
                     have hfz150_2 := blk_frozen BK170.out 2
                     have hfz150_3 := blk_frozen BK170.out 3
                     refine wp_cond_true (congrArg Value.bool c140b0) ?_
                     refine wp_exit ?_
                     repeat (first | refine then_exit_ ?_ | refine inBlock_skip_ rfl ?_)
                     refine inBlock_here_ ?_
                     go_wp2_with (first | ((with_reducible refine gate_callee (f := 31) rfl ?_); refine goesL_ (some 137) rfl rfl Try.func31 (by kernel_rfl) rfl #[.agg #[.int .u32 a3_0, .int .u8 a3_1, .int .i64 a3_2, .int .i64 a3_3], .agg #[.int .u32 a4_0, .int .u8 a4_1, .int .i64 a4_2, .int .i64 a4_3], .int .i64 a2] rfl (by (try simp only [List.map_toArray, List.map_cons, List.map_nil]); first | done | rfl | (simp only [List.length_drop, List.length_take]; rfl)) ?_; (with_reducible refine (pair_short.calls a3_0 a3_1 a3_2 a3_3 a4_0 a4_1 a4_2 a4_3 a2 t177 _ A141.out).mono ?_); rintro e w151 ⟨rfl, hb⟩; refine ⟨_, rfl, ?_⟩; have n0_ := Aside0.mk (blk_below (g := gb162) (o := .cells #[.int .i64 a0_0, .int .i64 a0_1, .int .i64 a0_2] 23 (0, 0)) (by (with_reducible repeat (first | refine blk_drewN ?_ _ | refine blk_drew ?_ | refine blk_alloc ?_ _)); exact BK162.out) hb); have n1_ := Aside0.mk (blk_below (g := gb163) (o := .cells #[.int .u32 a3_0, .int .u8 a3_1, .int .i64 a3_2, .int .i64 a3_3, .int .i64 a3_4] 28 (0, 0)) (by (with_reducible repeat (first | refine blk_drewN ?_ _ | refine blk_drew ?_ | refine blk_alloc ?_ _)); exact BK163.out) hb); have n2_ := Aside0.mk (blk_below (g := gb164) (o := .cells #[.int .u32 a4_0, .int .u8 a4_1, .int .i64 a4_2, .int .i64 a4_3, .int .i64 a4_4] 28 (0, 0)) (by (with_reducible repeat (first | refine blk_drewN ?_ _ | refine blk_drew ?_ | refine blk_alloc ?_ _)); exact BK164.out) hb); have n3_ := Aside0.mk (blk_below (g := gb169) (o := .cells #[.int .u32 a3_0, .int .u8 a3_1, .int .i64 a3_2, .int .i64 a3_3] 26 (0, 0)) (by (with_reducible repeat (first | refine blk_drewN ?_ _ | refine blk_drew ?_ | refine blk_alloc ?_ _)); exact BK169.out) hb); have n4_ := Aside0.mk (blk_below (g := gb170) (o := .cells #[.int .u32 a4_0, .int .u8 a4_1, .int .i64 a4_2, .int .i64 a4_3] 26 (0, 0)) (by (with_reducible repeat (first | refine blk_drewN ?_ _ | refine blk_drew ?_ | refine blk_alloc ?_ _)); exact BK170.out) hb); have n5_ := Aside0.mk (below_step (by repeat (first | (with_reducible first | exact HB.out | apply below_alloc | apply pw_below_drewN | apply below_drew1 | refine below_set ?_ GE162.out | refine below_set ?_ GE163.out | refine below_set ?_ GE164.out | refine below_set ?_ GE169.out | refine below_set ?_ GE170.out) | exact HB.out)) hb); clear BK162; clear BK163; clear BK164; clear BK169; clear BK170; clear HB; have BK162 := n0_; have BK163 := n1_; have BK164 := n2_; have BK169 := n3_; have BK170 := n4_; have HB := n5_; clear n0_ n1_ n2_ n3_ n4_ n5_; (try clear hb); (try clear hb2); (try clear hk); (try clear hi)))
                     go_ret
                     exact ⟨by first | rfl | (simp [errW_none, errW_some] <;> rfl) | (simp [*, errW_none, errW_some] <;> rfl), by repeat (first | (with_reducible first | exact HB.out | apply below_alloc | apply pw_below_drewN | apply below_drew1 | refine below_set ?_ GE162.out | refine below_set ?_ GE163.out | refine below_set ?_ GE164.out | refine below_set ?_ GE169.out | refine below_set ?_ GE170.out) | exact HB.out)⟩
                    ·
                     rw [if_neg c140] at H
                     have c140b0 : (a1 == 13) = false := beq_eq_false_iff_ne.mpr c140
                     have c140b1 : (a1 != 13) = true := bne_iff_ne.mpr c140
                     go_upto_if 88 with (fail)
                     by_cases c152 : a1 = 14
                     ·
                      rw [if_pos c152] at H
                      have c152b0 : (a1 == 14) = true := beq_iff_eq.mpr c152
                      have c152b1 : (a1 != 14) = false := bne_eq_false_iff_eq.mpr c152
                      clear c152
                      replace H := Option.bind_eq_some_iff.mp H
                      obtain ⟨t178, A1530, H⟩ := H
                      replace H : (some t178) = some r := H
                      have A153 := Aside0.mk A1530
                      clear A1530
                      obtain rfl := Option.some.inj H
                      have hnb154 := NB169_162.out
                      have hnc154 := NB162_169.out
                      have hnb155 := NB169_163.out
                      have hnc155 := NB163_169.out
                      have hnb156 := NB169_164.out
                      have hnc156 := NB164_169.out
                      have hnb157 := NB169_170.out
                      have hnc157 := NB170_169.out
                      have hcz158_0 : w65.cell? ⟨gb169, 0, none⟩ = some (.int .u32 a3_0) := (blk_cell BK169.out 0).trans rfl
                      have hcz158_1 : w65.cell? ⟨gb169, 1, none⟩ = some (.int .u8 a3_1) := (blk_cell BK169.out 1).trans rfl
                      have hcz158_2 : w65.cell? ⟨gb169, 2, none⟩ = some (.int .i64 a3_2) := (blk_cell BK169.out 2).trans rfl
                      have hcz158_3 : w65.cell? ⟨gb169, 3, none⟩ = some (.int .i64 a3_3) := (blk_cell BK169.out 3).trans rfl
                      have hfz158_0 := blk_frozen BK169.out 0
                      have hfz158_1 := blk_frozen BK169.out 1
                      have hfz158_2 := blk_frozen BK169.out 2
                      have hfz158_3 := blk_frozen BK169.out 3
                      have hnb159 := NB170_162.out
                      have hnc159 := NB162_170.out
                      have hnb160 := NB170_163.out
                      have hnc160 := NB163_170.out
                      have hnb161 := NB170_164.out
                      have hnc161 := NB164_170.out
                      have hcz162_0 : w65.cell? ⟨gb170, 0, none⟩ = some (.int .u32 a4_0) := (blk_cell BK170.out 0).trans rfl
                      have hcz162_1 : w65.cell? ⟨gb170, 1, none⟩ = some (.int .u8 a4_1) := (blk_cell BK170.out 1).trans rfl
                      have hcz162_2 : w65.cell? ⟨gb170, 2, none⟩ = some (.int .i64 a4_2) := (blk_cell BK170.out 2).trans rfl
                      have hcz162_3 : w65.cell? ⟨gb170, 3, none⟩ = some (.int .i64 a4_3) := (blk_cell BK170.out 3).trans rfl
                      have hfz162_0 := blk_frozen BK170.out 0
                      have hfz162_1 := blk_frozen BK170.out 1
                      have hfz162_2 := blk_frozen BK170.out 2
                      have hfz162_3 := blk_frozen BK170.out 3
                      refine wp_cond_true (congrArg Value.bool c152b0) ?_
                      refine wp_exit ?_
                      repeat (first | refine then_exit_ ?_ | refine inBlock_skip_ rfl ?_)
                      refine inBlock_here_ ?_
                      go_wp2_with (first | ((with_reducible refine gate_callee (f := 32) rfl ?_); refine goesL_ (some 141) rfl rfl Try.func32 (by kernel_rfl) rfl #[.agg #[.int .u32 a3_0, .int .u8 a3_1, .int .i64 a3_2, .int .i64 a3_3], .agg #[.int .u32 a4_0, .int .u8 a4_1, .int .i64 a4_2, .int .i64 a4_3], .int .i64 a5] rfl (by (try simp only [List.map_toArray, List.map_cons, List.map_nil]); first | done | rfl | (simp only [List.length_drop, List.length_take]; rfl)) ?_; (with_reducible refine (person_Reach.calls a3_0 a3_1 a3_2 a3_3 a4_0 a4_1 a4_2 a4_3 a5 t178 _ A153.out).mono ?_); rintro e w163 ⟨rfl, hb⟩; refine ⟨_, rfl, ?_⟩; have n0_ := Aside0.mk (blk_below (g := gb162) (o := .cells #[.int .i64 a0_0, .int .i64 a0_1, .int .i64 a0_2] 23 (0, 0)) (by (with_reducible repeat (first | refine blk_drewN ?_ _ | refine blk_drew ?_ | refine blk_alloc ?_ _)); exact BK162.out) hb); have n1_ := Aside0.mk (blk_below (g := gb163) (o := .cells #[.int .u32 a3_0, .int .u8 a3_1, .int .i64 a3_2, .int .i64 a3_3, .int .i64 a3_4] 28 (0, 0)) (by (with_reducible repeat (first | refine blk_drewN ?_ _ | refine blk_drew ?_ | refine blk_alloc ?_ _)); exact BK163.out) hb); have n2_ := Aside0.mk (blk_below (g := gb164) (o := .cells #[.int .u32 a4_0, .int .u8 a4_1, .int .i64 a4_2, .int .i64 a4_3, .int .i64 a4_4] 28 (0, 0)) (by (with_reducible repeat (first | refine blk_drewN ?_ _ | refine blk_drew ?_ | refine blk_alloc ?_ _)); exact BK164.out) hb); have n3_ := Aside0.mk (blk_below (g := gb169) (o := .cells #[.int .u32 a3_0, .int .u8 a3_1, .int .i64 a3_2, .int .i64 a3_3] 26 (0, 0)) (by (with_reducible repeat (first | refine blk_drewN ?_ _ | refine blk_drew ?_ | refine blk_alloc ?_ _)); exact BK169.out) hb); have n4_ := Aside0.mk (blk_below (g := gb170) (o := .cells #[.int .u32 a4_0, .int .u8 a4_1, .int .i64 a4_2, .int .i64 a4_3] 26 (0, 0)) (by (with_reducible repeat (first | refine blk_drewN ?_ _ | refine blk_drew ?_ | refine blk_alloc ?_ _)); exact BK170.out) hb); have n5_ := Aside0.mk (below_step (by repeat (first | (with_reducible first | exact HB.out | apply below_alloc | apply pw_below_drewN | apply below_drew1 | refine below_set ?_ GE162.out | refine below_set ?_ GE163.out | refine below_set ?_ GE164.out | refine below_set ?_ GE169.out | refine below_set ?_ GE170.out) | exact HB.out)) hb); clear BK162; clear BK163; clear BK164; clear BK169; clear BK170; clear HB; have BK162 := n0_; have BK163 := n1_; have BK164 := n2_; have BK169 := n3_; have BK170 := n4_; have HB := n5_; clear n0_ n1_ n2_ n3_ n4_ n5_; (try clear hb); (try clear hb2); (try clear hk); (try clear hi)))
                      go_ret
                      exact ⟨by first | rfl | (simp [errW_none, errW_some] <;> rfl) | (simp [*, errW_none, errW_some] <;> rfl), by repeat (first | (with_reducible first | exact HB.out | apply below_alloc | apply pw_below_drewN | apply below_drew1 | refine below_set ?_ GE162.out | refine below_set ?_ GE163.out | refine below_set ?_ GE164.out | refine below_set ?_ GE169.out | refine below_set ?_ GE170.out) | exact HB.out)⟩
                     ·
                      rw [if_neg c152] at H
                      have c152b0 : (a1 == 14) = false := beq_eq_false_iff_ne.mpr c152
                      have c152b1 : (a1 != 14) = true := bne_iff_ne.mpr c152
                      obtain rfl := Option.some.inj H
                      refine wp_cond_false (congrArg Value.bool c152b0) ?_
                      go_step
                      go_step
                      go_step
                      refine wp_exit ?_
                      repeat (first | refine then_exit_ ?_ | refine inBlock_skip_ rfl ?_)
                      refine inBlock_here_ ?_
                      go_wp2
                      go_ret
                      exact ⟨by first | rfl | (simp [errW_none, errW_some] <;> rfl) | (simp [*, errW_none, errW_some] <;> rfl), by repeat (first | (with_reducible first | exact HB.out | apply below_alloc | apply pw_below_drewN | apply below_drew1 | refine below_set ?_ GE162.out | refine below_set ?_ GE163.out | refine below_set ?_ GE164.out | refine below_set ?_ GE169.out | refine below_set ?_ GE170.out) | exact HB.out)⟩
       case rest =>
        clear HC66
        try clear c5
        try clear c6
        try clear c7
        try clear c8
        try clear c9
        try clear c14
        try clear c16
        try clear c30
        try clear c31
        try clear c32
        try clear c56
        try clear c57
        try clear c58
        try clear c59
        try clear c61
        try clear c62
        try clear c63
        try clear c67
        try clear c67b0
        try clear c67b1
        try clear c68
        try clear c68b0
        try clear c68b1
        try clear c69
        try clear c69b0
        try clear c69b1
        try clear c70
        try clear c70b0
        try clear c70b1
        try clear c71
        try clear c71b0
        try clear c71b1
        try clear c72
        try clear c73
        try clear c74
        try clear c75
        try clear c77
        try clear c78
        try clear c79
        try clear c81
        try clear c81b0
        try clear c81b1
        try clear c82
        try clear c82b0
        try clear c82b1
        try clear c83
        try clear c83b0
        try clear c83b1
        try clear c85
        try clear c86
        try clear c87
        try clear c88
        try clear c90
        try clear c91
        try clear c92
        try clear c94
        try clear c94b0
        try clear c94b1
        try clear c95
        try clear c96
        try clear c97
        try clear c98
        try clear c100
        try clear c101
        try clear c102
        try clear c104
        try clear c104b0
        try clear c104b1
        try clear c106
        try clear c107
        try clear c108
        try clear c109
        try clear c111
        try clear c112
        try clear c113
        try clear c115
        try clear c115b0
        try clear c115b1
        try clear c116
        try clear c117
        try clear c118
        try clear c119
        try clear c121
        try clear c122
        try clear c123
        try clear c125
        try clear c125b0
        try clear c125b1
        try clear c127
        try clear c128
        try clear c129
        try clear c130
        try clear c132
        try clear c133
        try clear c134
        try clear c136
        try clear c137
        try clear c140
        try clear c140b0
        try clear c140b1
        try clear c142
        try clear c143
        try clear c144
        try clear c145
        try clear c147
        try clear c148
        try clear c149
        try clear c152
        try clear c152b0
        try clear c152b1
        try clear c154
        try clear c155
        try clear c156
        try clear c157
        try clear c159
        try clear c160
        try clear c161
        try clear hcz103_0
        try clear hcz103_1
        try clear hcz103_2
        try clear hcz103_3
        try clear hcz110_0
        try clear hcz110_1
        try clear hcz110_2
        try clear hcz110_3
        try clear hcz114_0
        try clear hcz114_1
        try clear hcz114_2
        try clear hcz114_3
        try clear hcz120_0
        try clear hcz120_1
        try clear hcz120_2
        try clear hcz120_3
        try clear hcz124_0
        try clear hcz124_1
        try clear hcz124_2
        try clear hcz124_3
        try clear hcz131_0
        try clear hcz131_1
        try clear hcz131_2
        try clear hcz135_0
        try clear hcz135_1
        try clear hcz135_2
        try clear hcz135_3
        try clear hcz138_0
        try clear hcz138_1
        try clear hcz138_2
        try clear hcz138_3
        try clear hcz146_0
        try clear hcz146_1
        try clear hcz146_2
        try clear hcz146_3
        try clear hcz150_0
        try clear hcz150_1
        try clear hcz150_2
        try clear hcz150_3
        try clear hcz158_0
        try clear hcz158_1
        try clear hcz158_2
        try clear hcz158_3
        try clear hcz162_0
        try clear hcz162_1
        try clear hcz162_2
        try clear hcz162_3
        try clear hcz60_0
        try clear hcz60_1
        try clear hcz60_2
        try clear hcz60_3
        try clear hcz64_0
        try clear hcz64_1
        try clear hcz64_2
        try clear hcz64_3
        try clear hcz76_0
        try clear hcz76_1
        try clear hcz76_2
        try clear hcz76_3
        try clear hcz80_0
        try clear hcz80_1
        try clear hcz80_2
        try clear hcz80_3
        try clear hcz89_0
        try clear hcz89_1
        try clear hcz89_2
        try clear hcz89_3
        try clear hcz93_0
        try clear hcz93_1
        try clear hcz93_2
        try clear hcz93_3
        try clear hcz99_0
        try clear hcz99_1
        try clear hcz99_2
        try clear hcz99_3
        try clear hfz103_0
        try clear hfz103_1
        try clear hfz103_2
        try clear hfz103_3
        try clear hfz110_0
        try clear hfz110_1
        try clear hfz110_2
        try clear hfz110_3
        try clear hfz114_0
        try clear hfz114_1
        try clear hfz114_2
        try clear hfz114_3
        try clear hfz120_0
        try clear hfz120_1
        try clear hfz120_2
        try clear hfz120_3
        try clear hfz124_0
        try clear hfz124_1
        try clear hfz124_2
        try clear hfz124_3
        try clear hfz131_0
        try clear hfz131_1
        try clear hfz131_2
        try clear hfz135_0
        try clear hfz135_1
        try clear hfz135_2
        try clear hfz135_3
        try clear hfz138_0
        try clear hfz138_1
        try clear hfz138_2
        try clear hfz138_3
        try clear hfz146_0
        try clear hfz146_1
        try clear hfz146_2
        try clear hfz146_3
        try clear hfz150_0
        try clear hfz150_1
        try clear hfz150_2
        try clear hfz150_3
        try clear hfz158_0
        try clear hfz158_1
        try clear hfz158_2
        try clear hfz158_3
        try clear hfz162_0
        try clear hfz162_1
        try clear hfz162_2
        try clear hfz162_3
        try clear hfz60_0
        try clear hfz60_1
        try clear hfz60_2
        try clear hfz60_3
        try clear hfz64_0
        try clear hfz64_1
        try clear hfz64_2
        try clear hfz64_3
        try clear hfz76_0
        try clear hfz76_1
        try clear hfz76_2
        try clear hfz76_3
        try clear hfz80_0
        try clear hfz80_1
        try clear hfz80_2
        try clear hfz80_3
        try clear hfz89_0
        try clear hfz89_1
        try clear hfz89_2
        try clear hfz89_3
        try clear hfz93_0
        try clear hfz93_1
        try clear hfz93_2
        try clear hfz93_3
        try clear hfz99_0
        try clear hfz99_1
        try clear hfz99_2
        try clear hfz99_3
        obtain ⟨kq, x20_65, rfl, HA, HJ65, BK162, BK163, BK164, BK169, BK170, HB⟩ := hcut
        cases kq with
        | zero => exact absurd HA.out (by simp [pair_Holds.j2])
        | succ kj65 =>
         have H := HA.out
         clear HA
         simp only [pair_Holds.j2] at H
         obtain rfl := Option.some.inj H
         go_wp2
         go_ret
         exact ⟨by first | rfl | (simp [errW_none, errW_some] <;> rfl) | (simp [*, errW_none, errW_some] <;> rfl), by repeat (first | (with_reducible first | exact HB.out | apply below_alloc | apply pw_below_drewN | apply below_drew1 | refine below_set ?_ GE162.out | refine below_set ?_ GE163.out | refine below_set ?_ GE164.out | refine below_set ?_ GE169.out | refine below_set ?_ GE170.out) | exact HB.out)⟩
      case rest =>
       clear HC43
       try clear c5
       try clear c6
       try clear c7
       try clear c8
       try clear c9
       try clear c14
       try clear c16
       try clear c30
       try clear c31
       try clear c32
       try clear c56
       try clear c57
       try clear c58
       try clear c59
       try clear c61
       try clear c62
       try clear c63
       try clear c67
       try clear c67b0
       try clear c67b1
       try clear c68
       try clear c68b0
       try clear c68b1
       try clear c69
       try clear c69b0
       try clear c69b1
       try clear c70
       try clear c70b0
       try clear c70b1
       try clear c71
       try clear c71b0
       try clear c71b1
       try clear c72
       try clear c73
       try clear c74
       try clear c75
       try clear c77
       try clear c78
       try clear c79
       try clear c81
       try clear c81b0
       try clear c81b1
       try clear c82
       try clear c82b0
       try clear c82b1
       try clear c83
       try clear c83b0
       try clear c83b1
       try clear c85
       try clear c86
       try clear c87
       try clear c88
       try clear c90
       try clear c91
       try clear c92
       try clear c94
       try clear c94b0
       try clear c94b1
       try clear c95
       try clear c96
       try clear c97
       try clear c98
       try clear c100
       try clear c101
       try clear c102
       try clear c104
       try clear c104b0
       try clear c104b1
       try clear c106
       try clear c107
       try clear c108
       try clear c109
       try clear c111
       try clear c112
       try clear c113
       try clear c115
       try clear c115b0
       try clear c115b1
       try clear c116
       try clear c117
       try clear c118
       try clear c119
       try clear c121
       try clear c122
       try clear c123
       try clear c125
       try clear c125b0
       try clear c125b1
       try clear c127
       try clear c128
       try clear c129
       try clear c130
       try clear c132
       try clear c133
       try clear c134
       try clear c136
       try clear c137
       try clear c140
       try clear c140b0
       try clear c140b1
       try clear c142
       try clear c143
       try clear c144
       try clear c145
       try clear c147
       try clear c148
       try clear c149
       try clear c152
       try clear c152b0
       try clear c152b1
       try clear c154
       try clear c155
       try clear c156
       try clear c157
       try clear c159
       try clear c160
       try clear c161
       try clear hcz103_0
       try clear hcz103_1
       try clear hcz103_2
       try clear hcz103_3
       try clear hcz110_0
       try clear hcz110_1
       try clear hcz110_2
       try clear hcz110_3
       try clear hcz114_0
       try clear hcz114_1
       try clear hcz114_2
       try clear hcz114_3
       try clear hcz120_0
       try clear hcz120_1
       try clear hcz120_2
       try clear hcz120_3
       try clear hcz124_0
       try clear hcz124_1
       try clear hcz124_2
       try clear hcz124_3
       try clear hcz131_0
       try clear hcz131_1
       try clear hcz131_2
       try clear hcz135_0
       try clear hcz135_1
       try clear hcz135_2
       try clear hcz135_3
       try clear hcz138_0
       try clear hcz138_1
       try clear hcz138_2
       try clear hcz138_3
       try clear hcz146_0
       try clear hcz146_1
       try clear hcz146_2
       try clear hcz146_3
       try clear hcz150_0
       try clear hcz150_1
       try clear hcz150_2
       try clear hcz150_3
       try clear hcz158_0
       try clear hcz158_1
       try clear hcz158_2
       try clear hcz158_3
       try clear hcz162_0
       try clear hcz162_1
       try clear hcz162_2
       try clear hcz162_3
       try clear hcz60_0
       try clear hcz60_1
       try clear hcz60_2
       try clear hcz60_3
       try clear hcz64_0
       try clear hcz64_1
       try clear hcz64_2
       try clear hcz64_3
       try clear hcz76_0
       try clear hcz76_1
       try clear hcz76_2
       try clear hcz76_3
       try clear hcz80_0
       try clear hcz80_1
       try clear hcz80_2
       try clear hcz80_3
       try clear hcz89_0
       try clear hcz89_1
       try clear hcz89_2
       try clear hcz89_3
       try clear hcz93_0
       try clear hcz93_1
       try clear hcz93_2
       try clear hcz93_3
       try clear hcz99_0
       try clear hcz99_1
       try clear hcz99_2
       try clear hcz99_3
       try clear hfz103_0
       try clear hfz103_1
       try clear hfz103_2
       try clear hfz103_3
       try clear hfz110_0
       try clear hfz110_1
       try clear hfz110_2
       try clear hfz110_3
       try clear hfz114_0
       try clear hfz114_1
       try clear hfz114_2
       try clear hfz114_3
       try clear hfz120_0
       try clear hfz120_1
       try clear hfz120_2
       try clear hfz120_3
       try clear hfz124_0
       try clear hfz124_1
       try clear hfz124_2
       try clear hfz124_3
       try clear hfz131_0
       try clear hfz131_1
       try clear hfz131_2
       try clear hfz135_0
       try clear hfz135_1
       try clear hfz135_2
       try clear hfz135_3
       try clear hfz138_0
       try clear hfz138_1
       try clear hfz138_2
       try clear hfz138_3
       try clear hfz146_0
       try clear hfz146_1
       try clear hfz146_2
       try clear hfz146_3
       try clear hfz150_0
       try clear hfz150_1
       try clear hfz150_2
       try clear hfz150_3
       try clear hfz158_0
       try clear hfz158_1
       try clear hfz158_2
       try clear hfz158_3
       try clear hfz162_0
       try clear hfz162_1
       try clear hfz162_2
       try clear hfz162_3
       try clear hfz60_0
       try clear hfz60_1
       try clear hfz60_2
       try clear hfz60_3
       try clear hfz64_0
       try clear hfz64_1
       try clear hfz64_2
       try clear hfz64_3
       try clear hfz76_0
       try clear hfz76_1
       try clear hfz76_2
       try clear hfz76_3
       try clear hfz80_0
       try clear hfz80_1
       try clear hfz80_2
       try clear hfz80_3
       try clear hfz89_0
       try clear hfz89_1
       try clear hfz89_2
       try clear hfz89_3
       try clear hfz93_0
       try clear hfz93_1
       try clear hfz93_2
       try clear hfz93_3
       try clear hfz99_0
       try clear hfz99_1
       try clear hfz99_2
       try clear hfz99_3
       obtain ⟨kq, x20_42, rfl, HA, HJ42, BK162, BK163, BK164, BK169, BK170, HB⟩ := hcut
       cases kq with
       | zero => exact absurd HA.out (by simp [pair_Holds.j3])
       | succ kj42 =>
        have H := HA.out
        clear HA
        simp only [pair_Holds.j3] at H
        replace H := Option.bind_eq_some_iff.mp H
        obtain ⟨t173, A1640, H⟩ := H
        replace H : (some (t173 != x20_42)) = some r := H
        have A164 := Aside0.mk A1640
        clear A1640
        obtain rfl := Option.some.inj H
        have hnb165 := NB169_162.out
        have hnc165 := NB162_169.out
        have hnb166 := NB169_163.out
        have hnc166 := NB163_169.out
        have hnb167 := NB169_164.out
        have hnc167 := NB164_169.out
        have hnb168 := NB169_170.out
        have hnc168 := NB170_169.out
        have hcz169_0 : wc.cell? ⟨gb169, 0, none⟩ = some (.int .u32 a3_0) := (blk_cell BK169.out 0).trans rfl
        have hcz169_1 : wc.cell? ⟨gb169, 1, none⟩ = some (.int .u8 a3_1) := (blk_cell BK169.out 1).trans rfl
        have hcz169_2 : wc.cell? ⟨gb169, 2, none⟩ = some (.int .i64 a3_2) := (blk_cell BK169.out 2).trans rfl
        have hcz169_3 : wc.cell? ⟨gb169, 3, none⟩ = some (.int .i64 a3_3) := (blk_cell BK169.out 3).trans rfl
        have hfz169_0 := blk_frozen BK169.out 0
        have hfz169_1 := blk_frozen BK169.out 1
        have hfz169_2 := blk_frozen BK169.out 2
        have hfz169_3 := blk_frozen BK169.out 3
        have hnb170 := NB170_162.out
        have hnc170 := NB162_170.out
        have hnb171 := NB170_163.out
        have hnc171 := NB163_170.out
        have hnb172 := NB170_164.out
        have hnc172 := NB164_170.out
        have hcz173_0 : wc.cell? ⟨gb170, 0, none⟩ = some (.int .u32 a4_0) := (blk_cell BK170.out 0).trans rfl
        have hcz173_1 : wc.cell? ⟨gb170, 1, none⟩ = some (.int .u8 a4_1) := (blk_cell BK170.out 1).trans rfl
        have hcz173_2 : wc.cell? ⟨gb170, 2, none⟩ = some (.int .i64 a4_2) := (blk_cell BK170.out 2).trans rfl
        have hcz173_3 : wc.cell? ⟨gb170, 3, none⟩ = some (.int .i64 a4_3) := (blk_cell BK170.out 3).trans rfl
        have hfz173_0 := blk_frozen BK170.out 0
        have hfz173_1 := blk_frozen BK170.out 1
        have hfz173_2 := blk_frozen BK170.out 2
        have hfz173_3 := blk_frozen BK170.out 3
        go_wp2_with (first | ((with_reducible refine gate_callee (f := 28) rfl ?_); refine goesL_ (some 95) rfl rfl Try.func28 (by kernel_rfl) rfl #[.agg #[.int .u32 a3_0, .int .u8 a3_1, .int .i64 a3_2, .int .i64 a3_3], .agg #[.int .u32 a4_0, .int .u8 a4_1, .int .i64 a4_2, .int .i64 a4_3]] rfl (by (try simp only [List.map_toArray, List.map_cons, List.map_nil]); first | done | rfl | (simp only [List.length_drop, List.length_take]; rfl)) ?_; (with_reducible refine (when_Meet.calls a3_0 a3_1 a3_2 a3_3 a4_0 a4_1 a4_2 a4_3 t173 _ A164.out).mono ?_); rintro e w174 ⟨rfl, hb⟩; refine ⟨_, rfl, ?_⟩; have n0_ := Aside0.mk (blk_below (g := gb162) (o := .cells #[.int .i64 a0_0, .int .i64 a0_1, .int .i64 a0_2] 23 (0, 0)) (by (with_reducible repeat (first | refine blk_drewN ?_ _ | refine blk_drew ?_ | refine blk_alloc ?_ _)); exact BK162.out) hb); have n1_ := Aside0.mk (blk_below (g := gb163) (o := .cells #[.int .u32 a3_0, .int .u8 a3_1, .int .i64 a3_2, .int .i64 a3_3, .int .i64 a3_4] 28 (0, 0)) (by (with_reducible repeat (first | refine blk_drewN ?_ _ | refine blk_drew ?_ | refine blk_alloc ?_ _)); exact BK163.out) hb); have n2_ := Aside0.mk (blk_below (g := gb164) (o := .cells #[.int .u32 a4_0, .int .u8 a4_1, .int .i64 a4_2, .int .i64 a4_3, .int .i64 a4_4] 28 (0, 0)) (by (with_reducible repeat (first | refine blk_drewN ?_ _ | refine blk_drew ?_ | refine blk_alloc ?_ _)); exact BK164.out) hb); have n3_ := Aside0.mk (blk_below (g := gb169) (o := .cells #[.int .u32 a3_0, .int .u8 a3_1, .int .i64 a3_2, .int .i64 a3_3] 26 (0, 0)) (by (with_reducible repeat (first | refine blk_drewN ?_ _ | refine blk_drew ?_ | refine blk_alloc ?_ _)); exact BK169.out) hb); have n4_ := Aside0.mk (blk_below (g := gb170) (o := .cells #[.int .u32 a4_0, .int .u8 a4_1, .int .i64 a4_2, .int .i64 a4_3] 26 (0, 0)) (by (with_reducible repeat (first | refine blk_drewN ?_ _ | refine blk_drew ?_ | refine blk_alloc ?_ _)); exact BK170.out) hb); have n5_ := Aside0.mk (below_step (by repeat (first | (with_reducible first | exact HB.out | apply below_alloc | apply pw_below_drewN | apply below_drew1 | refine below_set ?_ GE162.out | refine below_set ?_ GE163.out | refine below_set ?_ GE164.out | refine below_set ?_ GE169.out | refine below_set ?_ GE170.out) | exact HB.out)) hb); clear BK162; clear BK163; clear BK164; clear BK169; clear BK170; clear HB; have BK162 := n0_; have BK163 := n1_; have BK164 := n2_; have BK169 := n3_; have BK170 := n4_; have HB := n5_; clear n0_ n1_ n2_ n3_ n4_ n5_; (try clear hb); (try clear hb2); (try clear hk); (try clear hi)))
        go_ret
        exact ⟨by first | rfl | (simp [errW_none, errW_some] <;> rfl) | (simp [*, errW_none, errW_some] <;> rfl), by repeat (first | (with_reducible first | exact HB.out | apply below_alloc | apply pw_below_drewN | apply below_drew1 | refine below_set ?_ GE162.out | refine below_set ?_ GE163.out | refine below_set ?_ GE164.out | refine below_set ?_ GE169.out | refine below_set ?_ GE170.out) | exact HB.out)⟩

end Go.Proofs.Ytddheiloodfkdaa.Q
