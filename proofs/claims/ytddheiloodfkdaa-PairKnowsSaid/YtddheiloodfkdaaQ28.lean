-- Written by a program of this claim's prover; Lean checks it.
import Derived.Test.YtddheiloodfkdaaQ0
namespace Go.Proofs.Ytddheiloodfkdaa.Q
open Go.RowKit Go.Proofs.YtddheiloodfkdaaW.PrintWords Go.Proofs.YtddheiloodfkdaaW.PrintLast Go.Proofs.YtddheiloodfkdaaW.PrintMore
attribute [local go_sem] max2_int min2_int max_two min_two max_three min_three max_four min_four   -- for this text's walks alone
set_option linter.unusedVariables false
set_option linter.unusedSimpArgs false

/-! ### horariumref15_rooms: function 37 -/
def horariumref15_rooms.f (a0 : Int) : Option (Bool) := if a0 = 10 then (some true) else (some (a0 == 11))
set_option maxHeartbeats 8000000 in
set_option maxRecDepth 100000 in
theorem horariumref15_rooms.calls (a0 : Int) (r : Bool) (w : World) (h : horariumref15_rooms.f a0 = some r) :
  Calls Try.prog 37 #[.int .i64 a0] w fun e w' => e = .returned (.bool r) ∧ Drawn0 w w' := by
 have H : (if a0 = 10 then (some true) else (some (a0 == 11))) = some r := h
 clear h
 by_cases c2 : a0 = 10
 ·
  rw [if_pos c2] at H
  have c2b0 : (a0 == 10) = true := beq_iff_eq.mpr c2
  have c2b1 : (a0 != 10) = false := bne_eq_false_iff_eq.mpr c2
  clear c2
  obtain rfl := Option.some.inj H
  go_enter Try.func37, Try.ntmps37
  go_wp2
  go_ret
  exact ⟨by first | rfl | (simp; done) | (simp [*]; done), by repeat (first | exact Drawn0.refl _ | apply Drawn0.step)⟩
 ·
  rw [if_neg c2] at H
  have c2b0 : (a0 == 10) = false := beq_eq_false_iff_ne.mpr c2
  have c2b1 : (a0 != 10) = true := bne_iff_ne.mpr c2
  obtain rfl := Option.some.inj H
  go_enter Try.func37, Try.ntmps37
  go_wp2
  go_ret
  exact ⟨by first | rfl | (simp; done) | (simp [*]; done), by repeat (first | exact Drawn0.refl _ | apply Drawn0.step)⟩

end Go.Proofs.Ytddheiloodfkdaa.Q
