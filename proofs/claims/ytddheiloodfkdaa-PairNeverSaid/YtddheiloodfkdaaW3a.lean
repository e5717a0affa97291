/- Two times: what they share, by package when and by the document's answer (plain, over the printed functions). -/
import Derived.Test.YtddheiloodfkdaaQ4
import Derived.Test.YtddheiloodfkdaaW1
namespace Go.Proofs.Ytddheiloodfkdaa.W3
open Go.RowKit Go.Proofs.YtddheiloodfkdaaW.PrintWords Go.Proofs.YtddheiloodfkdaaW.PrintLast Go.Proofs.YtddheiloodfkdaaW.PrintMore Go.Proofs.Ytddheiloodfkdaa.M Go.Proofs.Ytddheiloodfkdaa.Q Go.Proofs.Ytddheiloodfkdaa.W1

/-- The common bits of two numbers. -/
def AND (x y : Int) : Int := ((x.toNat &&& y.toNat : Nat) : Int)
theorem AND_comm (x y : Int) : AND x y = AND y x := by unfold AND; rw [Nat.and_comm]
theorem AND_u32 {x y : Int} (hx : 0 ≤ x ∧ x < 4294967296) (hy : 0 ≤ y ∧ y < 4294967296) : Go.bits .and .u32 x y = AND x y := by
  obtain ⟨a, rfl⟩ := Int.eq_ofNat_of_zero_le hx.1
  obtain ⟨b, rfl⟩ := Int.eq_ofNat_of_zero_le hy.1
  exact and_u32 (by omega) (by omega)
theorem AND_u8 {x y : Int} (hx : 0 ≤ x ∧ x < 256) (hy : 0 ≤ y ∧ y < 256) : Go.bits .and .u8 x y = AND x y := by
  obtain ⟨a, rfl⟩ := Int.eq_ofNat_of_zero_le hx.1
  obtain ⟨b, rfl⟩ := Int.eq_ofNat_of_zero_le hy.1
  exact and_u8 (by omega) (by omega)
theorem AND_le {x y : Int} (hx : 0 ≤ x) : 0 ≤ AND x y ∧ AND x y ≤ x := by
  have h : x.toNat &&& y.toNat ≤ x.toNat := Nat.and_le_left
  unfold AND
  omega
theorem AND_ne {x y : Int} {m : Nat} (hx : 0 ≤ x ∧ x < 2 ^ m) : AND x y ≠ 0 ↔ ∃ j : Nat, j < m ∧ tb x j = true ∧ tb y j = true := by
  have h : x.toNat < 2 ^ m := by have := hx.2; rw [Int.toNat_lt hx.1]; exact_mod_cast this
  have e := and_ne_iff (a := x.toNat) (b := y.toNat) h
  unfold AND tb
  rw [← Int.natCast_zero, Ne, Int.natCast_inj]
  exact e
/-- Two times share a day of a week. -/
def SD (aw ad ap al bw bd bp bl : Int) : Prop := TM ap al ∧ TM bp bl ∧ AND aw bw ≠ 0 ∧ AND ad bd ≠ 0
instance (aw ad ap al bw bd bp bl : Int) : Decidable (SD aw ad ap al bw bd bp bl) := by unfold SD; infer_instance
/-- Two times share a moment. -/
def MT (aw ad ap al bw bd bp bl : Int) : Prop := SD aw ad ap al bw bd bp bl ∧ ap < bp + bl ∧ bp < ap + al
instance (aw ad ap al bw bd bp bl : Int) : Decidable (MT aw ad ap al bw bd bp bl) := by unfold MT; infer_instance
theorem SD_comm {aw ad ap al bw bd bp bl : Int} : SD aw ad ap al bw bd bp bl ↔ SD bw bd bp bl aw ad ap al := by
  unfold SD
  rw [AND_comm aw bw, AND_comm ad bd]
  constructor <;> (rintro ⟨h1, h2, h3⟩; exact ⟨h2, h1, h3⟩)
theorem MT_comm {aw ad ap al bw bd bp bl : Int} : MT aw ad ap al bw bd bp bl ↔ MT bw bd bp bl aw ad ap al := by
  unfold MT
  rw [SD_comm]
  constructor <;> (rintro ⟨h1, h2, h3⟩; exact ⟨h1, h3, h2⟩)
theorem SD_of_MT {aw ad ap al bw bd bp bl : Int} (h : MT aw ad ap al bw bd bp bl) : SD aw ad ap al bw bd bp bl := h.1

section
variable {aw ad ap al bw bd bp bl : Int}
theorem when_SameDay_f (u0 : 0 ≤ aw ∧ aw < 4294967296) (u1 : 0 ≤ ad ∧ ad < 256) (v0 : 0 ≤ bw ∧ bw < 4294967296) (v1 : 0 ≤ bd ∧ bd < 256) :
    when_SameDay.f aw ad ap al bw bd bp bl = some (decide (SD aw ad ap al bw bd bp bl)) := by
  unfold when_SameDay.f SD
  simp only [when_tame_f, Option.bind_some, decide_eq_true_eq, AND_u32 u0 v0, AND_u8 u1 v1]
  by_cases h1 : TM ap al
  · by_cases h2 : TM bp bl
    · by_cases h3 : AND aw bw = 0
      · simp [h1, h2, h3]
      · by_cases h4 : AND ad bd = 0 <;> simp [h1, h2, h3, h4]
    · simp [h1, h2]
  · simp [h1]
theorem mx_eq (x y : Int) : mx x y = max x y := by unfold mx; omega
theorem mn_eq (x y : Int) : mn x y = min x y := by unfold mn; omega
theorem when_Both_f (u0 : 0 ≤ aw ∧ aw < 4294967296) (u1 : 0 ≤ ad ∧ ad < 256) (v0 : 0 ≤ bw ∧ bw < 4294967296) (v1 : 0 ≤ bd ∧ bd < 256) :
    when_Both.f aw ad ap al bw bd bp bl = some (if MT aw ad ap al bw bd bp bl then (AND aw bw, AND ad bd, max ap bp, min (ap + al) (bp + bl) - max ap bp, true) else (0, 0, 0, 0, false)) := by
  unfold when_Both.f
  simp only [when_SameDay_f u0 u1 v0 v1, Option.bind_some, decide_eq_true_eq]
  by_cases h : SD aw ad ap al bw bd bp bl
  · have h' := h
    unfold SD TM at h'
    rw [if_pos h, w64 (n := ap + al) (by omega) (by omega), w64 (n := bp + bl) (by omega) (by omega), mx_eq, mn_eq, w64 (n := min (ap + al) (bp + bl) - max ap bp) (by omega) (by omega), AND_u32 u0 v0, AND_u8 u1 v1]
    by_cases h2 : ap < bp + bl ∧ bp < ap + al
    · rw [if_neg (by omega), if_pos ⟨h, h2⟩]
    · rw [if_pos (by omega), if_neg (fun h3 => h2 h3.2)]
  · rw [if_neg h, if_neg (fun h3 => h h3.1)]
theorem when_Meet_f (u0 : 0 ≤ aw ∧ aw < 4294967296) (u1 : 0 ≤ ad ∧ ad < 256) (v0 : 0 ≤ bw ∧ bw < 4294967296) (v1 : 0 ≤ bd ∧ bd < 256) :
    when_Meet.f aw ad ap al bw bd bp bl = some (decide (MT aw ad ap al bw bd bp bl)) := by
  unfold when_Meet.f
  rw [when_Both_f u0 u1 v0 v1, Option.bind_some]
  by_cases h : MT aw ad ap al bw bd bp bl <;> simp [h]

end
end Go.Proofs.Ytddheiloodfkdaa.W3
