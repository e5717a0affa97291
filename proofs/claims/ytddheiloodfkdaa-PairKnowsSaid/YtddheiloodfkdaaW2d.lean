/- The moments of a time as a row of numbers; which moment a number is, by the document's answer (plain, over the printed functions). -/
import Derived.Test.YtddheiloodfkdaaQ19
import Derived.Test.YtddheiloodfkdaaQ20
import Derived.Test.YtddheiloodfkdaaW1
namespace Go.Proofs.Ytddheiloodfkdaa.W2
open Go.RowKit Go.Proofs.YtddheiloodfkdaaW.PrintWords Go.Proofs.YtddheiloodfkdaaW.PrintLast Go.Proofs.YtddheiloodfkdaaW.PrintMore Go.Proofs.Ytddheiloodfkdaa.M Go.Proofs.Ytddheiloodfkdaa.Q Go.Proofs.Ytddheiloodfkdaa.W1

/-- The moments of a time, as a row of numbers. -/
def MOM (g0 g1 g2 w0 w1 w2 w3 : Int) : List Int :=
  if RT g0 g1 g2 w0 w1 w2 w3 then FL (pm w0.toNat w1.toNat w2.toNat w3.toNat g1.toNat g2.toNat) (g0.toNat * g1.toNat * g2.toNat) else []
theorem nat_of {x : Int} (h : 0 ≤ x) : ∃ n : Nat, x = (n : Int) := ⟨x.toNat, by omega⟩
/-! ### The document's answer -/
section
variable {W D S wk dy st ln : Nat}
theorem Of_f (hg : RG W D S) {m : Nat} (hm : m < W * D * S) : horariumref09_Of.f W D S m = some (((m / S / D : Nat) : Int), ((m / S % D : Nat) : Int), ((m % S : Nat) : Int), true) := by
  have hg' := hg
  unfold RG at hg'
  unfold horariumref09_Of.f
  rw [ref_All_f, if_pos hg, Option.bind_some]
  have e1 : (W : Int) * D * S = ((W * D * S : Nat) : Int) := by push_cast; rfl
  have hb : W * D * S ≤ 20 * 7 * 96 := Nat.mul_le_mul (Nat.mul_le_mul (by omega) (by omega)) (by omega)
  have q1 : m / S ≤ m := Nat.div_le_self _ _
  have q2 : m / S / D ≤ m / S := Nat.div_le_self _ _
  have n0 : ¬ (m : Int) < 0 := by omega
  have n1 : ¬ (m : Int) ≥ ((W * D * S : Nat) : Int) := by omega
  have n2 : ¬ (S : Int) = 0 := by omega
  have n3 : ¬ (D : Int) = 0 := by omega
  have r1 := Aside0.mk (w64n (m / S) (Nat.lt_of_le_of_lt q1 (by omega)))
  have r2 := Aside0.mk (w64n (m / S / D) (Nat.lt_of_le_of_lt (Nat.le_trans q2 q1) (by omega)))
  have t1 : Int.tdiv (m : Int) S = ((m / S : Nat) : Int) := by rw [Int.tdiv_eq_ediv_of_nonneg (Int.natCast_nonneg _)]; rfl
  have t2 : Int.tdiv ((m / S : Nat) : Int) D = ((m / S / D : Nat) : Int) := by rw [Int.tdiv_eq_ediv_of_nonneg (Int.natCast_nonneg _)]; rfl
  have t3 : Int.tmod ((m / S : Nat) : Int) D = ((m / S % D : Nat) : Int) := by rw [Int.tmod_eq_emod_of_nonneg (Int.natCast_nonneg _)]; rfl
  have t4 : Int.tmod (m : Int) S = ((m % S : Nat) : Int) := by rw [Int.tmod_eq_emod_of_nonneg (Int.natCast_nonneg _)]; rfl
  rw [if_neg n0, e1, if_neg n1, if_neg n2, if_neg n3, t1, r1.out, t2, r2.out, t3, t4]
theorem On_f (hwk : wk < 4294967296) (hdy : dy < 256) (ht : TM st ln) {a b c : Nat} (ha : a < 32) (hb : b < 8) :
    Ev (fun k => horariumref09_On.f k wk dy st ln a b c) (wk.testBit a && dy.testBit b && (decide (st ≤ c) && decide (c < st + ln))) := by
  have ht' := ht
  unfold TM at ht'
  unfold horariumref09_On.f
  simp only [ref_Tame_f, Option.bind_some, decide_eq_true_eq, if_pos ht]
  have m0 : ¬ (a : Int) < 0 := by omega
  have m1 : ¬ (a : Int) > 31 := by omega
  have m2 : ¬ (b : Int) < 0 := by omega
  have m3 : decide ((b : Int) > 7) = false := decide_eq_false (by omega)
  have hm : ((dy : Int) % 4294967296) = dy := by omega
  have b0' := Aside0.mk (ref_bit_f (x := (wk : Int)) (i := (a : Int)) ⟨by omega, by omega⟩ ⟨by omega, by omega⟩)
  have b1' := Aside0.mk (ref_bit_f (x := (dy : Int)) (i := (b : Int)) ⟨by omega, by omega⟩ ⟨by omega, by omega⟩)
  have hw' := Aside0.mk (w64 (n := (st : Int) + ln) (by omega) (by omega))
  have h2 : ((c : Int) < (st : Int) + ln) ↔ c < st + ln := by omega
  have h3 : (c : Int) ≥ (st : Int) ↔ st ≤ c := by omega
  have b0 := b0'.out
  have b1 := b1'.out
  have hw := hw'.out
  rw [tb_nat] at b0 b1
  simp only [if_neg m0, if_neg m1, if_neg m2, m3]
  refine Ev.step (f := fun _ => some _) (fun k => ?_) (Ev.now _)
  simp only [horariumref09_On.j0]
  rw [if_neg (by decide), hm, b0, b1, Option.bind_some, Option.bind_some, hw]
  cases wk.testBit a with
  | false => rw [if_neg (by decide)]; rfl
  | true =>
    cases dy.testBit b with
    | false => rw [if_pos rfl, if_neg (by decide)]; rfl
    | true =>
      rw [if_pos rfl, if_pos rfl]
      by_cases h : st ≤ c
      · rw [if_pos (h3.mpr h)]
        simp only [h2, h, decide_true, Bool.true_and]
      · rw [if_neg (fun h4 => h (h3.mp h4))]
        simp only [h, decide_false, Bool.false_and, Bool.true_and]
end
end Go.Proofs.Ytddheiloodfkdaa.W2
