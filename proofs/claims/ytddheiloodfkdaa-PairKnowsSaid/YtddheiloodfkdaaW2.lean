/- The moments of a time by the document's answer; plain. -/
import Derived.Test.YtddheiloodfkdaaQ21
import Derived.Test.YtddheiloodfkdaaW2d
namespace Go.Proofs.Ytddheiloodfkdaa.W2
open Go.RowKit Go.Proofs.YtddheiloodfkdaaW.PrintWords Go.Proofs.YtddheiloodfkdaaW.PrintLast Go.Proofs.YtddheiloodfkdaaW.PrintMore Go.Proofs.Ytddheiloodfkdaa.M Go.Proofs.Ytddheiloodfkdaa.Q Go.Proofs.Ytddheiloodfkdaa.W1
section
variable {W D S wk dy st ln : Nat}
theorem ref_mom_l0 (hg : RG W D S) (ht : TM st ln) (hwk : wk < 4294967296) (hdy : dy < 256) (e : Nat) :
    ∀ m : Nat, m ≤ W * D * S → W * D * S - m = e → Ev (fun k => horariumref09_Moments.l0 k (FL (pm wk dy st ln D S) m) m W D S wk dy st ln) (FL (pm wk dy st ln D S) (W * D * S)) := by
  have hg' := hg
  unfold RG at hg'
  have e1 : (W : Int) * D * S = ((W * D * S : Nat) : Int) := by push_cast; rfl
  have hb : W * D * S ≤ 20 * 7 * 96 := Nat.mul_le_mul (Nat.mul_le_mul (by omega) (by omega)) (by omega)
  induction e with
  | zero =>
    intro m hm he
    have hm2 : m = W * D * S := by omega
    subst hm2
    refine Ev.step (f := fun _ => some _) (fun k => ?_) (Ev.now _)
    simp only [horariumref09_Moments.l0]
    rw [ref_All_f, if_pos hg, Option.bind_some, e1, if_neg (Int.lt_irrefl _)]
  | succ e ih =>
    intro m hm he
    have hlt : m < W * D * S := by omega
    have q1 : m / S < W * D := Nat.div_lt_of_lt_mul (by rw [Nat.mul_comm]; exact hlt)
    have q2 : m / S / D < W := Nat.div_lt_of_lt_mul (by rw [Nat.mul_comm]; exact q1)
    have q3 : m / S % D < D := Nat.mod_lt _ (by omega)
    have q4 : m % S < S := Nat.mod_lt _ (by omega)
    have on := On_f (wk := wk) (dy := dy) (st := st) (ln := ln) hwk hdy ht (a := m / S / D) (b := m / S % D) (c := m % S) (by omega) (by omega)
    have hpm : (wk.testBit (m / S / D) && dy.testBit (m / S % D) && (decide (st ≤ m % S) && decide (m % S < st + ln))) = pm wk dy st ln D S m := rfl
    rw [hpm] at on
    have next := ih (m + 1) (by omega) (by omega)
    rw [FL_succ] at next
    have hlti : (m : Int) < ((W * D * S : Nat) : Int) := by omega
    have hlen : (FL (pm wk dy st ln D S) m).length < 17592186044416 := Nat.lt_of_le_of_lt (FL_len _ _) (by omega)
    have hw := w64s (n := m) (by omega)
    refine Ev.step (f := fun k => (horariumref09_On.f k wk dy st ln ((m / S / D : Nat) : Int) ((m / S % D : Nat) : Int) ((m % S : Nat) : Int)).bind fun t => if t = true then horariumref09_Moments.l0 k (FL (pm wk dy st ln D S) m ++ [(m : Int)]) ((m + 1 : Nat) : Int) W D S wk dy st ln else horariumref09_Moments.l0 k (FL (pm wk dy st ln D S) m) ((m + 1 : Nat) : Int) W D S wk dy st ln) (fun k => ?_) (Ev.bind on ?_)
    · simp only [horariumref09_Moments.l0]
      rw [ref_All_f, if_pos hg, Option.bind_some, e1, if_pos hlti, Of_f hg hlt, Option.bind_some]
      simp only [if_pos hlen, hw]
    · cases c : pm wk dy st ln D S m with
      | true => rw [c, if_pos rfl] at next; simp only [if_true]; exact next
      | false => rw [c, if_neg (by decide)] at next; simp only [Bool.false_eq_true, if_false]; exact next
end
theorem ref_Moments_f {g0 g1 g2 w0 w1 w2 w3 : Int} (u0 : 0 ≤ w0 ∧ w0 < 4294967296) (u1 : 0 ≤ w1 ∧ w1 < 256) (u3 : -9223372036854775808 ≤ w3 ∧ w3 ≤ 9223372036854775807) :
    Ev (fun k => horariumref09_Moments.f k g0 g1 g2 w0 w1 w2 w3) (MOM g0 g1 g2 w0 w1 w2 w3) := by
  unfold horariumref09_Moments.f MOM
  refine Ev.bind (ref_Right_f u0 u1 u3) ?_
  simp only [decide_eq_true_eq]
  by_cases h : RT g0 g1 g2 w0 w1 w2 w3
  · simp only [if_pos h]
    obtain ⟨hg, ht, hs, _, _, _, _⟩ := h
    have hg' := hg
    have ht' := ht
    unfold RG at hg'
    unfold TM at ht'
    obtain ⟨W, rfl⟩ := nat_of (show 0 ≤ g0 by omega)
    obtain ⟨D, rfl⟩ := nat_of (show 0 ≤ g1 by omega)
    obtain ⟨S, rfl⟩ := nat_of (show 0 ≤ g2 by omega)
    obtain ⟨wk, rfl⟩ := nat_of u0.1
    obtain ⟨dy, rfl⟩ := nat_of u1.1
    obtain ⟨st, rfl⟩ := nat_of (show 0 ≤ w2 by omega)
    obtain ⟨ln, rfl⟩ := nat_of (show 0 ≤ w3 by omega)
    have := ref_mom_l0 hg ht (by omega) (by omega) _ 0 (Nat.zero_le _) rfl (wk := wk) (dy := dy)
    rw [FL_zero] at this
    exact this
  · simp only [if_neg h]
    exact Ev.now _
end Go.Proofs.Ytddheiloodfkdaa.W2
