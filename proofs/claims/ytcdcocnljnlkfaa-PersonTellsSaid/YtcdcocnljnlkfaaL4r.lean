/- When a room is open by the document's answer; plain. -/
import Derived.Test.YtcdcocnljnlkfaaQ18
import Derived.Test.YtcdcocnljnlkfaaL4a
set_option linter.unusedVariables false
set_option linter.unusedSimpArgs false
namespace Go.Proofs.Ytcdcocnljnlkfaa.L4
open Go.RowKit Go.Proofs.YtcdcocnljnlkfaaW.PrintWords Go.Proofs.Ytcdcocnljnlkfaa.M Go.Proofs.Ytcdcocnljnlkfaa.Q Go.Proofs.Ytcdcocnljnlkfaa.L1 Go.Proofs.Ytcdcocnljnlkfaa.L2 Go.Proofs.Ytcdcocnljnlkfaa.L3 Go.Proofs.Ytcdcocnljnlkfaa.W1 Go.Proofs.Ytcdcocnljnlkfaa.W2 Go.Proofs.Ytcdcocnljnlkfaa.W3
section
variable {l : List S27} {g0 g1 g2 : Int}
/-! ### The document's answer -/
theorem ref_Open_l1 (hm : l.length < 1000000) (hl : GW l) (ht : ∀ x ∈ l, RTx g0 g1 g2 x) {acc : List Int} {m : Nat} {a b c : Nat} (ha : a < 32) (hb : b < 8) {r : List Int} (hacc : acc.length < 17592186044416) (hmm : m < 1000000)
    (hP : ∀ x ∈ l, (x.f0.toNat.testBit a && x.f1.toNat.testBit b && (decide (x.f2.toNat ≤ c) && decide (c < x.f2.toNat + x.f3.toNat))) = pmx g1 g2 m x) (d : Nat) :
    ∀ (i : Nat) (inn : Bool), i ≤ l.length → l.length - i = d → Ev (fun k => horariumref11_Open.l0 k l (if (inn || (l.drop i).any (pmx g1 g2 m)) = true then acc else acc ++ [(m : Int)]) ((m + 1 : Nat) : Int) g0 g1 g2) r →
      Ev (fun k => horariumref11_Open.l1 k l acc m a b c inn i g0 g1 g2) r := by
  induction d with
  | zero =>
    intro i inn hi hd h
    obtain rfl : i = l.length := by omega
    rw [List.drop_length, List.any_nil, Bool.or_false] at h
    refine Ev.step (fun k => ?_) h
    simp only [horariumref11_Open.l1]
    rw [if_neg (by omega), w64s hmm]
    cases inn with
    | true => simp only [if_true]
    | false => simp only [Bool.false_eq_true, if_false]; rw [if_pos hacc]
  | succ d ih =>
    intro i inn hi hd h
    have hlt : i < l.length := by omega
    have hmem := rd_mem l i hlt
    have hdrop : l.drop i = rd_T27 l i :: l.drop (i + 1) := by
      rw [rd_at, List.getD_eq_getElem?_getD, List.getElem?_eq_getElem hlt]
      exact List.drop_eq_getElem_cons hlt
    rw [hdrop, List.any_cons, ← Bool.or_assoc] at h
    cases inn with
    | true =>
      refine Ev.step (fun k => ?_) (ih (i + 1) true (by omega) (by omega) h)
      simp only [horariumref11_Open.l1]
      rw [if_pos (by omega), if_pos trivial, w64s (by omega)]
    | false =>
      rw [Bool.false_or] at h
      obtain ⟨⟨a0, a1⟩, ⟨b0, b1⟩, _, _⟩ := hl _ hmem
      have htm := (ht _ hmem).2.1
      have htm' := htm
      unfold TM at htm'
      have on := On_f (wk := (rd_T27 l i).f0.toNat) (dy := (rd_T27 l i).f1.toNat) (st := (rd_T27 l i).f2.toNat) (ln := (rd_T27 l i).f3.toNat) (by omega) (by omega) (by rw [Int.toNat_of_nonneg htm'.1, Int.toNat_of_nonneg (by omega)]; exact htm) ha hb (c := c)
      rw [hP _ hmem, Int.toNat_of_nonneg a0, Int.toNat_of_nonneg b0, Int.toNat_of_nonneg htm'.1, Int.toNat_of_nonneg (show 0 ≤ (rd_T27 l i).f3 by omega)] at on
      refine Ev.step (f := fun k => (horariumref09_On.f k ((rd_T27 l i).f0) ((rd_T27 l i).f1) ((rd_T27 l i).f2) ((rd_T27 l i).f3) a b c).bind fun t => horariumref11_Open.l1 k l acc m a b c t ((i + 1 : Nat) : Int) g0 g1 g2) (fun k => ?_) (Ev.bind on (ih (i + 1) _ (by omega) (by omega) h))
      simp only [horariumref11_Open.l1]
      rw [if_pos (by omega), if_neg (by decide), if_pos (by omega), w64s (by omega)]
theorem ref_Open_l0 (hm : l.length < 1000000) (hl : GW l) (hg : RG g0 g1 g2) (ht : ∀ x ∈ l, RTx g0 g1 g2 x) (d : Nat) :
    ∀ m : Nat, m ≤ NN g0 g1 g2 → NN g0 g1 g2 - m = d → Ev (fun k => horariumref11_Open.l0 k l (FL (FREE l g1 g2) m) m g0 g1 g2) (OPN l g0 g1 g2) := by
  have hb := NN_le hg
  have e1 := NN_eq hg
  induction d with
  | zero =>
    intro m h1 h2
    obtain rfl : m = NN g0 g1 g2 := by omega
    refine Ev.step (f := fun _ => some _) (fun k => ?_) (Ev.now _)
    simp only [horariumref11_Open.l0]
    rw [ref_All_f, if_pos hg, Option.bind_some, e1, if_neg (Int.lt_irrefl _)]
    rfl
  | succ d ih =>
    intro m h1 h2
    have hlt : m < NN g0 g1 g2 := by omega
    have next := ih (m + 1) (by omega) (by omega)
    have hg' := hg
    unfold RG at hg'
    obtain ⟨W, rfl⟩ := nat_of (show 0 ≤ g0 by omega)
    obtain ⟨D, rfl⟩ := nat_of (show 0 ≤ g1 by omega)
    obtain ⟨S, rfl⟩ := nat_of (show 0 ≤ g2 by omega)
    have eN : NN (W : Int) D S = W * D * S := by unfold NN; rw [Int.toNat_natCast, Int.toNat_natCast, Int.toNat_natCast]
    have hlt2 : m < W * D * S := by rw [← eN]; exact hlt
    have q1 : m / S < W * D := Nat.div_lt_of_lt_mul (by rw [Nat.mul_comm]; exact hlt2)
    have q2 : m / S / D < W := Nat.div_lt_of_lt_mul (by rw [Nat.mul_comm]; exact q1)
    have q3 : m / S % D < D := Nat.mod_lt _ (by omega)
    have hacc := FL_len (FREE l D S) m
    refine Ev.step (f := fun k => horariumref11_Open.l1 k l (FL (FREE l D S) m) m ((m / S / D : Nat) : Int) ((m / S % D : Nat) : Int) ((m % S : Nat) : Int) false ((0 : Nat) : Int) W D S) (fun k => ?_) (ref_Open_l1 hm hl ht (by omega) (by omega) (by omega) (by omega) (fun x _ => by unfold pmx pm qb; rw [Int.toNat_natCast, Int.toNat_natCast]) _ 0 false (Nat.zero_le _) rfl ?_)
    · simp only [horariumref11_Open.l0]
      rw [ref_All_f, if_pos hg, Option.bind_some, e1, if_pos (by omega), Of_f hg hlt2, Option.bind_some]
      rfl
    · rw [FL_succ] at next
      rw [Bool.false_or, List.drop_zero]
      unfold FREE at next ⊢
      cases hf : l.any (pmx D S m) with
      | true => rw [hf] at next; exact next
      | false => rw [hf] at next; exact next
theorem ref_Open_f (hm : l.length < 1000000) (hl : GW l) (hg : RG g0 g1 g2) (ht : ∀ x ∈ l, RTx g0 g1 g2 x) : Ev (fun k => horariumref11_Open.f k g0 g1 g2 l) (OPN l g0 g1 g2) := ref_Open_l0 hm hl hg ht _ 0 (Nat.zero_le _) rfl
end
end Go.Proofs.Ytcdcocnljnlkfaa.L4
