/- Loops that ask of each place: plain. -/
import Derived.Test.YtddheiloodfkdaaV
namespace Go.Proofs.Ytddheiloodfkdaa.L1
open Go.RowKit Go.Proofs.YtddheiloodfkdaaW.PrintWords
theorem loop_all {β : Type} {L : Nat → Int → Option β} {n : Nat} {P : Nat → Prop} {re rb : β}
    (hs : ∀ i : Nat, i < n → P i → ∀ r, Ev (fun k => L k ((i + 1 : Nat) : Int)) r → Ev (fun k => L k (i : Int)) r)
    (hb : ∀ i : Nat, i < n → ¬ P i → Ev (fun k => L k (i : Int)) rb)
    (he : (∀ i, i < n → P i) → Ev (fun k => L k (n : Int)) re) :
    ((∀ i, i < n → P i) → Ev (fun k => L k 0) re) ∧ (¬ (∀ i, i < n → P i) → Ev (fun k => L k 0) rb) := by
  constructor
  · intro h
    have key : ∀ d i : Nat, i ≤ n → n - i = d → Ev (fun k => L k (i : Int)) re := by
      intro d
      induction d with
      | zero => intro i hi hd; obtain rfl : i = n := by omega
                exact he h
      | succ d ih => intro i hi hd; exact hs i (by omega) (h i (by omega)) _ (ih (i + 1) (by omega) (by omega))
    exact key n 0 (by omega) (by omega)
  · intro h
    have key : ∀ d i : Nat, i ≤ n → n - i = d → (¬ ∀ j, i ≤ j → j < n → P j) → Ev (fun k => L k (i : Int)) rb := by
      intro d
      induction d with
      | zero => intro i hi hd hn; exact absurd (fun j h1 h2 => by omega) hn
      | succ d ih =>
        intro i hi hd hn
        by_cases hp : P i
        · refine hs i (by omega) hp _ (ih (i + 1) (by omega) (by omega) fun h2 => hn fun j h1 h3 => ?_)
          by_cases he : j = i
          · rw [he]; exact hp
          · exact h2 j (by omega) h3
        · exact hb i (by omega) hp
    exact key n 0 (by omega) (by omega) fun h2 => h fun i hi => h2 i (by omega) hi
/-- The same, where the loop ends in one answer at the first place that is as asked. -/
theorem loop_any {β : Type} {L : Nat → Int → Option β} {n : Nat} {P : Nat → Prop} {re rb : β}
    (hs : ∀ i : Nat, i < n → ¬ P i → ∀ r, Ev (fun k => L k ((i + 1 : Nat) : Int)) r → Ev (fun k => L k (i : Int)) r)
    (hb : ∀ i : Nat, i < n → P i → Ev (fun k => L k (i : Int)) rb)
    (he : (∀ i, i < n → ¬ P i) → Ev (fun k => L k (n : Int)) re) :
    ((∀ i, i < n → ¬ P i) → Ev (fun k => L k 0) re) ∧ (¬ (∀ i, i < n → ¬ P i) → Ev (fun k => L k 0) rb) :=
  loop_all (P := fun i => ¬ P i) hs (fun i hi hp => hb i hi (Classical.not_not.mp hp)) he
/-- The same, where the answer tells the first place that is as asked. -/
theorem loop_first {β : Type} {L : Nat → Int → Option β} {n : Nat} {P : Nat → Prop} {re : β} {rb : Nat → β}
    (hs : ∀ i : Nat, i < n → ¬ P i → ∀ r, Ev (fun k => L k ((i + 1 : Nat) : Int)) r → Ev (fun k => L k (i : Int)) r)
    (hb : ∀ i : Nat, i < n → P i → Ev (fun k => L k (i : Int)) (rb i))
    (he : Ev (fun k => L k (n : Int)) re) :
    ((∀ i, i < n → ¬ P i) → Ev (fun k => L k 0) re) ∧ (∀ m, m < n → P m → (∀ i, i < m → ¬ P i) → Ev (fun k => L k 0) (rb m)) := by
  have key : ∀ (m : Nat) (r : β), m ≤ n → (∀ i, i < m → ¬ P i) → Ev (fun k => L k (m : Int)) r → Ev (fun k => L k 0) r := by
    intro m
    induction m with
    | zero => exact fun r _ _ h => h
    | succ m ih => exact fun r hm hp h => ih r (by omega) (fun i hi => hp i (by omega)) (hs m (by omega) (hp m (by omega)) _ h)
  exact ⟨fun h => key n _ (Nat.le_refl _) h he, fun m hm hp h => key m _ (by omega) h (hb m hm hp)⟩
theorem first_or (n : Nat) (P : Nat → Prop) : (∀ i, i < n → ¬ P i) ∨ ∃ m, m < n ∧ P m ∧ ∀ i, i < m → ¬ P i := by
  induction n with
  | zero => exact Or.inl fun i hi => by omega
  | succ n ih =>
    rcases ih with h | ⟨m, h1, h2, h3⟩
    · by_cases hp : P n
      · exact Or.inr ⟨n, by omega, hp, h⟩
      · refine Or.inl fun i hi => ?_
        by_cases e : i = n
        · rw [e]; exact hp
        · exact h i (by omega)
    · exact Or.inr ⟨m, by omega, h2, h3⟩
/-- A loop whose state is told by the round. -/
theorem loop_inv {σ β : Type} {L : Nat → σ → Int → Option β} {n : Nat} (st : Nat → σ)
    (hs : ∀ i : Nat, i < n → ∀ r, Ev (fun k => L k (st (i + 1)) ((i + 1 : Nat) : Int)) r → Ev (fun k => L k (st i) (i : Int)) r) :
    ∀ r, Ev (fun k => L k (st n) (n : Int)) r → Ev (fun k => L k (st 0) 0) r := by
  intro r h
  have key : ∀ d i : Nat, i ≤ n → n - i = d → Ev (fun k => L k (st i) (i : Int)) r := by
    intro d
    induction d with
    | zero => intro i hi hd; obtain rfl : i = n := by omega
              exact h
    | succ d ih => intro i hi hd; exact hs i (by omega) _ (ih (i + 1) (by omega) (by omega))
  exact key n 0 (by omega) (by omega)
end Go.Proofs.Ytddheiloodfkdaa.L1
