/- A set of whole numbers kept in a map[int]bool of the call's own. -/
import Derived.Test.YtcdcocnljnlkfaaQ0
import Derived.Maps.OwnOps
import Derived.Maps.Views
namespace Go.Proofs.Ytcdcocnljnlkfaa.Q
open Go.RowKit Go.Maps Go.Proofs.YtcdcocnljnlkfaaW.PrintWords
set_option linter.unusedVariables false
variable {H : Type} {P : Program} {w : World} {k : TypeId} {b n : Nat} {D : DataW H}
theorem plainElem_bool_inv {e : TypeId} (he : P.underlying e = some .bool) {v : Value} {z : DataW H × List MemPlace} (h : plainElem P e v = some z) : ∃ x, v = .bool x ∧ z = (.lit (.bool x), []) := by
  unfold plainElem at h
  rw [he] at h
  cases v <;> simp at h
  obtain rfl := h
  exact ⟨_, rfl, rfl⟩
theorem own_lookup_bool {t e : TypeId} (h : w.ownsMap P k (plainElem P e) b n D) (K : Keyed P k) (ht : P.underlying t = some (.map k e)) (he : P.underlying e = some .bool) (hz : (zeroValue e).run P w = .ok (.bool false) w)
    {key : Value} {kl : Lit} (hkey : keyOf P k key = some kl) : ∃ c, (Instr.lookup t (.map (some b)) key false).run P w = .ok (.bool c) w ∧ D.atKey kl (.lit (.bool false)) = .lit (.bool c) := by
  obtain ⟨v, ps, hrun, hv⟩ := h.lookup K ht hz (plainElem_bool he false) hkey
  obtain ⟨c, rfl, hc⟩ := plainElem_bool_inv he hv
  simp only [Prod.mk.injEq] at hc
  exact ⟨c, hrun, hc.1⟩
theorem wpList_lookup_own_bool {ops : Array Oper} {rest : List Oper} {o : Oper} {a : Act} {Q : Exit → Act → World → Prop}
    (hg : o.guard = none) (m x : Operand) (t : TypeId) (hop : o.op = Op.lookup t m x false)
    (k e : TypeId) (K : Keyed P k) (ht : P.underlying t = some (.map k e)) (he : P.underlying e = some .bool) (hz : (zeroValue e).run P w = .ok (.bool false) w) (b n : Nat) (D : DataW H)
    (hm : a.eval m = .map (some b)) (hown : w.ownsMap P k (plainElem P e) b n D) (key : Value) (kl : Lit) (hx : a.eval x = key) (hkey : keyOf P k key = some kl) (c0 : Bool) (hc0 : D.atKey kl (.lit (.bool false)) = .lit (.bool c0))
    (hK : wpList P ops Q rest (a.put o.dst (.bool c0)) w) :
    wpList P ops Q (o :: rest) a w := by
  refine wpList_plain hg fun K' hK' => ?_
  obtain ⟨c, hrun, hat⟩ := own_lookup_bool hown K ht he hz hkey
  rw [hc0] at hat
  have hcc : c0 = c := by injection hat with h1; injection h1
  subst hcc
  unfold Oper.wp
  simp [execOp, hop, hm, hx, hrun, Result.andThen]
  exact hK' _ _ hK
/-- The map holds just these numbers. -/
def Marks (D : DataW H) (M : List Int) : Prop := IsMap D ∧ ∀ m : Int, D.atKey (.int .i64 m) (.lit (.bool false)) = .lit (.bool (decide (m ∈ M)))
theorem Marks.nil : Marks (.map [] : DataW H) [] := ⟨⟨_, rfl⟩, fun m => rfl⟩
theorem Marks.put {M : List Int} (h : Marks D M) (x : Int) : Marks (D.put (.int .i64 x) (.lit (.bool true))) (M ++ [x]) := by
  refine ⟨?_, fun m => ?_⟩
  · exact h.1.put _ _
  · by_cases hm : m = x
    · subst hm
      rw [atKey_put_same h.1 (by trivial)]
      simp
    · rw [atKey_put_other (by intro he; injection he with _ h2; exact hm h2)]
      rw [h.2 m]
      congr 2
      simp [hm]
theorem map_cell {mb : Nat} {es : Array MapEntry} {cl : Nat} {w1 : World} {a : Addr} {v : Value} (hm : w.heap[mb]? = some (.map es cl)) (hg : w.grownBy w1 (some mb)) (hc : w.cell? a = some v) : w1.cell? a = some v := by
  have hlt := World.block_lt_of_cell? w a hc
  have hne : a.block ≠ mb := by
    intro he
    unfold World.cell? at hc
    rw [he, hm] at hc
    simp at hc
  have hb := hg.block a.block hlt (by simpa using hne)
  unfold World.cell? at hc ⊢
  rw [hb]
  exact hc
end Go.Proofs.Ytcdcocnljnlkfaa.Q
