/- An argument that is an array of three cells, by value. -/
import Derived.Test.YtlkmjjdkkkledaaOpen
import Derived.OpenShut
namespace Go.Proofs.Ytlkmjjdkkkledaa.Open
open Go.RowKit Go.Proofs.YtlkmjjdkkkledaaW.PrintWords Go.ChangeShapes Go.WideShapes Go.Deep
section
variable {H : Type} {enc : TypeId × Value → H} {P : Program} {w : World} {base : Nat} {spare : Nat → Bool} {held : Bool}
theorem reads_array3 {α : Type} {d : Kd α} {t e : TypeId} {good : α → Prop} (ht : P.underlying t = some (.array 3 e)) (hc : P.cellsOf t = d.sz + (d.sz + d.sz)) (c0 : P.cellsOf e = d.sz) (h : Reads enc P w base spare held d e good) :
    Reads enc P w base spare held (Kd.pair d (Kd.pair d d)) t (fun x => good x.1 ∧ good x.2.1 ∧ good x.2.2) := by
  intro n cs y hy
  obtain ⟨xs, m, _, _, hl, hx, hi⟩ := DataW.trod_array ht hy
  have e0 := hi 0 (by omega)
  have e1 := hi 1 (by omega)
  have e2 := hi 2 (by omega)
  rw [c0] at e0 e1 e2
  match xs, hx with
  | [y0, y1, y2], _ =>
    obtain ⟨x0, k0, q0⟩ := h _ _ _ e0
    obtain ⟨x1, k1, q1⟩ := h _ _ _ e1
    obtain ⟨x2, k2, q2⟩ := h _ _ _ e2
    rw [Nat.zero_mul] at k0
    rw [Nat.one_mul] at k1
    rw [Nat.two_mul] at k2
    exact ⟨(x0, x1, x2), ⟨_, _, split3 cs _ _ _ (hl.trans hc), k0, _, _, rfl, k1, k2⟩, q0, q1, q2⟩
theorem okWide_array {n : Nat} {e : TypeId} {r : Reach} {b0 : Nat} {t : TypeId} {v : Value} (ht : P.underlying t = some (.array n e)) (h : Value.okWide P w r b0 t v) : ∃ cs, v = .agg cs := by
  simp only [Value.okWide, ht] at h
  obtain ⟨cs, h1, _⟩ := h
  exact ⟨cs, h1⟩
theorem reads_arg_array {α : Type} {d : Kd α} {t e : TypeId} {m : Nat} {good : α → Prop} {r : Reach} {b0 : Nat} {v : Value} {dd : DataW H} {ps : List MemPlace} (ht : P.underlying t = some (.array m e)) (hr : Reads enc P w base spare held d t good)
    (hv : Value.okWide P w r b0 t v) (h : DataW.Trod enc P w base spare held t v dd ps) : ∃ x cs, v = .agg cs ∧ d.K w x cs.toList ∧ good x := by
  obtain ⟨cs, rfl⟩ := okWide_array ht hv
  obtain ⟨fuel, hf⟩ := h
  obtain ⟨x, hk, hg⟩ := hr fuel cs.toList _ hf
  exact ⟨x, cs, rfl, hk, hg⟩
end
end Go.Proofs.Ytlkmjjdkkkledaa.Open
