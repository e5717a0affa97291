/- How an argument's datum reads as a printed kind: whole numbers, bools, strings, slices, structs of these; for a law's row over structs. -/
import Derived.Test.YtddheiloodfkdaaV
import Derived.Deep.Slices
import Derived.Lib.SmallJoins
import Derived.ChangeArms
import Derived.WideShapes
namespace Go.Proofs.Ytddheiloodfkdaa.Open
open Go.RowKit Go.Proofs.YtddheiloodfkdaaW.PrintWords Go.ChangeShapes Go.WideShapes Go.Deep

section
variable {H : Type} {enc : TypeId × Value → H} {P : Program} {w : World} {base : Nat} {spare : Nat → Bool} {held : Bool}

/-- Whatever reads at the type is a value of the kind. -/
def Reads {α : Type} (enc : TypeId × Value → H) (P : Program) (w : World) (base : Nat) (spare : Nat → Bool) (held : Bool) (d : Kd α) (t : TypeId) (good : α → Prop) : Prop :=
  ∀ (n : Nat) (cs : List Value) (y : DataW H × List MemPlace), DataW.trod enc P w base spare held n t cs = some y → ∃ x, d.K w x cs ∧ good x

theorem reads_int {t : TypeId} {k : IntKind} (ht : P.underlying t = some (.int k)) : Reads enc P w base spare held (Kd.int k) t (fun x => (Lit.int k x).wf = true) := by
  intro n cs y h
  obtain ⟨x, hc, _, hw⟩ := DataW.trod_int ht h
  exact ⟨x, hc, hw⟩
theorem reads_bool {t : TypeId} (ht : P.underlying t = some .bool) : Reads enc P w base spare held Kd.bool t (fun _ => True) := by
  intro n cs y h
  obtain ⟨x, hc, _⟩ := DataW.trod_bool ht h
  exact ⟨x, hc, trivial⟩
theorem reads_string {t : TypeId} (ht : P.underlying t = some .string) : Reads enc P w base spare held Kd.string t (fun s => s.size ≤ maxLen) := by
  intro n cs y h
  obtain ⟨x, hc, _, hw⟩ := DataW.trod_string ht h
  exact ⟨x, hc, hw⟩
theorem reads_slice {α : Type} [Inhabited α] {d : Kd α} {t e : TypeId} {good : α → Prop} (ht : P.underlying t = some (.slice e)) (hsz : P.cellsOf e = d.sz) (h : Reads enc P w base spare held d e good) :
    Reads enc P w base spare held (Kd.slice e d) t (fun xs => ∀ x ∈ xs, good x) := by
  intro n cs y hy
  rcases open_slice ht hy with ⟨rfl, _⟩ | ⟨a, len, cap, m, f, D, Pl, rfl, _, hl, hm, hmm, _, hx⟩
  · exact ⟨[], ⟨none, 0, rfl, Nat.le_refl _, Kd.C_nil d w⟩, fun x hx => by cases hx⟩
  · have hle : len ≤ m := by rw [hmm]; split <;> omega
    obtain ⟨X, hX⟩ := choose_lt (α := α) (n := len) (p := fun i x => (∃ cs', w.cells? base (a.add (i * P.cellsOf e)) (P.cellsOf e) = some cs' ∧ d.K w x cs') ∧ good x) (fun i hi => by
      obtain ⟨cs', h1, h2⟩ := hx i (by omega)
      obtain ⟨x, hk, hg⟩ := h f cs' _ h2
      exact ⟨x, ⟨cs', h1, hk⟩, hg⟩)
    have hlen : ((List.range len).map X).length = len := by simp
    refine ⟨(List.range len).map X, ⟨some a, cap, by rw [hlen], by rw [hlen]; exact hl, ?_⟩, ?_⟩
    · rw [hlen]
      refine ⟨hlen, by unfold maxLen at hm; omega, fun _ => ⟨a, rfl, fun j p hp => ?_⟩⟩
      have hj : j < len := by
        have := (List.getElem?_eq_some_iff.1 hp).1
        simpa using this
      have hpx : X j = p := by simpa [List.getElem?_map, List.getElem?_range hj] using hp
      obtain ⟨⟨cs', h1, hk⟩, _⟩ := hX j hj
      rw [hpx] at hk
      obtain ⟨_, hlen', hcell⟩ := World.cells?_some h1
      refine ⟨cs', d.K_len hk, hk, fun i u hu => ?_⟩
      have hi : i < P.cellsOf e := by
        have h2 := (List.getElem?_eq_some_iff.1 hu).1
        omega
      rw [← hsz, ← Deep.add_add]
      exact (hcell i hi).trans hu
    · intro x hx'
      obtain ⟨i, hi, rfl⟩ := List.mem_map.1 hx'
      exact (hX i (List.mem_range.1 hi)).2
theorem reads_iso {α β : Type} {d : Kd α} {t : TypeId} {good : α → Prop} (h : Reads enc P w base spare held d t good) (f : β → α) (g : α → β) (hfg : ∀ a, f (g a) = a) : Reads enc P w base spare held (Kd.iso d f) t (fun x => good (f x)) := by
  intro n cs y hy
  obtain ⟨x, hk, hg⟩ := h n cs y hy
  exact ⟨g x, by show d.K w (f (g x)) cs; rw [hfg]; exact hk, by show good (f (g x)); rw [hfg]; exact hg⟩
theorem split2 (cs : List Value) (a b : Nat) (h : cs.length = a + b) : cs = (cs.drop 0).take a ++ (cs.drop a).take b := by
  rw [List.drop_zero, List.take_of_length_le (l := cs.drop a) (by simp; omega), List.take_append_drop]
theorem split3 (cs : List Value) (a b c : Nat) (h : cs.length = a + (b + c)) : cs = (cs.drop 0).take a ++ ((cs.drop a).take b ++ (cs.drop (a + b)).take c) := by
  have h1 := split2 (cs.drop a) b c (by simp; omega)
  rw [List.drop_zero, List.drop_drop] at h1
  rw [← h1, List.drop_zero, List.take_append_drop]
theorem split4 (cs : List Value) (a b c e : Nat) (h : cs.length = a + (b + (c + e))) : cs = (cs.drop 0).take a ++ ((cs.drop a).take b ++ ((cs.drop (a + b)).take c ++ (cs.drop (a + b + c)).take e)) := by
  have h1 := split3 (cs.drop a) b c e (by simp; omega)
  rw [List.drop_zero, List.drop_drop, List.drop_drop, ← Nat.add_assoc] at h1
  rw [← h1, List.drop_zero, List.take_append_drop]
theorem reads_struct2 {α0 α1 : Type} {d0 : Kd α0} {d1 : Kd α1} {t : TypeId} {f0 f1 : Field} {g0 : α0 → Prop} {g1 : α1 → Prop} (ht : P.underlying t = some (.struct #[f0, f1]))
    (hc : P.cellsOf t = d0.sz + d1.sz) (c0 : P.cellsOf f0.type = d0.sz) (c1 : P.cellsOf f1.type = d1.sz) (o0 : f0.offset = 0) (o1 : f1.offset = d0.sz)
    (h0 : Reads enc P w base spare held d0 f0.type g0) (h1 : Reads enc P w base spare held d1 f1.type g1) :
    Reads enc P w base spare held (Kd.pair d0 d1) t (fun x => g0 x.1 ∧ g1 x.2) := by
  intro n cs y hy
  obtain ⟨y0, y1, m, _, hl, t0, t1⟩ := trod_struct2 ht hy
  rw [c0, o0] at t0
  rw [c1, o1] at t1
  obtain ⟨x0, k0, q0⟩ := h0 _ _ _ t0
  obtain ⟨x1, k1, q1⟩ := h1 _ _ _ t1
  exact ⟨(x0, x1), ⟨_, _, split2 cs _ _ (hl.trans hc), k0, k1⟩, q0, q1⟩
theorem reads_struct3 {α0 α1 α2 : Type} {d0 : Kd α0} {d1 : Kd α1} {d2 : Kd α2} {t : TypeId} {f0 f1 f2 : Field} {g0 : α0 → Prop} {g1 : α1 → Prop} {g2 : α2 → Prop} (ht : P.underlying t = some (.struct #[f0, f1, f2]))
    (hc : P.cellsOf t = d0.sz + (d1.sz + d2.sz)) (c0 : P.cellsOf f0.type = d0.sz) (c1 : P.cellsOf f1.type = d1.sz) (c2 : P.cellsOf f2.type = d2.sz) (o0 : f0.offset = 0) (o1 : f1.offset = d0.sz) (o2 : f2.offset = d0.sz + d1.sz)
    (h0 : Reads enc P w base spare held d0 f0.type g0) (h1 : Reads enc P w base spare held d1 f1.type g1) (h2 : Reads enc P w base spare held d2 f2.type g2) :
    Reads enc P w base spare held (Kd.pair d0 (Kd.pair d1 d2)) t (fun x => g0 x.1 ∧ g1 x.2.1 ∧ g2 x.2.2) := by
  intro n cs y hy
  obtain ⟨y0, y1, y2, m, _, hl, t0, t1, t2⟩ := trod_struct3 ht hy
  rw [c0, o0] at t0
  rw [c1, o1] at t1
  rw [c2, o2] at t2
  obtain ⟨x0, k0, q0⟩ := h0 _ _ _ t0
  obtain ⟨x1, k1, q1⟩ := h1 _ _ _ t1
  obtain ⟨x2, k2, q2⟩ := h2 _ _ _ t2
  exact ⟨(x0, x1, x2), ⟨_, _, split3 cs _ _ _ (hl.trans hc), k0, _, _, rfl, k1, k2⟩, q0, q1, q2⟩
theorem reads_struct4 {α0 α1 α2 α3 : Type} {d0 : Kd α0} {d1 : Kd α1} {d2 : Kd α2} {d3 : Kd α3} {t : TypeId} {f0 f1 f2 f3 : Field} {g0 : α0 → Prop} {g1 : α1 → Prop} {g2 : α2 → Prop} {g3 : α3 → Prop} (ht : P.underlying t = some (.struct #[f0, f1, f2, f3]))
    (hc : P.cellsOf t = d0.sz + (d1.sz + (d2.sz + d3.sz))) (c0 : P.cellsOf f0.type = d0.sz) (c1 : P.cellsOf f1.type = d1.sz) (c2 : P.cellsOf f2.type = d2.sz) (c3 : P.cellsOf f3.type = d3.sz) (o0 : f0.offset = 0) (o1 : f1.offset = d0.sz) (o2 : f2.offset = d0.sz + d1.sz) (o3 : f3.offset = d0.sz + d1.sz + d2.sz)
    (h0 : Reads enc P w base spare held d0 f0.type g0) (h1 : Reads enc P w base spare held d1 f1.type g1) (h2 : Reads enc P w base spare held d2 f2.type g2) (h3 : Reads enc P w base spare held d3 f3.type g3) :
    Reads enc P w base spare held (Kd.pair d0 (Kd.pair d1 (Kd.pair d2 d3))) t (fun x => g0 x.1 ∧ g1 x.2.1 ∧ g2 x.2.2.1 ∧ g3 x.2.2.2) := by
  intro n cs y hy
  obtain ⟨y0, y1, y2, y3, m, _, hl, t0, t1, t2, t3⟩ := Joins.trod_struct4 ht hy
  rw [c0, o0] at t0
  rw [c1, o1] at t1
  rw [c2, o2] at t2
  rw [c3, o3] at t3
  obtain ⟨x0, k0, q0⟩ := h0 _ _ _ t0
  obtain ⟨x1, k1, q1⟩ := h1 _ _ _ t1
  obtain ⟨x2, k2, q2⟩ := h2 _ _ _ t2
  obtain ⟨x3, k3, q3⟩ := h3 _ _ _ t3
  exact ⟨(x0, x1, x2, x3), ⟨_, _, split4 cs _ _ _ _ (hl.trans hc), k0, _, _, rfl, k1, _, _, rfl, k2, k3⟩, q0, q1, q2, q3⟩
/-- An argument that is a struct by value. -/
theorem reads_arg {α : Type} {d : Kd α} {t : TypeId} {good : α → Prop} {fs : Array Field} {r : Reach} {b0 : Nat} {v : Value} {dd : DataW H} {ps : List MemPlace} (ht : P.underlying t = some (.struct fs)) (hr : Reads enc P w base spare held d t good)
    (hv : Value.okWide P w r b0 t v) (h : DataW.Trod enc P w base spare held t v dd ps) : ∃ x cs, v = .agg cs ∧ d.K w x cs.toList ∧ good x := by
  obtain ⟨cs, rfl, _⟩ := okWide_struct ht hv
  obtain ⟨fuel, hf⟩ := h
  obtain ⟨x, hk, hg⟩ := hr fuel cs.toList _ hf
  exact ⟨x, cs, rfl, hk, hg⟩
end
end Go.Proofs.Ytddheiloodfkdaa.Open
