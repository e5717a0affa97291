/- slices.IndexFunc and slices.ContainsFunc at times, with whatever predicate. -/
import Derived.Test.YtcdcocnljnlkfaaQ0
namespace Go.Proofs.Ytcdcocnljnlkfaa.Q
open Go.RowKit Go.Proofs.YtcdcocnljnlkfaaW.PrintWords Go.Proofs.YtcdcocnljnlkfaaW.PrintLast Go.Proofs.YtcdcocnljnlkfaaW.PrintMore
set_option linter.unusedVariables false
set_option linter.unusedSimpArgs false
/-- A time as a value. -/
abbrev whenV (x : S27) : Value := .agg #[.int .u32 x.f0, .int .u8 x.f1, .int .i64 x.f2, .int .i64 x.f3]
/-- The first place at which the predicate holds, from i on; -1. -/
def idxf (q : S27 → Option Bool) : List S27 → Int → Option Int
  | [], _ => some (-1)
  | x :: xs, i => (q x).bind fun t => if t = true then some i else idxf q xs (i + 1)
theorem drop_rd (l : List S27) (i : Int) (h0 : 0 ≤ i) (h1 : i < (l.length : Int)) : l.drop i.toNat = rd_T27 l i :: l.drop (i + 1).toNat := by
  have h2 : i.toNat < l.length := by omega
  have h3 : (i + 1).toNat = i.toNat + 1 := by omega
  rw [List.drop_eq_getElem_cons h2, h3]
  congr 1
  unfold rd_T27
  rw [List.getD_eq_getElem?_getD, List.getElem?_eq_getElem h2]
  rfl
set_option maxHeartbeats 2000000 in
theorem indexFunc_calls (g : Nat) (lb : Array Value) (q : S27 → Option Bool) (A : Option Addr) (c : Nat) (l : List S27) (r : Int) (w : World) (hr : Kd.C k27 w A l.length l)
    (eg : ∀ args w, (callFunc g args).run Try.prog w = .ok (.enter g args) w)
    (hq : ∀ (x : S27) (b : Bool), q x = some b → ∀ W, Below w.heap.size w W → Calls Try.prog g (#[.agg #[.int .u32 x.f0, .int .u8 x.f1, .int .i64 x.f2, .int .i64 x.f3]] ++ lb) W fun e w' => e = .returned (.bool b) ∧ Below w.heap.size w w')
    (h : idxf q l 0 = some r) :
    Calls Try.prog 67 #[.slice A l.length c, .func (.func g) #[] lb] w fun e w' => e = .returned (.int .i64 r) ∧ Below w.heap.size w w' := by
  have hm := hr.2.1
  have HR := Aside0.mk hr
  have HQ := Aside0.mk hq
  have H0 := Aside0.mk h
  clear hr hq h
  go_enter Try.func67, Try.ntmps67
  go_wp2
  go_loopg [5, 8] l.length (fun gg _ s8 wr => ∃ i : Int, 0 ≤ i ∧ (l.length - i).toNat ≤ gg ∧ i ≤ l.length ∧ s8 = .int .i64 i ∧ Aside0 (Below w.heap.size w wr) ∧ Aside0 (idxf q (l.drop i.toNat) i = some r))
  case atStart => exact ⟨0, Int.le_refl _, by omega, by omega, rfl, ⟨Below.refl _ w⟩, H0⟩
  case round =>
    clear H0
    obtain ⟨i, h0, hg, hle, rfl, HB, HI⟩ := hrel
    by_cases hlt : i < (l.length : Int)
    · have H := HI.out
      rw [drop_rd l i h0 hlt] at H
      replace H := Option.bind_eq_some_iff.mp H
      obtain ⟨b, hb, H⟩ := H
      obtain ⟨ad, eA, hx0, hx1, hx2, hx3⟩ := at_T27 HR.out i h0 hlt
      have hcall := HQ.out _ b hb wr HB.out
      cases eA
      replace hx0 := (HB.out.cell (World.block_lt_of_cell? w _ hx0)).trans hx0
      replace hx1 := (HB.out.cell (World.block_lt_of_cell? w _ hx1)).trans hx1
      replace hx2 := (HB.out.cell (World.block_lt_of_cell? w _ hx2)).trans hx2
      replace hx3 := (HB.out.cell (World.block_lt_of_cell? w _ hx3)).trans hx3
      have HX := Aside0.mk H
      have HC := Aside0.mk hcall
      clear H hb hcall HI
      cases b with
      | true =>
        go_wp2_with fail
        refine HC.out.mono ?_
        rintro e w' ⟨rfl, hb'⟩
        clear HC hx0 hx1 hx2 hx3
        go_wp2
        go_ret
        have e := HX.out
        simp only [if_true] at e
        obtain rfl := Option.some.inj e
        exact ⟨rfl, hb'⟩
      | false =>
        go_wp2_with fail
        refine HC.out.mono ?_
        rintro e w' ⟨rfl, hb'⟩
        clear HC hx0 hx1 hx2 hx3
        go_wp2
        go_roundg (l.length - (i + 1)).toNat
        case measure => omega
        case rel => exact ⟨i + 1, by omega, Nat.le_refl _, by omega, rfl, ⟨hb'⟩, ⟨by have e := HX.out; simp only [Bool.false_eq_true, if_false] at e; exact e⟩⟩
    · have he : i = (l.length : Int) := by omega
      have H := HI.out
      have hd : l.drop i.toNat = [] := by rw [he, Int.toNat_natCast, List.drop_length]
      rw [hd] at H
      have H2 := Aside0.mk (Option.some.inj H)
      clear H hd he HI
      go_wp2
      go_ret
      obtain rfl := H2.out
      exact ⟨rfl, HB.out⟩
theorem containsFunc_calls (g : Nat) (lb : Array Value) (q : S27 → Option Bool) (A : Option Addr) (c : Nat) (l : List S27) (r : Int) (w : World) (hr : Kd.C k27 w A l.length l)
    (eg : ∀ args w, (callFunc g args).run Try.prog w = .ok (.enter g args) w)
    (hq : ∀ (x : S27) (b : Bool), q x = some b → ∀ W, Below w.heap.size w W → Calls Try.prog g (#[.agg #[.int .u32 x.f0, .int .u8 x.f1, .int .i64 x.f2, .int .i64 x.f3]] ++ lb) W fun e w' => e = .returned (.bool b) ∧ Below w.heap.size w w')
    (h : idxf q l 0 = some r) :
    Calls Try.prog 49 #[.slice A l.length c, .func (.func g) #[] lb] w fun e w' => e = .returned (.bool (decide (0 ≤ r))) ∧ Below w.heap.size w w' := by
  have HI := Aside0.mk (indexFunc_calls g lb q A c l r w hr eg hq h)
  clear hr hq h
  go_enter Try.func49, Try.ntmps49
  go_wp2_with (go_at_call 67; refine HI.out.mono ?_; rintro e w' ⟨rfl, hb'⟩)
  go_ret
  exact ⟨rfl, hb'⟩
end Go.Proofs.Ytcdcocnljnlkfaa.Q
