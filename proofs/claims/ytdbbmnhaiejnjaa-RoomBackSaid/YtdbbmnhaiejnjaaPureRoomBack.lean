/- The law RoomBack, over numbers alone. -/
import Derived.Test.YtdbbmnhaiejnjaaQ36
import Derived.Test.YtdbbmnhaiejnjaaL5
import Derived.Test.YtdbbmnhaiejnjaaL2
set_option linter.unusedVariables false
set_option linter.unusedSimpArgs false
namespace Go.Proofs.Ytdbbmnhaiejnjaa.Pure
open Go.RowKit Go.Proofs.YtdbbmnhaiejnjaaW.PrintWords Go.Proofs.YtdbbmnhaiejnjaaW.PrintLast Go.Proofs.YtdbbmnhaiejnjaaW.PrintMore Go.Proofs.Ytdbbmnhaiejnjaa.M Go.Proofs.Ytdbbmnhaiejnjaa.Q Go.Proofs.Ytdbbmnhaiejnjaa.L1 Go.Proofs.Ytdbbmnhaiejnjaa.L2 Go.Proofs.Ytdbbmnhaiejnjaa.L5
theorem heads_ev : Ev (fun k => horariumlaw11_heads.f k) true := Ev.of (fun k => horariumlaw11_heads.mono k) (k := 60) (by decide +kernel)
section
variable {l a : List S38} {n : ByteArray} {s g w0 w1 w2 w3 : Int}
theorem same_yes (hm : l.length < 1000000) : Ev (fun k => room_Same.f k n s g l n s g l) true := by
  unfold room_Same.f
  simp only [if_true]
  exact Ev.bind ((Equal_f hm).1 rfl) (Ev.now _)
theorem same_no (hm : a.length < 1000000) (h : ¬ a = l) : Ev (fun k => room_Same.f k n s g a n s g l) false := by
  unfold room_Same.f
  simp only [if_true]
  exact Ev.bind ((Equal_f hm).2 h) (Ev.now _)
end
theorem rd_app (l : List S38) (x : S38) (i : Nat) : rd_T38 (l ++ [x]) i = if i < l.length then rd_T38 l i else if i = l.length then x else z38 := by
  rw [rd_at, rd_at, List.getD_eq_getElem?_getD, List.getD_eq_getElem?_getD]
  by_cases h : i < l.length
  · rw [if_pos h, List.getElem?_append_left h]
  · rw [if_neg h, List.getElem?_append_right (by omega)]
    by_cases h2 : i = l.length
    · rw [if_pos h2, h2, Nat.sub_self]; rfl
    · rw [if_neg h2, List.getElem?_eq_none (by simp; omega)]; rfl
theorem back {n : ByteArray} {s g w0 w1 w2 w3 : Int} {l : List S38} (hm : l.length ≤ 30) (h : ∀ i : Nat, i < l.length → ¬ rd_T38 l i = ⟨w0, w1, w2, w3⟩) : Ev (fun k => ((room_Close.f n s g l w0 w1 w2 w3).bind fun bt439 => (if bt439.2.2.2.2 = 0 then ((room_Reopen.f k bt439.1 bt439.2.1 bt439.2.2.1 bt439.2.2.2.1 w0 w1 w2 w3).bind fun bt447 => (if bt447.2.2.2.2 = 0 then ((room_Same.f k bt447.1 bt447.2.1 bt447.2.2.1 bt447.2.2.2.1 n s g l).bind fun t455 => (if t455 = true then ((room_Same.f k bt439.1 bt439.2.1 bt439.2.2.1 bt439.2.2.2.1 n s g l).bind fun t456 => (if t456 = true then (some false) else ((horariumlaw11_heads.f k).bind fun t457 => (some t457)))) else (some false))) else (some false))) else (if bt439.2.2.2.2 = 9 then (if (l.length : Int) ≥ 16 then ((horariumlaw11_heads.f k).bind fun t458 => (some t458)) else (some false)) else (some false))))) true := by
  simp only [Close_f (show l.length < 1000000 by omega), Option.bind_some]
  by_cases h16 : l.length ≥ 16
  · simp only [if_pos h16, if_neg (show ¬ (9 : Int) = 0 by decide), if_true, if_pos (show (l.length : Int) ≥ 16 by omega)]
    exact Ev.bind heads_ev (Ev.now _)
  · simp only [if_neg h16, if_true]
    have hlen : (l ++ [(⟨w0, w1, w2, w3⟩ : S38)]).length = l.length + 1 := by simp
    have hR := (Reopen_f (l := l ++ [(⟨w0, w1, w2, w3⟩ : S38)]) (n := n) (s := s) (g := g) (w0 := w0) (w1 := w1) (w2 := w2) (w3 := w3) (by omega)).2 l.length (by omega)
      (by rw [rd_app, if_neg (by omega), if_pos rfl]) (fun i hi => by rw [rd_app, if_pos hi]; exact h i hi)
    rw [List.take_left' rfl, List.drop_eq_nil_of_le (by omega), List.append_nil] at hR
    refine Ev.bind hR ?_
    simp only [if_true]
    refine Ev.bind (same_yes (by omega)) ?_
    simp only [if_true]
    refine Ev.bind (same_no (by omega) (fun he => ?_)) ?_
    · have := congrArg List.length he
      omega
    · simp only [Bool.false_eq_true, if_false]
      exact Ev.bind heads_ev (Ev.now _)
theorem RoomBack : ∀ (a0_0 : ByteArray) (a0_1 : Int) (a0_2 : Int) (l0_3 : List (S38)) (a1_0 : Int) (a1_1 : Int) (a1_2 : Int) (a1_3 : Int), a0_0.size ≤ maxLen → (Lit.int .i64 a0_1).wf = true → (Lit.int .u16 a0_2).wf = true → (∀ x ∈ l0_3, ((Lit.int .u32 x.f0).wf = true ∧ (Lit.int .u8 x.f1).wf = true ∧ (Lit.int .i64 x.f2).wf = true ∧ (Lit.int .i64 x.f3).wf = true)) → (Lit.int .u32 a1_0).wf = true → (Lit.int .u8 a1_1).wf = true → (Lit.int .i64 a1_2).wf = true → (Lit.int .i64 a1_3).wf = true → ∃ k, horariumlaw11_RoomBack.f k a0_0 a0_1 a0_2 l0_3 a1_0 a1_1 a1_2 a1_3 = some true := by
  intro n s g l w0 w1 w2 w3 _ _ _ _ _ _ _ _
  refine Ev.rounds ?_
  unfold horariumlaw11_RoomBack.f horariumlaw11_few.f
  simp only [Option.bind_some, decide_eq_true_eq]
  by_cases h30 : (l.length : Int) ≤ 30
  · simp only [if_pos h30]
    have := loop_all (L := fun k i => horariumlaw11_RoomBack.l0 k i n s g l w0 w1 w2 w3) (n := l.length) (P := fun i => ¬ rd_T38 l i = ⟨w0, w1, w2, w3⟩) (re := true) (rb := true) ?_ ?_ ?_
    · by_cases h : ∀ i : Nat, i < l.length → ¬ rd_T38 l i = ⟨w0, w1, w2, w3⟩
      · exact this.1 h
      · exact this.2 h
    · intro i hi hp r h
      refine Ev.step (fun k => ?_) h
      simp only [horariumlaw11_RoomBack.l0]
      rw [if_pos (by omega), if_pos (by omega), if_neg (fun hc => hp ((eq_T _).mp hc)), w64s (by omega)]
    · intro i hi hp
      refine Ev.step (fun k => ?_) (Ev.bind heads_ev (Ev.now true))
      simp only [horariumlaw11_RoomBack.l0]
      rw [if_pos (by omega), if_pos (by omega), if_pos ((eq_T _).mpr (Classical.not_not.mp hp))]
    · intro h
      refine Ev.step (fun k => ?_) (back (n := n) (s := s) (g := g) (by omega) h)
      simp only [horariumlaw11_RoomBack.l0]
      rw [if_neg (by omega)]
  · simp only [if_neg h30]
    exact Ev.bind heads_ev (Ev.now _)
end Go.Proofs.Ytdbbmnhaiejnjaa.Pure
