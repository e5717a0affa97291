/- The law RoomWalks, over numbers alone. -/
import Derived.Test.YtdbbmnhaiejnjaaQ10
import Derived.Test.YtdbbmnhaiejnjaaM
import Derived.Test.YtdbbmnhaiejnjaaL1
namespace Go.Proofs.Ytdbbmnhaiejnjaa.Pure
open Go.RowKit Go.Proofs.YtdbbmnhaiejnjaaW.PrintWords Go.Proofs.YtdbbmnhaiejnjaaW.PrintLast Go.Proofs.YtdbbmnhaiejnjaaW.PrintMore Go.Proofs.Ytdbbmnhaiejnjaa.M Go.Proofs.Ytdbbmnhaiejnjaa.Q Go.Proofs.Ytdbbmnhaiejnjaa.L1
theorem heads_ev : Ev (fun k => horariumlaw11_heads.f k) true := Ev.of (fun k => horariumlaw11_heads.mono k) (k := 60) (by decide +kernel)
def RA (n : Int) (w : List (List Int)) : Prop := 0 ≤ n ∧ n ≤ 24 ∧ (w.length : Int) = n
def RB (n : Int) (w : List (List Int)) : Prop := ∀ i : Nat, i < w.length → ((rd_L1 w i).length : Int) = n
def OKC (w : List (List Int)) (i j : Nat) : Prop := 0 ≤ rd (rd_L1 w i) j ∧ rd (rd_L1 w i) j ≤ 96 ∧ rd (rd_L1 w i) j = rd (rd_L1 w j) i ∧ (i = j → rd (rd_L1 w i) j = 0)
def RC (w : List (List Int)) : Prop := ∀ i : Nat, i < w.length → ∀ j : Nat, j < w.length → OKC w i j
section
variable {n : Int} {w : List (List Int)}
theorem ref_l2 (hA : RA n w) (hB : RB n w) {i : Nat} (hi : i < w.length) {re : Bool} (he : (∀ j, j < w.length → OKC w i j) → Ev (fun k => horariumref11_RightWalk.l1 k n w ((i + 1 : Nat) : Int)) re) :
    ((∀ j, j < w.length → OKC w i j) → Ev (fun k => horariumref11_RightWalk.l2 k n w i 0) re) ∧ (¬ (∀ j, j < w.length → OKC w i j) → Ev (fun k => horariumref11_RightWalk.l2 k n w i 0) false) := by
  obtain ⟨a0, a1, a2⟩ := hA
  have bi := hB i hi
  refine loop_all (L := fun k j => horariumref11_RightWalk.l2 k n w i j) ?_ ?_ ?_
  · intro j hj hp r h
    refine Ev.step (fun k => ?_) h
    obtain ⟨p1, p2, p3, p4⟩ := hp
    have bj := hB j hj
    simp only [horariumref11_RightWalk.l2]
    rw [if_pos (by omega), if_pos (by omega), if_pos (by omega), if_pos (by omega), if_pos (by omega), if_neg (by omega), if_neg (by omega), if_pos (by omega), if_pos (by omega), if_pos p3, w64s (by omega)]
    by_cases hij : (i : Int) = j
    · rw [if_pos hij, if_pos (p4 (by omega))]
    · rw [if_neg hij]
  · intro j hj hp
    refine Ev.step (fun k => ?_) (Ev.now false)
    have bj := hB j hj
    simp only [horariumref11_RightWalk.l2]
    rw [if_pos (by omega), if_pos (by omega), if_pos (by omega), if_pos (by omega), if_pos (by omega)]
    split
    · rfl
    · split
      · rfl
      · rw [if_pos (by omega), if_pos (by omega)]
        split
        · rename_i h1 h2 h3
          split
          · rename_i h4
            rw [if_neg]
            intro h5
            exact hp ⟨by omega, by omega, h3, fun _ => h5⟩
          · rename_i h4
            exact absurd ⟨by omega, by omega, h3, fun h5 => absurd (congrArg Nat.cast h5) h4⟩ hp
        · rfl
  · intro ha
    refine Ev.step (fun k => ?_) (he ha)
    simp only [horariumref11_RightWalk.l2]
    rw [if_neg (by omega), w64s (by omega)]
theorem ref_l1 (hA : RA n w) (hB : RB n w) :
    (RC w → Ev (fun k => horariumref11_RightWalk.l1 k n w 0) true) ∧ (¬ RC w → Ev (fun k => horariumref11_RightWalk.l1 k n w 0) false) := by
  have a2 := hA.2.2
  refine loop_all (L := fun k i => horariumref11_RightWalk.l1 k n w i) (P := fun i => ∀ j, j < w.length → OKC w i j) ?_ ?_ ?_
  · intro i hi hp r h
    refine Ev.step (fun k => ?_) ((ref_l2 hA hB hi fun _ => h).1 hp)
    simp only [horariumref11_RightWalk.l1]
    rw [if_pos (by omega)]
  · intro i hi hp
    refine Ev.step (fun k => ?_) ((ref_l2 (re := false) hA hB hi fun h => absurd h hp).2 hp)
    simp only [horariumref11_RightWalk.l1]
    rw [if_pos (by omega)]
  · intro _
    refine Ev.step (fun k => ?_) (Ev.now true)
    simp only [horariumref11_RightWalk.l1]
    rw [if_neg (by omega)]
def RWk (n : Int) (w : List (List Int)) : Prop := RA n w ∧ RB n w ∧ RC w
theorem ref_f : (RWk n w → Ev (fun k => horariumref11_RightWalk.f k n w) true) ∧ (¬ RWk n w → Ev (fun k => horariumref11_RightWalk.f k n w) false) := by
  have hj : ¬ RA n w → Ev (fun k => horariumref11_RightWalk.f k n w) false := by
    intro hA
    have h1 : Ev (fun k => horariumref11_RightWalk.j0 k n w true) false := Ev.step (fun k => by simp only [horariumref11_RightWalk.j0, if_true]) (Ev.now false)
    refine Ev.congr (fun k => ?_) h1
    unfold horariumref11_RightWalk.f
    split
    · rfl
    · split
      · rfl
      · have : ((w.length : Int) != n) = true := by
          simp only [bne_iff_ne, ne_eq]
          intro h
          exact hA ⟨by omega, by omega, h⟩
        rw [this]
  by_cases hA : RA n w
  · have a2 := hA.2.2
    have h0 : ∀ r, Ev (fun k => horariumref11_RightWalk.l0 k n w 0) r → Ev (fun k => horariumref11_RightWalk.f k n w) r := by
      intro r h
      have h1 : Ev (fun k => horariumref11_RightWalk.j0 k n w false) r := Ev.step (fun k => by simp [horariumref11_RightWalk.j0]) h
      refine Ev.congr (fun k => ?_) h1
      unfold horariumref11_RightWalk.f
      rw [if_neg (by have := hA.1; omega), if_neg (by have := hA.2.1; omega)]
      have : ((w.length : Int) != n) = false := by simp [a2]
      rw [this]
    have hs : ∀ i : Nat, i < w.length → ((rd_L1 w i).length : Int) = n → ∀ r, Ev (fun k => horariumref11_RightWalk.l0 k n w ((i + 1 : Nat) : Int)) r → Ev (fun k => horariumref11_RightWalk.l0 k n w (i : Int)) r := by
      intro i hi hp r h
      refine Ev.step (fun k => ?_) h
      simp only [horariumref11_RightWalk.l0]
      rw [if_pos (by omega), if_pos (by omega), if_pos (by omega), if_pos hp, w64s (by have := hA.2.1; omega)]
    have hb : ∀ i : Nat, i < w.length → ¬ ((rd_L1 w i).length : Int) = n → Ev (fun k => horariumref11_RightWalk.l0 k n w (i : Int)) false := by
      intro i hi hp
      refine Ev.step (fun k => ?_) (Ev.now false)
      simp only [horariumref11_RightWalk.l0]
      rw [if_pos (by omega), if_pos (by omega), if_pos (by omega), if_neg hp]
    have he : ∀ r, Ev (fun k => horariumref11_RightWalk.l1 k n w 0) r → Ev (fun k => horariumref11_RightWalk.l0 k n w (w.length : Int)) r := by
      intro r h
      refine Ev.step (fun k => ?_) h
      simp only [horariumref11_RightWalk.l0]
      rw [if_neg (by omega)]
    by_cases hC : RC w
    · have := loop_all (L := fun k i => horariumref11_RightWalk.l0 k n w i) (P := fun i => ((rd_L1 w i).length : Int) = n) hs hb (re := true) (rb := false) (fun hB => he _ ((ref_l1 hA hB).1 hC))
      exact ⟨fun h => h0 _ (this.1 h.2.1), fun h => h0 _ (this.2 fun hB => h ⟨hA, hB, hC⟩)⟩
    · have := loop_all (L := fun k i => horariumref11_RightWalk.l0 k n w i) (P := fun i => ((rd_L1 w i).length : Int) = n) hs hb (re := false) (rb := false) (fun hB => he _ ((ref_l1 hA hB).2 hC))
      exact ⟨fun h => absurd h.2.2 hC, fun _ => h0 _ (by by_cases hB : RB n w; exact this.1 hB; exact this.2 hB)⟩
  · exact ⟨fun h => absurd h.1 hA, fun _ => hj hA⟩
theorem room_l2 (hA : RA n w) (hB : RB n w) {i : Nat} (hi : i < w.length) {re : Bool} (he : (∀ j, j < w.length → OKC w i j) → Ev (fun k => room_RightWalk.l1 k w w (w.length : Int) ((i + 1 : Nat) : Int)) re) :
    ((∀ j, j < w.length → OKC w i j) → Ev (fun k => room_RightWalk.l2 k w i w (w.length : Int) i (rd_L1 w i) ((rd_L1 w i).length : Int) 0) re) ∧ (¬ (∀ j, j < w.length → OKC w i j) → Ev (fun k => room_RightWalk.l2 k w i w (w.length : Int) i (rd_L1 w i) ((rd_L1 w i).length : Int) 0) false) := by
  obtain ⟨a0, a1, a2⟩ := hA
  have bi := hB i hi
  refine loop_all (L := fun k j => room_RightWalk.l2 k w i w (w.length : Int) i (rd_L1 w i) ((rd_L1 w i).length : Int) j) ?_ ?_ ?_
  · intro j hj hp r h
    refine Ev.step (fun k => ?_) h
    obtain ⟨p1, p2, p3, p4⟩ := hp
    have bj := hB j hj
    simp only [room_RightWalk.l2]
    rw [if_pos (by omega), if_pos (by omega), if_pos (by omega), if_neg (by omega), if_neg (by omega), if_pos (by omega), if_pos (by omega), if_pos (by omega), if_pos p3, w64s (by omega)]
    by_cases hij : (i : Int) = j
    · have := p4 (by omega)
      rw [if_pos hij, if_neg (by omega)]
    · rw [if_neg hij]
  · intro j hj hp
    refine Ev.step (fun k => ?_) (Ev.now false)
    have bj := hB j hj
    simp only [room_RightWalk.l2]
    rw [if_pos (by omega), if_pos (by omega), if_pos (by omega)]
    split
    · rfl
    · split
      · rfl
      · rw [if_pos (by omega), if_pos (by omega), if_pos (by omega)]
        split
        · rename_i h1 h2 h3
          split
          · rename_i h4
            rw [if_pos]
            refine Classical.byContradiction fun h5 => hp ⟨by omega, by omega, h3, fun _ => by omega⟩
          · rename_i h4
            exact absurd ⟨by omega, by omega, h3, fun h5 => absurd (congrArg Nat.cast h5) h4⟩ hp
        · rfl
  · intro ha
    refine Ev.step (fun k => ?_) (he ha)
    simp only [room_RightWalk.l2]
    rw [if_neg (by omega), w64s (by omega)]
theorem room_l1 (hA : RA n w) (hB : RB n w) :
    (RC w → Ev (fun k => room_RightWalk.l1 k w w (w.length : Int) 0) true) ∧ (¬ RC w → Ev (fun k => room_RightWalk.l1 k w w (w.length : Int) 0) false) := by
  have a2 := hA.2.2
  refine loop_all (L := fun k i => room_RightWalk.l1 k w w (w.length : Int) i) (P := fun i => ∀ j, j < w.length → OKC w i j) ?_ ?_ ?_
  · intro i hi hp r h
    refine Ev.step (fun k => ?_) ((room_l2 hA hB hi fun _ => h).1 hp)
    simp only [room_RightWalk.l1]
    rw [if_pos (by omega), if_pos (by omega), if_pos (by omega)]
  · intro i hi hp
    refine Ev.step (fun k => ?_) ((room_l2 (re := false) hA hB hi fun h => absurd h hp).2 hp)
    simp only [room_RightWalk.l1]
    rw [if_pos (by omega), if_pos (by omega), if_pos (by omega)]
  · intro _
    refine Ev.step (fun k => ?_) (Ev.now true)
    simp only [room_RightWalk.l1]
    rw [if_neg (by omega)]
theorem room_f : (RWk n w → Ev (fun k => room_RightWalk.f k n w) true) ∧ (¬ RWk n w → Ev (fun k => room_RightWalk.f k n w) false) := by
  have hj : ¬ RA n w → Ev (fun k => room_RightWalk.f k n w) false := by
    intro hA
    have h1 : Ev (fun k => room_RightWalk.j0 k n w true) false := Ev.step (fun k => by simp only [room_RightWalk.j0, if_true]) (Ev.now false)
    refine Ev.congr (fun k => ?_) h1
    unfold room_RightWalk.f
    split
    · rfl
    · split
      · rfl
      · have : ((w.length : Int) != n) = true := by
          simp only [bne_iff_ne, ne_eq]
          intro h
          exact hA ⟨by omega, by omega, h⟩
        rw [this]
  by_cases hA : RA n w
  · have a2 := hA.2.2
    have h0 : ∀ r, Ev (fun k => room_RightWalk.l0 k n w w (w.length : Int) 0) r → Ev (fun k => room_RightWalk.f k n w) r := by
      intro r h
      have h1 : Ev (fun k => room_RightWalk.j0 k n w false) r := Ev.step (fun k => by simp [room_RightWalk.j0]) h
      refine Ev.congr (fun k => ?_) h1
      unfold room_RightWalk.f
      rw [if_neg (by have := hA.1; omega), if_neg (by have := hA.2.1; omega)]
      have : ((w.length : Int) != n) = false := by simp [a2]
      rw [this]
    have hs : ∀ i : Nat, i < w.length → ((rd_L1 w i).length : Int) = n → ∀ r, Ev (fun k => room_RightWalk.l0 k n w w (w.length : Int) ((i + 1 : Nat) : Int)) r → Ev (fun k => room_RightWalk.l0 k n w w (w.length : Int) (i : Int)) r := by
      intro i hi hp r h
      refine Ev.step (fun k => ?_) h
      simp only [room_RightWalk.l0]
      rw [if_pos (by omega), if_pos (by omega), if_pos (by omega), if_pos hp, w64s (by have := hA.2.1; omega)]
    have hb : ∀ i : Nat, i < w.length → ¬ ((rd_L1 w i).length : Int) = n → Ev (fun k => room_RightWalk.l0 k n w w (w.length : Int) (i : Int)) false := by
      intro i hi hp
      refine Ev.step (fun k => ?_) (Ev.now false)
      simp only [room_RightWalk.l0]
      rw [if_pos (by omega), if_pos (by omega), if_pos (by omega), if_neg hp]
    have he : ∀ r, Ev (fun k => room_RightWalk.l1 k w w (w.length : Int) 0) r → Ev (fun k => room_RightWalk.l0 k n w w (w.length : Int) (w.length : Int)) r := by
      intro r h
      refine Ev.step (fun k => ?_) h
      simp only [room_RightWalk.l0]
      rw [if_neg (by omega)]
    by_cases hC : RC w
    · have := loop_all (L := fun k i => room_RightWalk.l0 k n w w (w.length : Int) i) (P := fun i => ((rd_L1 w i).length : Int) = n) hs hb (re := true) (rb := false) (fun hB => he _ ((room_l1 hA hB).1 hC))
      exact ⟨fun h => h0 _ (this.1 h.2.1), fun h => h0 _ (this.2 fun hB => h ⟨hA, hB, hC⟩)⟩
    · have := loop_all (L := fun k i => room_RightWalk.l0 k n w w (w.length : Int) i) (P := fun i => ((rd_L1 w i).length : Int) = n) hs hb (re := false) (rb := false) (fun hB => he _ ((room_l1 hA hB).2 hC))
      exact ⟨fun h => absurd h.2.2 hC, fun _ => h0 _ (by by_cases hB : RB n w; exact this.1 hB; exact this.2 hB)⟩
  · exact ⟨fun h => absurd h.1 hA, fun _ => hj hA⟩
end
theorem walks_f (w : List (List Int)) (a b : Int) : room_Walk.f w a b = some (if 0 ≤ a ∧ a < w.length ∧ 0 ≤ b ∧ b < (rd_L1 w a).length then rd (rd_L1 w a) b else 0) := by
  unfold room_Walk.f
  repeat' split
  all_goals first | rfl | omega
theorem ref_walks_f (w : List (List Int)) (a b : Int) : horariumref11_Walk.f w a b = some (if 0 ≤ a ∧ a < w.length ∧ 0 ≤ b ∧ b < (rd_L1 w a).length then rd (rd_L1 w a) b else 0) := by
  unfold horariumref11_Walk.f
  repeat' split
  all_goals first | rfl | omega
theorem law_end {n : Int} {w : List (List Int)} {a b : Int} : Ev (fun k => (room_RightWalk.f k n w).bind fun t175 => ((horariumref11_RightWalk.f k n w).bind fun t176 => (if (t175 == t176) = true then ((room_Walk.f w a b).bind fun t177 => ((horariumref11_Walk.f w a b).bind fun t178 => (if t177 = t178 then ((horariumlaw11_heads.f k).bind fun t179 => (some t179)) else (some false)))) else (some false)))) true := by
  have hx : ∃ r, Ev (fun k => room_RightWalk.f k n w) r ∧ Ev (fun k => horariumref11_RightWalk.f k n w) r := by
    by_cases h : RWk n w
    · exact ⟨_, room_f.1 h, ref_f.1 h⟩
    · exact ⟨_, room_f.2 h, ref_f.2 h⟩
  obtain ⟨r, h1, h2⟩ := hx
  refine Ev.bind h1 (Ev.bind h2 ?_)
  simp only [walks_f, ref_walks_f, Option.bind_some, beq_self_eq_true, if_true]
  exact Ev.bind heads_ev (Ev.now _)
theorem RoomWalks : ∀ (a0 : Int) (l1 : List (List Int)) (a2 : Int) (a3 : Int), (Lit.int .i64 a0).wf = true → (∀ x ∈ l1, ∀ y ∈ x, (Lit.int .i64 y).wf = true) → (Lit.int .i64 a2).wf = true → (Lit.int .i64 a3).wf = true → ∃ k, horariumlaw11_RoomWalks.f k a0 l1 a2 a3 = some true := by
  intro n w a b _ _ _ _
  refine Ev.rounds ?_
  unfold horariumlaw11_RoomWalks.f
  by_cases hl : (w.length : Int) > 30
  · simp only [if_pos hl]
    exact Ev.bind heads_ev (Ev.now _)
  · simp only [if_neg hl]
    have := loop_all (L := fun k i => horariumlaw11_RoomWalks.l0 k n w a b i) (n := w.length) (P := fun i => ¬ ((rd_L1 w i).length : Int) > 30) (re := true) (rb := true) ?_ ?_ ?_
    · by_cases h : ∀ i : Nat, i < w.length → ¬ ((rd_L1 w i).length : Int) > 30
      · exact this.1 h
      · exact this.2 h
    · intro i hi hp r h
      refine Ev.step (fun k => ?_) h
      simp only [horariumlaw11_RoomWalks.l0]
      rw [if_pos (by omega), if_pos (by omega), if_neg hp, w64s (by omega)]
    · intro i hi hp
      refine Ev.step (fun k => ?_) (Ev.bind heads_ev (Ev.now true))
      simp only [horariumlaw11_RoomWalks.l0]
      rw [if_pos (by omega), if_pos (by omega), if_pos (Classical.not_not.mp hp)]
    · intro _
      refine Ev.step (fun k => ?_) (law_end (n := n) (w := w) (a := a) (b := b))
      simp only [horariumlaw11_RoomWalks.l0]
      rw [if_neg (by omega)]
end Go.Proofs.Ytdbbmnhaiejnjaa.Pure
