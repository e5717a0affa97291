/- The law RoomOpens, over numbers alone. -/
import Derived.Test.YtdbbmnhaiejnjaaQ28
import Derived.Test.YtdbbmnhaiejnjaaL4a
import Derived.Test.YtdbbmnhaiejnjaaW2
import Derived.Test.YtdbbmnhaiejnjaaW4
import Derived.Test.YtdbbmnhaiejnjaaW8
namespace Go.Proofs.Ytdbbmnhaiejnjaa.Pure
open Go.RowKit Go.Proofs.YtdbbmnhaiejnjaaW.PrintWords Go.Proofs.YtdbbmnhaiejnjaaW.PrintLast Go.Proofs.YtdbbmnhaiejnjaaW.PrintMore Go.Proofs.Ytdbbmnhaiejnjaa.M Go.Proofs.Ytdbbmnhaiejnjaa.Q Go.Proofs.Ytdbbmnhaiejnjaa.L1 Go.Proofs.Ytdbbmnhaiejnjaa.L2 Go.Proofs.Ytdbbmnhaiejnjaa.L3 Go.Proofs.Ytdbbmnhaiejnjaa.L4 Go.Proofs.Ytdbbmnhaiejnjaa.W1 Go.Proofs.Ytdbbmnhaiejnjaa.W2 Go.Proofs.Ytdbbmnhaiejnjaa.W3 Go.Proofs.Ytdbbmnhaiejnjaa.W4 Go.Proofs.Ytdbbmnhaiejnjaa.W8
theorem heads_ev : Ev (fun k => horariumlaw11_heads.f k) true := Ev.of (fun k => horariumlaw11_heads.mono k) (k := 60) (by decide +kernel)
section
variable {n : ByteArray} {s g w0 w1 w2 w3 : Int} {l : List S38}
theorem in_l1 {O L : List Int} {i : Nat} (hi : i < L.length) (hO : O.length < 1000000) (hL : L.length < 1000000) {all : Bool} {r : Bool} (d : Nat) :
    ∀ (j : Nat) (inn : Bool), j ≤ O.length → O.length - j = d →
      Ev (fun k => horariumlaw11_RoomOpens.l0 k O L (all && (inn || decide (rd L i ∈ O.drop j))) ((i + 1 : Nat) : Int) n s g l w0 w1 w2 w3) r →
      Ev (fun k => horariumlaw11_RoomOpens.l1 k O L all i inn j n s g l w0 w1 w2 w3) r := by
  induction d with
  | zero =>
    intro j inn hj hd h
    obtain rfl : j = O.length := by omega
    rw [List.drop_length, decide_eq_false (by simp), Bool.or_false] at h
    refine Ev.step (fun k => ?_) h
    simp only [horariumlaw11_RoomOpens.l1]
    rw [if_neg (by omega), w64s (by omega)]
    cases all with
    | true => simp only [if_true, Bool.true_and]
    | false => simp only [Bool.false_eq_true, if_false, Bool.false_and]
  | succ d ih =>
    intro j inn hj hd h
    have hlt : j < O.length := by omega
    have hdrop : O.drop j = rd O j :: O.drop (j + 1) := by
      rw [rd_nat, List.getD_eq_getElem?_getD, List.getElem?_eq_getElem hlt]
      exact List.drop_eq_getElem_cons hlt
    have hdec : decide (rd L i ∈ O.drop j) = ((rd O j == rd L i) || decide (rd L i ∈ O.drop (j + 1))) := by
      rw [hdrop]
      refine Bool.eq_iff_iff.mpr ?_
      rw [decide_eq_true_eq, Bool.or_eq_true, decide_eq_true_eq, List.mem_cons, beq_iff_eq]
      exact or_congr eq_comm Iff.rfl
    rw [hdec, ← Bool.or_assoc] at h
    cases inn with
    | true =>
      refine Ev.step (fun k => ?_) (ih (j + 1) true (by omega) (by omega) h)
      simp only [horariumlaw11_RoomOpens.l1]
      rw [if_pos (by omega), if_pos trivial, w64s (by omega)]
    | false =>
      rw [Bool.false_or] at h
      refine Ev.step (fun k => ?_) (ih (j + 1) _ (by omega) (by omega) h)
      simp only [horariumlaw11_RoomOpens.l1]
      rw [if_pos (by omega), if_neg (by decide), if_pos (by omega), if_pos (by omega), if_pos (by omega), w64s (by omega)]
theorem all_l0 {O L : List Int} (hO : O.length < 1000000) (hL : L.length < 1000000) (hl : GW l) (v0 : 0 ≤ w0 ∧ w0 < 4294967296) (v1 : 0 ≤ w1 ∧ w1 < 256) (d : Nat) :
    ∀ (i : Nat) (all : Bool), i ≤ L.length → L.length - i = d → (SHB l w0 w1 w2 w3 = !(all && (L.drop i).all fun x => decide (x ∈ O))) →
      Ev (fun k => horariumlaw11_RoomOpens.l0 k O L all i n s g l w0 w1 w2 w3) true := by
  induction d with
  | zero =>
    intro i all hi hd h
    obtain rfl : i = L.length := by omega
    rw [List.drop_length, List.all_nil, Bool.and_true] at h
    refine Ev.step (f := fun k => (horariumlaw11_heads.f k).bind fun t => some t) (fun k => ?_) (Ev.bind heads_ev (Ev.now _))
    simp only [horariumlaw11_RoomOpens.l0]
    rw [if_neg (by omega), room_Shut_f hl v0 v1, Option.bind_some, h, beq_self_eq_true, if_pos rfl]
  | succ d ih =>
    intro i all hi hd h
    have hlt : i < L.length := by omega
    have hdrop : L.drop i = rd L i :: L.drop (i + 1) := by
      rw [rd_nat, List.getD_eq_getElem?_getD, List.getElem?_eq_getElem hlt]
      exact List.drop_eq_getElem_cons hlt
    rw [hdrop, List.all_cons, ← Bool.and_assoc] at h
    refine Ev.step (f := fun k => horariumlaw11_RoomOpens.l1 k O L all i false ((0 : Nat) : Int) n s g l w0 w1 w2 w3) (fun k => ?_) (in_l1 hlt hO hL _ 0 false (Nat.zero_le _) rfl ?_)
    · simp only [horariumlaw11_RoomOpens.l0]
      rw [if_pos (by omega)]
      rfl
    · rw [List.drop_zero, Bool.false_or]
      exact ih (i + 1) _ (by omega) (by omega) h
end
theorem MT_mom {g0 g1 g2 : Int} {x : S38} {w0 w1 w2 w3 : Int} (u : 0 ≤ x.f0) (v : 0 ≤ x.f1) (hx : RTx g0 g1 g2 x) (hw : RT g0 g1 g2 w0 w1 w2 w3) : MTx w0 w1 w2 w3 x ↔ ∃ m, m < NN g0 g1 g2 ∧ pmx g1 g2 m x = true ∧ pm w0.toNat w1.toNat w2.toNat w3.toNat g1.toNat g2.toNat m = true := by
  have hcom : ∀ z : Int, z ∈ COM g0 g1 g2 x.f0 x.f1 x.f2 x.f3 w0 w1 w2 w3 ↔ ∃ m, m < NN g0 g1 g2 ∧ pmx g1 g2 m x = true ∧ pm w0.toNat w1.toNat w2.toNat w3.toNat g1.toNat g2.toNat m = true ∧ z = (m : Int) := by
    intro z
    unfold COM MOM
    rw [if_pos hx, if_pos hw, FL_filter, FL_mem]
    constructor
    · rintro ⟨m, h1, h2, h3⟩
      rw [Bool.and_eq_true] at h2
      exact ⟨m, h1, h2.1, h2.2, h3⟩
    · rintro ⟨m, h1, h2, h3, h4⟩
      exact ⟨m, h1, by rw [Bool.and_eq_true]; exact ⟨h2, h3⟩, h4⟩
  constructor
  · intro h
    have hr := RT_both hx hw u v h
    have hne := MOM_ne hr (AND_le u).1 (AND_le v).1
    rw [← COM_yes hx hw u v h] at hne
    obtain ⟨z, hz⟩ := List.exists_mem_of_length_pos hne
    obtain ⟨m, h1, h2, h3, _⟩ := (hcom z).mp hz
    exact ⟨m, h1, h2, h3⟩
  · rintro ⟨m, h1, h2, h3⟩
    refine Classical.byContradiction fun hc => ?_
    have := (hcom m).mpr ⟨m, h1, h2, h3, rfl⟩
    rw [COM_no hx hw u v hc] at this
    simp at this
theorem RoomOpens : ∀ (a0_0 : Int) (a0_1 : Int) (a0_2 : Int) (a1_0 : ByteArray) (a1_1 : Int) (a1_2 : Int) (l1_3 : List (S38)) (a2_0 : Int) (a2_1 : Int) (a2_2 : Int) (a2_3 : Int), (Lit.int .i64 a0_0).wf = true → (Lit.int .i64 a0_1).wf = true → (Lit.int .i64 a0_2).wf = true → a1_0.size ≤ maxLen → (Lit.int .i64 a1_1).wf = true → (Lit.int .u16 a1_2).wf = true → (∀ x ∈ l1_3, ((Lit.int .u32 x.f0).wf = true ∧ (Lit.int .u8 x.f1).wf = true ∧ (Lit.int .i64 x.f2).wf = true ∧ (Lit.int .i64 x.f3).wf = true)) → (Lit.int .u32 a2_0).wf = true → (Lit.int .u8 a2_1).wf = true → (Lit.int .i64 a2_2).wf = true → (Lit.int .i64 a2_3).wf = true → ∃ k, horariumlaw11_RoomOpens.f k a0_0 a0_1 a0_2 a1_0 a1_1 a1_2 l1_3 a2_0 a2_1 a2_2 a2_3 = some true := by
  intro g0 g1 g2 n s g l w0 w1 w2 w3 _ _ _ _ _ _ hl v0 v1 _ v3
  replace hl := GW_of hl
  replace v0 := wf_u32 v0
  replace v1 := wf_u8 v1
  replace v3 := wf_i64 v3
  refine Ev.rounds ?_
  unfold horariumlaw11_RoomOpens.f horariumlaw11_few.f
  simp only [Option.bind_some, decide_eq_true_eq, room_Right_f hl]
  by_cases h30 : (l.length : Int) ≤ 30
  · simp only [if_pos h30]
    by_cases h : RRM g0 g1 g2 n s l
    · simp only [if_pos h]
      refine Ev.bind (ref_Right_f v0 v1 v3) ?_
      simp only [decide_eq_true_eq]
      by_cases hr : RT g0 g1 g2 w0 w1 w2 w3
      · simp only [if_pos hr]
        have hO := room_Open_f (g0 := g0) (g1 := g1) (g2 := g2) (n := n) (s := s) (r2 := g) hl
        rw [if_pos h] at hO
        refine Ev.bind hO (Ev.bind (ref_Moments_f v0 v1 v3) ?_)
        have hN := NN_le h.1
        have hlen := OPN_len (l := l) h.1
        have hlen2 := L4.MOM_len (g0 := g0) (g1 := g1) (g2 := g2) (w0 := w0) (w1 := w1) (w2 := w2) (w3 := w3)
        refine all_l0 (by omega) (by omega) hl v0 v1 _ 0 true (Nat.zero_le _) rfl ?_
        rw [List.drop_zero, Bool.true_and]
        have hall := ALB_true.mp h.2.2.2.2.2
        have key : SHB l w0 w1 w2 w3 = false ↔ ((MOM g0 g1 g2 w0 w1 w2 w3).all fun x => decide (x ∈ OPN l g0 g1 g2)) = true := by
          rw [SHB_false, List.all_eq_true]
          constructor
          · intro h1 x hx
            unfold MOM at hx
            rw [if_pos hr] at hx
            obtain ⟨m, hm, hp, rfl⟩ := FL_mem.mp hx
            rw [decide_eq_true_eq]
            refine FL_mem.mpr ⟨m, hm, ?_, rfl⟩
            unfold FREE
            rw [Bool.not_eq_true', List.any_eq_false]
            intro y hy hpy
            exact h1 y hy ((MT_mom (hl y hy).1.1 (hl y hy).2.1.1 (hall y hy) hr).mpr ⟨m, hm, hpy, hp⟩)
          · intro h1 y hy hmt
            obtain ⟨m, hm, hpy, hp⟩ := (MT_mom (hl y hy).1.1 (hl y hy).2.1.1 (hall y hy) hr).mp hmt
            have hx : (m : Int) ∈ MOM g0 g1 g2 w0 w1 w2 w3 := by
              unfold MOM
              rw [if_pos hr]
              exact FL_mem.mpr ⟨m, hm, hp, rfl⟩
            have h2 := h1 _ hx
            rw [decide_eq_true_eq] at h2
            obtain ⟨m2, _, hf, e⟩ := FL_mem.mp h2
            obtain rfl : m = m2 := by omega
            unfold FREE at hf
            rw [Bool.not_eq_true', List.any_eq_false] at hf
            exact hf y hy hpy
        cases hS : SHB l w0 w1 w2 w3 with
        | false => rw [key.mp hS]; rfl
        | true =>
          cases hA : ((MOM g0 g1 g2 w0 w1 w2 w3).all fun x => decide (x ∈ OPN l g0 g1 g2)) with
          | false => rfl
          | true => rw [key.mpr hA] at hS; exact absurd hS (by decide)
      · simp only [if_neg hr]
        exact Ev.bind heads_ev (Ev.now _)
    · simp only [if_neg h]
      exact Ev.bind heads_ev (Ev.now _)
  · simp only [if_neg h30]
    exact Ev.bind heads_ev (Ev.now _)
end Go.Proofs.Ytdbbmnhaiejnjaa.Pure
