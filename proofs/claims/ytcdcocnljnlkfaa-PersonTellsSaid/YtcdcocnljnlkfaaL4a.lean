/- When a room is open, over numbers: plain. -/
import Derived.Test.YtcdcocnljnlkfaaEOpen
import Derived.Test.YtcdcocnljnlkfaaL3a
set_option linter.unusedVariables false
set_option linter.unusedSimpArgs false
namespace Go.Proofs.Ytcdcocnljnlkfaa.L4
open Go.RowKit Go.Proofs.YtcdcocnljnlkfaaW.PrintWords Go.Proofs.Ytcdcocnljnlkfaa.M Go.Proofs.Ytcdcocnljnlkfaa.Q Go.Proofs.Ytcdcocnljnlkfaa.L1 Go.Proofs.Ytcdcocnljnlkfaa.L2 Go.Proofs.Ytcdcocnljnlkfaa.L3 Go.Proofs.Ytcdcocnljnlkfaa.W1 Go.Proofs.Ytcdcocnljnlkfaa.W2 Go.Proofs.Ytcdcocnljnlkfaa.W3
abbrev pmx (g1 g2 : Int) (m : Nat) (x : S27) : Bool := pm x.f0.toNat x.f1.toNat x.f2.toNat x.f3.toNat g1.toNat g2.toNat m
/-- Is no time of these at moment m? -/
def FREE (l : List S27) (g1 g2 : Int) (m : Nat) : Bool := !l.any (pmx g1 g2 m)
def NN (g0 g1 g2 : Int) : Nat := g0.toNat * g1.toNat * g2.toNat
/-- The moments at which a room is open. -/
def OPN (l : List S27) (g0 g1 g2 : Int) : List Int := FL (FREE l g1 g2) (NN g0 g1 g2)
theorem NN_le {g0 g1 g2 : Int} (h : RG g0 g1 g2) : NN g0 g1 g2 ≤ 20 * 7 * 96 := by
  unfold RG at h
  exact Nat.mul_le_mul (Nat.mul_le_mul (by omega) (by omega)) (by omega)
theorem NN_eq {g0 g1 g2 : Int} (h : RG g0 g1 g2) : g0 * g1 * g2 = (NN g0 g1 g2 : Int) := by
  unfold RG at h
  obtain ⟨W, rfl⟩ := nat_of (show 0 ≤ g0 by omega)
  obtain ⟨D, rfl⟩ := nat_of (show 0 ≤ g1 by omega)
  obtain ⟨S, rfl⟩ := nat_of (show 0 ≤ g2 by omega)
  unfold NN
  push_cast
  rfl
theorem OPN_len {l : List S27} {g0 g1 g2 : Int} (h : RG g0 g1 g2) : (OPN l g0 g1 g2).length ≤ 13440 := Nat.le_trans (FL_len _ _) (Nat.le_trans (NN_le h) (by decide))
section
variable {l : List S27} {g0 g1 g2 : Int}
/-- The marks of some times. -/
def MK (l : List S27) (g0 g1 g2 : Int) : List Int := l.flatMap fun x => MOM g0 g1 g2 x.f0 x.f1 x.f2 x.f3
theorem marks_ev : ∀ (l : List S27), GW l → Ev (fun k => room_Open.marks k g0 g1 g2 l) (MK l g0 g1 g2)
  | [], _ => Ev.now _
  | x :: l, h => by
    unfold MK
    rw [List.flatMap_cons]
    exact Ev.bind (when_Moments_f (h x (List.mem_cons_self ..)).1 (h x (List.mem_cons_self ..)).2.1) (Ev.bind (marks_ev l fun y hy => h y (List.mem_cons_of_mem _ hy)) (Ev.now _))
theorem MOM_len {w0 w1 w2 w3 : Int} : (MOM g0 g1 g2 w0 w1 w2 w3).length ≤ 13440 := by
  unfold MOM
  split
  · rename_i h
    exact Nat.le_trans (FL_len _ _) (Nat.le_trans (NN_le h.1) (by decide))
  · simp
theorem MK_len : ∀ l : List S27, (MK l g0 g1 g2).length ≤ l.length * 13440
  | [] => by simp [MK]
  | x :: l => by
    have h1 := MK_len l
    have h2 := MOM_len (g0 := g0) (g1 := g1) (g2 := g2) (w0 := x.f0) (w1 := x.f1) (w2 := x.f2) (w3 := x.f3)
    unfold MK at h1 ⊢
    rw [List.flatMap_cons, List.length_append, List.length_cons]
    omega
theorem MK_bound {m : Int} (h : m ∈ MK l g0 g1 g2) : 0 ≤ m ∧ m < 1000000 := by
  unfold MK at h
  obtain ⟨x, _, hm⟩ := List.mem_flatMap.mp h
  unfold MOM at hm
  split at hm
  · rename_i hr
    obtain ⟨j, hj, _, rfl⟩ := FL_mem.mp hm
    have := NN_le hr.1
    unfold NN at this
    omega
  · simp at hm
theorem MK_mem (hr : ∀ x ∈ l, RTx g0 g1 g2 x) {m : Nat} (hm : m < NN g0 g1 g2) : (m : Int) ∈ MK l g0 g1 g2 ↔ FREE l g1 g2 m = false := by
  unfold MK FREE
  rw [List.mem_flatMap, Bool.not_eq_false', List.any_eq_true]
  constructor
  · rintro ⟨x, hx, h⟩
    refine ⟨x, hx, ?_⟩
    unfold MOM at h
    rw [if_pos (hr x hx)] at h
    obtain ⟨j, _, hp, hj⟩ := FL_mem.mp h
    obtain rfl : m = j := by omega
    exact hp
  · rintro ⟨x, hx, h⟩
    refine ⟨x, hx, ?_⟩
    unfold MOM
    rw [if_pos (hr x hx)]
    exact FL_mem.mpr ⟨m, hm, h, rfl⟩
theorem opens_FL (M : List Int) (n : Nat) : room_Open.opens M n = FL (fun m => !decide ((m : Int) ∈ M)) n := by
  induction n with
  | zero => rfl
  | succ n ih =>
    rw [FL_succ, room_Open.opens, ih]
    by_cases h : (n : Int) ∈ M
    · rw [if_pos h, if_neg (by simp [h])]
    · rw [if_neg h, if_pos (by simp [h])]
theorem room_Open_f {n : ByteArray} {s r2 : Int} (hl : GW l) : Ev (fun k => room_Open.f k g0 g1 g2 n s r2 l) (if RRM g0 g1 g2 n s l then OPN l g0 g1 g2 else []) := by
  unfold room_Open.f
  simp only [room_Right_f hl, Option.bind_some, decide_eq_true_eq]
  by_cases h : RRM g0 g1 g2 n s l
  · simp only [if_pos h]
    refine Ev.bind (marks_ev l hl) ?_
    have hg := h.1
    have hb := NN_le hg
    have e := NN_eq hg
    have hc : ∀ x ∈ l, RTx g0 g1 g2 x := ALB_true.mp h.2.2.2.2.2
    have hab : 0 ≤ g0 * g1 ∧ g0 * g1 ≤ 140 := by
      have hg' := hg
      unfold RG at hg'
      exact ⟨Int.mul_nonneg (by omega) (by omega), Int.le_trans (Int.mul_le_mul (show g0 ≤ 20 by omega) (show g1 ≤ 7 by omega) (by omega) (by omega)) (by decide)⟩
    have hw : wrap64 ((wrap64 (g0 * g1)) * g2) = (NN g0 g1 g2 : Int) := by
      rw [w64 (n := g0 * g1) (by omega) (by omega), e, w64 (by omega) (by omega)]
    have hlen := MK_len (g0 := g0) (g1 := g1) (g2 := g2) l
    have h16 := h.2.2.2.2.1
    rw [hw, if_pos ⟨by omega, fun m hm => MK_bound hm, by omega, by omega⟩, Int.toNat_natCast, opens_FL]
    have : FL (fun m => !decide ((m : Int) ∈ MK l g0 g1 g2)) (NN g0 g1 g2) = OPN l g0 g1 g2 := by
      unfold OPN
      refine FL_congr fun m hm => ?_
      have := MK_mem hc hm
      cases hf : FREE l g1 g2 m with
      | false => rw [decide_eq_true (this.mpr hf)]; rfl
      | true => rw [decide_eq_false (fun h2 => by rw [this.mp h2] at hf; exact absurd hf (by decide))]; rfl
    rw [this]
    exact Ev.now _
  · simp only [if_neg h]
    exact Ev.now _
end
end Go.Proofs.Ytcdcocnljnlkfaa.L4
