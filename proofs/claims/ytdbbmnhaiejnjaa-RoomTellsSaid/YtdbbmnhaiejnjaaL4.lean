/- When a room is open, over numbers: plain. -/
import Derived.Test.YtdbbmnhaiejnjaaL3
import Derived.Laws.BitsAllLaws
set_option linter.unusedVariables false
set_option linter.unusedSimpArgs false
namespace Go.Proofs.Ytdbbmnhaiejnjaa.L4
open Go.RowKit Go.Proofs.YtdbbmnhaiejnjaaW.PrintWords Go.Proofs.Ytdbbmnhaiejnjaa.M Go.Proofs.Ytdbbmnhaiejnjaa.Q Go.Proofs.Ytdbbmnhaiejnjaa.L1 Go.Proofs.Ytdbbmnhaiejnjaa.L2 Go.Proofs.Ytdbbmnhaiejnjaa.L3 Go.Proofs.Ytdbbmnhaiejnjaa.W1 Go.Proofs.Ytdbbmnhaiejnjaa.W2 Go.Proofs.Ytdbbmnhaiejnjaa.W3
abbrev pmx (g1 g2 : Int) (m : Nat) (x : S38) : Bool := pm x.f0.toNat x.f1.toNat x.f2.toNat x.f3.toNat g1.toNat g2.toNat m
/-- Is no time of these at moment m? -/
def FREE (l : List S38) (g1 g2 : Int) (m : Nat) : Bool := !l.any (pmx g1 g2 m)
def NN (g0 g1 g2 : Int) : Nat := g0.toNat * g1.toNat * g2.toNat
/-- The moments at which a room is open. -/
def OPN (l : List S38) (g0 g1 g2 : Int) : List Int := FL (FREE l g1 g2) (NN g0 g1 g2)
theorem NN_le {g0 g1 g2 : Int} (h : RG g0 g1 g2) : NN g0 g1 g2 ≤ 20 * 7 * 96 := by
  unfold RG at h
  exact Nat.mul_le_mul (Nat.mul_le_mul (by omega) (by omega)) (by omega)
theorem NN_eq {g0 g1 g2 : Int} (h : RG g0 g1 g2) : g0 * g1 * g2 = (NN g0 g1 g2 : Int) := by
  unfold RG at h
  obtain ⟨W, rfl⟩ := nat_of (show 0 ≤ g0 by omega)
  obtain ⟨D, rfl⟩ := nat_of (show 0 ≤ g1 by omega)
  obtain ⟨S, rfl⟩ := nat_of (show 0 ≤ g2 by omega)
  unfold NN
  push_cast
  rfl
theorem OPN_len {l : List S38} {g0 g1 g2 : Int} (h : RG g0 g1 g2) : (OPN l g0 g1 g2).length ≤ 13440 := Nat.le_trans (FL_len _ _) (Nat.le_trans (NN_le h) (by decide))
section
variable {l : List S38} {g0 g1 g2 : Int}
/-- The marks of some times. -/
def MK (l : List S38) (g0 g1 g2 : Int) : List Int := l.flatMap fun x => MOM g0 g1 g2 x.f0 x.f1 x.f2 x.f3
theorem marks_ev : ∀ (l : List S38), GW l → Ev (fun k => room_Open.marks k g0 g1 g2 l) (MK l g0 g1 g2)
  | [], _ => Ev.now _
  | x :: l, h => by
    unfold MK
    rw [List.flatMap_cons]
    exact Ev.bind (when_Moments_f (h x (List.mem_cons_self ..)).1 (h x (List.mem_cons_self ..)).2.1) (Ev.bind (marks_ev l fun y hy => h y (List.mem_cons_of_mem _ hy)) (Ev.now _))
theorem MOM_len {w0 w1 w2 w3 : Int} : (MOM g0 g1 g2 w0 w1 w2 w3).length ≤ 13440 := by
  unfold MOM
  split
  · rename_i h
    exact Nat.le_trans (FL_len _ _) (Nat.le_trans (NN_le h.1) (by decide))
  · simp
theorem MK_len : ∀ l : List S38, (MK l g0 g1 g2).length ≤ l.length * 13440
  | [] => by simp [MK]
  | x :: l => by
    have h1 := MK_len l
    have h2 := MOM_len (g0 := g0) (g1 := g1) (g2 := g2) (w0 := x.f0) (w1 := x.f1) (w2 := x.f2) (w3 := x.f3)
    unfold MK at h1 ⊢
    rw [List.flatMap_cons, List.length_append, List.length_cons]
    omega
theorem MK_bound {m : Int} (h : m ∈ MK l g0 g1 g2) : 0 ≤ m ∧ m < 1000000 := by
  unfold MK at h
  obtain ⟨x, _, hm⟩ := List.mem_flatMap.mp h
  unfold MOM at hm
  split at hm
  · rename_i hr
    obtain ⟨j, hj, _, rfl⟩ := FL_mem.mp hm
    have := NN_le hr.1
    unfold NN at this
    omega
  · simp at hm
theorem MK_mem (hr : ∀ x ∈ l, RTx g0 g1 g2 x) {m : Nat} (hm : m < NN g0 g1 g2) : (m : Int) ∈ MK l g0 g1 g2 ↔ FREE l g1 g2 m = false := by
  unfold MK FREE
  rw [List.mem_flatMap, Bool.not_eq_false', List.any_eq_true]
  constructor
  · rintro ⟨x, hx, h⟩
    refine ⟨x, hx, ?_⟩
    unfold MOM at h
    rw [if_pos (hr x hx)] at h
    obtain ⟨j, _, hp, hj⟩ := FL_mem.mp h
    obtain rfl : m = j := by omega
    exact hp
  · rintro ⟨x, hx, h⟩
    refine ⟨x, hx, ?_⟩
    unfold MOM
    rw [if_pos (hr x hx)]
    exact FL_mem.mpr ⟨m, hm, h, rfl⟩
theorem opens_FL (M : List Int) (n : Nat) : room_Open.opens M n = FL (fun m => !decide ((m : Int) ∈ M)) n := by
  induction n with
  | zero => rfl
  | succ n ih =>
    rw [FL_succ, room_Open.opens, ih]
    by_cases h : (n : Int) ∈ M
    · rw [if_pos h, if_neg (by simp [h])]
    · rw [if_neg h, if_pos (by simp [h])]
theorem room_Open_f {n : ByteArray} {s r2 : Int} (hl : GW l) : Ev (fun k => room_Open.f k g0 g1 g2 n s r2 l) (if RRM g0 g1 g2 n s l then OPN l g0 g1 g2 else []) := by
  unfold room_Open.f
  simp only [room_Right_f hl, Option.bind_some, decide_eq_true_eq]
  by_cases h : RRM g0 g1 g2 n s l
  · simp only [if_pos h]
    refine Ev.bind (marks_ev l hl) ?_
    have hg := h.1
    have hb := NN_le hg
    have e := NN_eq hg
    have hc : ∀ x ∈ l, RTx g0 g1 g2 x := ALB_true.mp h.2.2.2.2.2
    have hab : 0 ≤ g0 * g1 ∧ g0 * g1 ≤ 140 := by
      have hg' := hg
      unfold RG at hg'
      exact ⟨Int.mul_nonneg (by omega) (by omega), Int.le_trans (Int.mul_le_mul (show g0 ≤ 20 by omega) (show g1 ≤ 7 by omega) (by omega) (by omega)) (by decide)⟩
    have hw : wrap64 ((wrap64 (g0 * g1)) * g2) = (NN g0 g1 g2 : Int) := by
      rw [w64 (n := g0 * g1) (by omega) (by omega), e, w64 (by omega) (by omega)]
    have hlen := MK_len (g0 := g0) (g1 := g1) (g2 := g2) l
    have h16 := h.2.2.2.2.1
    rw [hw, if_pos ⟨by omega, fun m hm => MK_bound hm, by omega, by omega⟩, Int.toNat_natCast, opens_FL]
    have : FL (fun m => !decide ((m : Int) ∈ MK l g0 g1 g2)) (NN g0 g1 g2) = OPN l g0 g1 g2 := by
      unfold OPN
      refine FL_congr fun m hm => ?_
      have := MK_mem hc hm
      cases hf : FREE l g1 g2 m with
      | false => rw [decide_eq_true (this.mpr hf)]; rfl
      | true => rw [decide_eq_false (fun h2 => by rw [this.mp h2] at hf; exact absurd hf (by decide))]; rfl
    rw [this]
    exact Ev.now _
  · simp only [if_neg h]
    exact Ev.now _
/-! ### The document's answer -/
theorem ref_Open_l1 (hm : l.length < 1000000) (hl : GW l) (ht : ∀ x ∈ l, RTx g0 g1 g2 x) {acc : List Int} {m : Nat} {a b c : Nat} (ha : a < 32) (hb : b < 8) {r : List Int} (hacc : acc.length < 17592186044416) (hmm : m < 1000000)
    (hP : ∀ x ∈ l, (x.f0.toNat.testBit a && x.f1.toNat.testBit b && (decide (x.f2.toNat ≤ c) && decide (c < x.f2.toNat + x.f3.toNat))) = pmx g1 g2 m x) (d : Nat) :
    ∀ (i : Nat) (inn : Bool), i ≤ l.length → l.length - i = d → Ev (fun k => horariumref11_Open.l0 k l (if (inn || (l.drop i).any (pmx g1 g2 m)) = true then acc else acc ++ [(m : Int)]) ((m + 1 : Nat) : Int) g0 g1 g2) r →
      Ev (fun k => horariumref11_Open.l1 k l acc m a b c inn i g0 g1 g2) r := by
  induction d with
  | zero =>
    intro i inn hi hd h
    obtain rfl : i = l.length := by omega
    rw [List.drop_length, List.any_nil, Bool.or_false] at h
    refine Ev.step (fun k => ?_) h
    simp only [horariumref11_Open.l1]
    rw [if_neg (by omega), w64s hmm]
    cases inn with
    | true => simp only [if_true]
    | false => simp only [Bool.false_eq_true, if_false]; rw [if_pos hacc]
  | succ d ih =>
    intro i inn hi hd h
    have hlt : i < l.length := by omega
    have hmem := rd_mem l i hlt
    have hdrop : l.drop i = rd_T38 l i :: l.drop (i + 1) := by
      rw [rd_at, List.getD_eq_getElem?_getD, List.getElem?_eq_getElem hlt]
      exact List.drop_eq_getElem_cons hlt
    rw [hdrop, List.any_cons, ← Bool.or_assoc] at h
    cases inn with
    | true =>
      refine Ev.step (fun k => ?_) (ih (i + 1) true (by omega) (by omega) h)
      simp only [horariumref11_Open.l1]
      rw [if_pos (by omega), if_pos trivial, w64s (by omega)]
    | false =>
      rw [Bool.false_or] at h
      obtain ⟨⟨a0, a1⟩, ⟨b0, b1⟩, _, _⟩ := hl _ hmem
      have htm := (ht _ hmem).2.1
      have htm' := htm
      unfold TM at htm'
      have on := On_f (wk := (rd_T38 l i).f0.toNat) (dy := (rd_T38 l i).f1.toNat) (st := (rd_T38 l i).f2.toNat) (ln := (rd_T38 l i).f3.toNat) (by omega) (by omega) (by rw [Int.toNat_of_nonneg htm'.1, Int.toNat_of_nonneg (by omega)]; exact htm) ha hb (c := c)
      rw [hP _ hmem, Int.toNat_of_nonneg a0, Int.toNat_of_nonneg b0, Int.toNat_of_nonneg htm'.1, Int.toNat_of_nonneg (show 0 ≤ (rd_T38 l i).f3 by omega)] at on
      refine Ev.step (f := fun k => (horariumref09_On.f k ((rd_T38 l i).f0) ((rd_T38 l i).f1) ((rd_T38 l i).f2) ((rd_T38 l i).f3) a b c).bind fun t => horariumref11_Open.l1 k l acc m a b c t ((i + 1 : Nat) : Int) g0 g1 g2) (fun k => ?_) (Ev.bind on (ih (i + 1) _ (by omega) (by omega) h))
      simp only [horariumref11_Open.l1]
      rw [if_pos (by omega), if_neg (by decide), if_pos (by omega), w64s (by omega)]
theorem ref_Open_l0 (hm : l.length < 1000000) (hl : GW l) (hg : RG g0 g1 g2) (ht : ∀ x ∈ l, RTx g0 g1 g2 x) (d : Nat) :
    ∀ m : Nat, m ≤ NN g0 g1 g2 → NN g0 g1 g2 - m = d → Ev (fun k => horariumref11_Open.l0 k l (FL (FREE l g1 g2) m) m g0 g1 g2) (OPN l g0 g1 g2) := by
  have hb := NN_le hg
  have e1 := NN_eq hg
  induction d with
  | zero =>
    intro m h1 h2
    obtain rfl : m = NN g0 g1 g2 := by omega
    refine Ev.step (f := fun _ => some _) (fun k => ?_) (Ev.now _)
    simp only [horariumref11_Open.l0]
    rw [ref_All_f, if_pos hg, Option.bind_some, e1, if_neg (Int.lt_irrefl _)]
    rfl
  | succ d ih =>
    intro m h1 h2
    have hlt : m < NN g0 g1 g2 := by omega
    have next := ih (m + 1) (by omega) (by omega)
    have hg' := hg
    unfold RG at hg'
    obtain ⟨W, rfl⟩ := nat_of (show 0 ≤ g0 by omega)
    obtain ⟨D, rfl⟩ := nat_of (show 0 ≤ g1 by omega)
    obtain ⟨S, rfl⟩ := nat_of (show 0 ≤ g2 by omega)
    have eN : NN (W : Int) D S = W * D * S := by unfold NN; rw [Int.toNat_natCast, Int.toNat_natCast, Int.toNat_natCast]
    have hlt2 : m < W * D * S := by rw [← eN]; exact hlt
    have q1 : m / S < W * D := Nat.div_lt_of_lt_mul (by rw [Nat.mul_comm]; exact hlt2)
    have q2 : m / S / D < W := Nat.div_lt_of_lt_mul (by rw [Nat.mul_comm]; exact q1)
    have q3 : m / S % D < D := Nat.mod_lt _ (by omega)
    have hacc := FL_len (FREE l D S) m
    refine Ev.step (f := fun k => horariumref11_Open.l1 k l (FL (FREE l D S) m) m ((m / S / D : Nat) : Int) ((m / S % D : Nat) : Int) ((m % S : Nat) : Int) false ((0 : Nat) : Int) W D S) (fun k => ?_) (ref_Open_l1 hm hl ht (by omega) (by omega) (by omega) (by omega) (fun x _ => by unfold pmx pm qb; rw [Int.toNat_natCast, Int.toNat_natCast]) _ 0 false (Nat.zero_le _) rfl ?_)
    · simp only [horariumref11_Open.l0]
      rw [ref_All_f, if_pos hg, Option.bind_some, e1, if_pos (by omega), Of_f hg hlt2, Option.bind_some]
      rfl
    · rw [FL_succ] at next
      rw [Bool.false_or, List.drop_zero]
      unfold FREE at next ⊢
      cases hf : l.any (pmx D S m) with
      | true => rw [hf] at next; exact next
      | false => rw [hf] at next; exact next
theorem ref_Open_f (hm : l.length < 1000000) (hl : GW l) (hg : RG g0 g1 g2) (ht : ∀ x ∈ l, RTx g0 g1 g2 x) : Ev (fun k => horariumref11_Open.f k g0 g1 g2 l) (OPN l g0 g1 g2) := ref_Open_l0 hm hl hg ht _ 0 (Nat.zero_le _) rfl
end
/-! ### Whom a room fits -/
theorem fits_nat {A B : Nat} (hb : B < 2 ^ 16) (ha : A < 2 ^ 16) : B &&& (65535 - A) = 0 ↔ A &&& B = B := by
  have key : ∀ i, (65535 - A).testBit i = (decide (i < 16) && !A.testBit i) := by
    intro i
    have := Nat.testBit_two_pow_sub_succ ha i
    rw [← this]
    congr 1
    omega
  constructor
  · intro h
    refine Nat.eq_of_testBit_eq fun i => ?_
    have h1 := congrArg (fun x => x.testBit i) h
    simp only [Nat.testBit_and, key, Nat.zero_testBit] at h1
    rw [Nat.testBit_and]
    by_cases hi : i < 16
    · rw [decide_eq_true hi, Bool.true_and] at h1
      cases hA : A.testBit i <;> cases hB : B.testBit i <;> simp_all
    · have : B.testBit i = false := Nat.testBit_lt_two_pow (Nat.lt_of_lt_of_le hb (Nat.pow_le_pow_right (by decide) (by omega)))
      rw [this, Bool.and_false]
  · intro h
    refine Nat.eq_of_testBit_eq fun i => ?_
    have h1 := congrArg (fun x => x.testBit i) h
    simp only [Nat.testBit_and] at h1
    rw [Nat.testBit_and, key, Nat.zero_testBit]
    cases hA : A.testBit i <;> cases hB : B.testBit i <;> simp_all
theorem fits_eq {a b : Int} (ha : 0 ≤ a ∧ a < 65536) (hb : 0 ≤ b ∧ b < 65536) : ((Go.bits .andNot .u16 b a) == 0) = ((Go.bits .and .u16 a b) == b) := by
  rw [Go.u16_andNot b a hb.1 hb.2 ha.1 ha.2, Go.u16_and a b ha.1 ha.2 hb.1 hb.2]
  have := fits_nat (A := a.toNat) (B := b.toNat) (by omega) (by omega)
  refine Bool.eq_iff_iff.mpr ?_
  rw [beq_iff_eq, beq_iff_eq]
  omega
theorem fits_f {n : ByteArray} {s g z q : Int} {l : List S38} (ha : 0 ≤ g ∧ g < 65536) (hb : 0 ≤ q ∧ q < 65536) : room_Fits.f n s g l z q = horariumref11_Fits.f n s g l z q := by
  unfold room_Fits.f horariumref11_Fits.f
  rw [fits_eq ha hb]
end Go.Proofs.Ytdbbmnhaiejnjaa.L4
