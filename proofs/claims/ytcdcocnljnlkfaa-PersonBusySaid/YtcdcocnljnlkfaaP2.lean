/- person.slots, person.Busy and person.Spread over rows; plain. -/
import Derived.Test.YtcdcocnljnlkfaaQ10
import Derived.Test.YtcdcocnljnlkfaaQ11
import Derived.Test.YtcdcocnljnlkfaaQ8
import Derived.Test.YtcdcocnljnlkfaaQ9
import Derived.Test.YtcdcocnljnlkfaaP1
import Derived.Test.YtcdcocnljnlkfaaL1
import Derived.Test.YtcdcocnljnlkfaaL2a
import Derived.Test.YtcdcocnljnlkfaaW2a
import Derived.Test.YtcdcocnljnlkfaaW4
set_option linter.unusedVariables false
set_option linter.unusedSimpArgs false
namespace Go.Proofs.Ytcdcocnljnlkfaa.P2
open Go.RowKit Go.Proofs.YtcdcocnljnlkfaaW.PrintWords Go.Proofs.YtcdcocnljnlkfaaW.PrintLast Go.Proofs.YtcdcocnljnlkfaaW.PrintMore Go.Proofs.Ytcdcocnljnlkfaa.M Go.Proofs.Ytcdcocnljnlkfaa.Q Go.Proofs.Ytcdcocnljnlkfaa.L1 Go.Proofs.Ytcdcocnljnlkfaa.L2 Go.Proofs.Ytcdcocnljnlkfaa.P1 Go.Proofs.Ytcdcocnljnlkfaa.W1 Go.Proofs.Ytcdcocnljnlkfaa.W2 Go.Proofs.Ytcdcocnljnlkfaa.W4
def GV (l : List S27) : Prop := ∀ x ∈ l, (0 ≤ x.f0 ∧ x.f0 < 4294967296) ∧ (0 ≤ x.f1 ∧ x.f1 < 256) ∧ (-9223372036854775808 ≤ x.f3 ∧ x.f3 ≤ 9223372036854775807)
abbrev MOMx (g0 g1 g2 : Int) (x : S27) : List Int := MOM g0 g1 g2 x.f0 x.f1 x.f2 x.f3
/-- Is a moment in one of some times? -/
def HIT (l : List S27) (g0 g1 g2 : Int) (m : Nat) : Bool := l.any fun x => decide ((m : Int) ∈ MOMx g0 g1 g2 x)
def NB (g0 g1 g2 : Int) : Nat := g0.toNat * g1.toNat * g2.toNat
theorem MOM_bound {g0 g1 g2 w0 w1 w2 w3 m : Int} (h : m ∈ MOM g0 g1 g2 w0 w1 w2 w3) : 0 ≤ m ∧ m < NB g0 g1 g2 := by
  unfold MOM at h
  split at h
  · obtain ⟨j, hj, _, rfl⟩ := FL_mem.mp h
    unfold NB
    omega
  · simp at h
theorem MOM_small {g0 g1 g2 w0 w1 w2 w3 : Int} : (MOM g0 g1 g2 w0 w1 w2 w3).length ≤ 13440 := by
  unfold MOM
  split
  · rename_i h
    have hg := h.1
    unfold RG at hg
    exact Nat.le_trans (FL_len _ _) (Nat.mul_le_mul (Nat.mul_le_mul (show g0.toNat ≤ 20 by omega) (show g1.toNat ≤ 7 by omega)) (show g2.toNat ≤ 96 by omega))
  · simp
section
variable {W D S : Nat} {l : List S27}
theorem slots_l2 (hS : 0 < S) (hN : W * D * S ≤ 13440) {ms : List Int} (hms : ∀ m ∈ ms, 0 ≤ m ∧ m < (W * D * S : Nat)) (hlen : ms.length < 1000000) {i : Nat} {p : Nat → Bool} (hl : l.length < 1000000) (hi : i < l.length) (r : List (List Bool))
    (h : Ev (fun k => person_slots.l1 k (ROWS (fun x => p x || decide ((x : Int) ∈ ms)) S (W * D)) l (l.length : Int) ((i + 1 : Nat) : Int) W D S) r) :
    Ev (fun k => person_slots.l2 k (ROWS p S (W * D)) l (l.length : Int) i ms (ms.length : Int) 0 W D S) r := by
  have key := loop_inv (L := fun k (rows : List (List Bool)) (j : Int) => person_slots.l2 k rows l (l.length : Int) i ms (ms.length : Int) j W D S) (n := ms.length)
    (fun j => ROWS (fun x => p x || decide ((x : Int) ∈ ms.take j)) S (W * D)) ?_ r ?_
  · have e : ROWS (fun x => p x || decide ((x : Int) ∈ ms.take 0)) S (W * D) = ROWS p S (W * D) := ROWS_congr fun m _ => by simp
    simp only [e] at key
    exact key
  · intro j hj r h
    have hget : rd ms (j : Int) = ms[j] := by rw [rd_nat, List.getD_eq_getElem?_getD, List.getElem?_eq_getElem hj]; rfl
    obtain ⟨h0, h1⟩ := hms _ (List.getElem_mem hj)
    obtain ⟨m, hm⟩ := nat_of h0
    have hmlt : m < W * D * S := by omega
    have q1 : m / S < W * D := Nat.div_lt_of_lt_mul (by rw [Nat.mul_comm]; exact hmlt)
    have q2 : m % S < S := Nat.mod_lt _ hS
    have q3 : m / S ≤ m := Nat.div_le_self _ _
    have t3 := Aside0.mk (w64n (m / S) (by omega))
    have t1 := Aside0.mk (show Int.tdiv (m : Int) S = ((m / S : Nat) : Int) by rw [Int.tdiv_eq_ediv_of_nonneg (Int.natCast_nonneg _)]; rfl)
    have t2 := Aside0.mk (show Int.tmod (m : Int) S = ((m % S : Nat) : Int) by rw [Int.tmod_eq_emod_of_nonneg (Int.natCast_nonneg _)]; rfl)
    have tj := Aside0.mk (w64s (n := j) (by omega))
    have e : (ROWS (fun x => p x || decide ((x : Int) ∈ ms.take j)) S (W * D)).set (m / S) ((ROW (fun x => p x || decide ((x : Int) ∈ ms.take j)) S (m / S)).set (m % S) true) = ROWS (fun x => p x || decide ((x : Int) ∈ ms.take (j + 1))) S (W * D) := by
      rw [ROWS_set hS hmlt]
      refine ROWS_congr fun x _ => ?_
      rw [Bool.or_assoc]
      congr 1
      rw [List.take_add_one, List.getElem?_eq_getElem hj, hm]
      refine Bool.eq_iff_iff.mpr ?_
      simp only [Bool.or_eq_true, decide_eq_true_eq, Option.toList_some, List.mem_append, List.mem_singleton, Int.natCast_inj]
    refine Ev.step (fun k => ?_) h
    simp only [person_slots.l2]
    rw [hget, hm, t1.out, t2.out, t3.out, ROWS_at q1, ROWS_len, ROW_len, tj.out]
    simp only [Int.toNat_natCast, e]
    rw [if_pos (by omega), if_pos (by omega), if_pos (by omega), if_neg (by omega), if_pos (Int.natCast_nonneg _), if_pos (Int.ofNat_lt.mpr q1), if_pos (Int.natCast_nonneg _), if_pos (Int.ofNat_lt.mpr q2)]
  · have e : ROWS (fun x => p x || decide ((x : Int) ∈ ms.take ms.length)) S (W * D) = ROWS (fun x => p x || decide ((x : Int) ∈ ms)) S (W * D) := by rw [List.take_length]
    refine Ev.step (fun k => ?_) h
    simp only [person_slots.l2, e]
    rw [if_neg (by omega), w64s (by omega)]
theorem slots_l1 (hg : RG W D S) (hN : W * D * S ≤ 13440) (hl : l.length < 1000000) (hv : GV l) : Ev (fun k => person_slots.l1 k (ROWS (fun _ => false) S (W * D)) l (l.length : Int) 0 W D S) (ROWS (HIT l W D S) S (W * D)) := by
  have hg' := hg
  unfold RG at hg'
  have key := loop_inv (L := fun k (rows : List (List Bool)) (i : Int) => person_slots.l1 k rows l (l.length : Int) i W D S) (n := l.length)
    (fun i => ROWS (HIT (l.take i) W D S) S (W * D)) ?_ (ROWS (HIT l W D S) S (W * D)) ?_
  · have e : ROWS (HIT (l.take 0) W D S) S (W * D) = ROWS (fun _ => false) S (W * D) := ROWS_congr fun m _ => by simp [HIT]
    simp only [e] at key
    exact key
  · intro i hi r h
    have hmem : rd_T27 l i ∈ l := by rw [rd_at, List.getD_eq_getElem?_getD, List.getElem?_eq_getElem hi]; exact List.getElem_mem hi
    have e : ROWS (fun x => HIT (l.take i) W D S x || decide ((x : Int) ∈ MOMx W D S (rd_T27 l i))) S (W * D) = ROWS (HIT (l.take (i + 1)) W D S) S (W * D) := by
      refine ROWS_congr fun x _ => ?_
      unfold HIT
      rw [List.take_add_one, List.getElem?_eq_getElem hi, List.any_append, rd_at, List.getD_eq_getElem?_getD, List.getElem?_eq_getElem hi]
      simp
    rw [← e] at h
    have h2 := slots_l2 (by omega) hN (fun m hm => by have := MOM_bound hm; unfold NB at this; simp only [Int.toNat_natCast] at this; exact this) (Nat.lt_of_le_of_lt MOM_small (by decide)) hl hi r h
    refine Ev.step (f := fun k => (when_Moments.f k W D S ((rd_T27 l i).f0) ((rd_T27 l i).f1) ((rd_T27 l i).f2) ((rd_T27 l i).f3)).bind fun t => person_slots.l2 k (ROWS (HIT (l.take i) W D S) S (W * D)) l (l.length : Int) i t (t.length : Int) 0 W D S) (fun k => ?_) (Ev.bind (when_Moments_f (hv _ hmem).1 (hv _ hmem).2.1) h2)
    simp only [person_slots.l1]
    rw [if_pos (by omega), if_pos (by omega), if_pos (by omega)]
  · refine Ev.step (f := fun _ => some (ROWS (HIT l W D S) S (W * D))) (fun k => ?_) (Ev.now _)
    simp only [person_slots.l1]
    rw [if_neg (by omega), List.take_length]
theorem slots_l0 (hg : RG W D S) (hN : W * D * S ≤ 13440) (hN2 : W * D ≤ 140) {r : List (List Bool)} (h : Ev (fun k => person_slots.l1 k (ROWS (fun _ => false) S (W * D)) l (l.length : Int) 0 W D S) r) :
    Ev (fun k => person_slots.l0 k l (List.replicate (W * D) []) ((W * D : Nat) : Int) 0 W D S) r := by
  have hg' := hg
  unfold RG at hg'
  have key := loop_inv (L := fun k (rows : List (List Bool)) (i : Int) => person_slots.l0 k l rows ((W * D : Nat) : Int) i W D S) (n := W * D)
    (fun i => List.replicate i (List.replicate S false) ++ List.replicate (W * D - i) ([] : List Bool)) ?_ r ?_
  · simp only [List.replicate_zero, List.nil_append, Nat.sub_zero] at key
    exact key
  · intro i hi r h
    have e : (List.replicate i (List.replicate S false) ++ List.replicate (W * D - i) ([] : List Bool)).set i (List.replicate S false) = List.replicate (i + 1) (List.replicate S false) ++ List.replicate (W * D - (i + 1)) ([] : List Bool) := by
      rw [List.set_append_right _ _ (by simp), List.length_replicate, Nat.sub_self]
      obtain ⟨q, hq⟩ : ∃ q, W * D - i = q + 1 := ⟨W * D - i - 1, by omega⟩
      rw [hq, List.replicate_succ, List.set_cons_zero, show W * D - (i + 1) = q by omega, List.replicate_succ', List.append_assoc]
      rfl
    refine Ev.step (fun k => ?_) h
    simp only [person_slots.l0, List.length_append, List.length_replicate, Int.toNat_natCast, e]
    rw [if_pos (by omega), if_pos (by omega), if_pos (by omega), if_pos (by omega), if_pos (by omega), w64s (by omega)]
  · refine Ev.step (fun k => ?_) h
    simp only [person_slots.l0, Nat.sub_self, List.replicate_zero, List.append_nil]
    rw [if_neg (by omega), ROWS_false]
end
/-- The days' slots. -/
def SLO (l : List S27) (g0 g1 g2 : Int) : List (List Bool) := if RG g0 g1 g2 then ROWS (HIT l g0 g1 g2) g2.toNat (g0.toNat * g1.toNat) else []
theorem slots_f {l : List S27} {g0 g1 g2 : Int} (hl : l.length < 1000000) (hv : GV l) : Ev (fun k => person_slots.f k g0 g1 g2 l) (SLO l g0 g1 g2) := by
  unfold person_slots.f SLO
  simp only [when_RightGrid_f, Option.bind_some, decide_eq_true_eq]
  by_cases hg : RG g0 g1 g2
  · simp only [if_pos hg]
    have hg' := hg
    unfold RG at hg'
    obtain ⟨W, rfl⟩ := nat_of (show 0 ≤ g0 by omega)
    obtain ⟨D, rfl⟩ := nat_of (show 0 ≤ g1 by omega)
    obtain ⟨S, rfl⟩ := nat_of (show 0 ≤ g2 by omega)
    have h2 : W * D ≤ 140 := Nat.le_trans (Nat.mul_le_mul (show W ≤ 20 by omega) (show D ≤ 7 by omega)) (by decide)
    have h3 : W * D * S ≤ 13440 := Nat.le_trans (Nat.mul_le_mul h2 (show S ≤ 96 by omega)) (by decide)
    have hw : wrap64 ((W : Int) * D) = ((W * D : Nat) : Int) := by rw [← Int.natCast_mul]; exact w64n _ (by omega)
    simp only [hw, Int.toNat_natCast, List.length_replicate]
    simp only [if_pos (show (0 : Int) ≤ ((W * D : Nat) : Int) by omega), if_pos (show W * D ≤ 11728124029610 by omega)]
    exact slots_l0 hg h3 h2 (slots_l1 hg h3 hl hv)
  · simp only [if_neg hg]
    exact Ev.now _
/-! ### Busy and Spread over the rows -/
theorem Busy_l1 {p : Nat → Bool} {S d : Nat} {acc : List Int} {rows : List (List Bool)} {n : Int} (hS : S < 1000000) (hd : d < 1000000) (hacc : acc.length < 17592186044416) (r : List Int)
    (h : Ev (fun k => person_Busy.l0 k (acc ++ [((CN (fun s => p (d * S + s)) S : Nat) : Int)]) rows n ((d + 1 : Nat) : Int)) r) :
    Ev (fun k => person_Busy.l1 k acc 0 rows n d (ROW p S d) (S : Int) 0) r := by
  refine loop_inv (L := fun k (c : Int) (s : Int) => person_Busy.l1 k acc c rows n d (ROW p S d) (S : Int) s) (n := S) (fun s => ((CN (fun s => p (d * S + s)) s : Nat) : Int)) ?_ r ?_
  · intro s hs r h
    have hc := CN_le (fun s => p (d * S + s)) s
    refine Ev.step (fun k => ?_) h
    simp only [person_Busy.l1]
    rw [ROW_len, if_pos (by omega), if_pos (by omega), if_pos (by omega), ROW_at hs, w64s (by omega), w64s (by omega)]
    rw [CN]
    cases p (d * S + s) with
    | true => simp
    | false => simp
  · refine Ev.step (fun k => ?_) h
    simp only [person_Busy.l1]
    rw [if_neg (by omega), if_pos hacc, w64s hd]
theorem Busy_rows {p : Nat → Bool} {S n : Nat} (hS : S < 1000000) (hn : n < 1000000) : Ev (fun k => person_Busy.l0 k [] (ROWS p S n) (n : Int) 0) ((List.range n).map fun d => ((CN (fun s => p (d * S + s)) S : Nat) : Int)) := by
  refine loop_inv (L := fun k (acc : List Int) (d : Int) => person_Busy.l0 k acc (ROWS p S n) (n : Int) d) (n := n) (fun d => (List.range d).map fun d => ((CN (fun s => p (d * S + s)) S : Nat) : Int)) ?_ _ ?_
  · intro d hd r h
    rw [List.range_succ, List.map_append] at h
    refine Ev.step (fun k => ?_) (Busy_l1 hS (by omega) (by simp; omega) r h)
    simp only [person_Busy.l0]
    rw [ROWS_len, if_pos (by omega), if_pos (by omega), if_pos (by omega), ROWS_at hd, ROW_len]
  · refine Ev.step (f := fun _ => some _) (fun k => ?_) (Ev.now _)
    simp only [person_Busy.l0]
    rw [if_neg (by omega)]
theorem Index_row {p : Nat → Bool} {S d : Nat} (hS : S < 1000000) : Ev (fun k => slices_Index_bool_bool.f k (ROW p S d) true) (FS (fun s => p (d * S + s)) S) := by
  have key := loop_first (L := fun k i => slices_Index_bool_bool.l0 k (ROW p S d) true (S : Int) i) (n := S) (P := fun s => p (d * S + s) = true) (re := (-1 : Int)) (rb := fun m => (m : Int)) ?_ ?_ ?_
  · have e : Ev (fun k => slices_Index_bool_bool.l0 k (ROW p S d) true (S : Int) 0) (FS (fun s => p (d * S + s)) S) := by
      rcases FS_facts (fun s => p (d * S + s)) S with ⟨h1, h2, h3, h4⟩ | ⟨h1, h2, h3, h4, h5, h6, h7, h8⟩
      · rw [h1]
        exact key.1 fun i hi => by rw [h4 i hi]; decide
      · have := key.2 (FS (fun s => p (d * S + s)) S).toNat (by omega) h4 fun i hi hp => by
          have := (h8 i (by omega) hp).1
          omega
        rw [Int.toNat_of_nonneg h1] at this
        exact this
    refine Ev.congr (fun k => ?_) e
    unfold slices_Index_bool_bool.f
    rw [ROW_len]
  · intro s hs hp r h
    refine Ev.step (fun k => ?_) h
    simp only [slices_Index_bool_bool.l0]
    rw [ROW_len, if_pos (by omega), if_pos (by omega), if_pos (by omega), ROW_at hs, if_neg (by simp [hp]), w64s (by omega)]
  · intro s hs hp
    refine Ev.step (fun k => ?_) (Ev.now _)
    simp only [slices_Index_bool_bool.l0]
    rw [ROW_len, if_pos (by omega), if_pos (by omega), if_pos (by omega), ROW_at hs, if_pos (by simp [hp])]
  · refine Ev.step (fun k => ?_) (Ev.now _)
    simp only [slices_Index_bool_bool.l0]
    rw [if_neg (by omega)]
def SK (r : Nat → Bool) (F : Int) (n : Nat) : Int := if LS r n < 0 then 0 else LS r n - F + 1
theorem SK_SP (r : Nat → Bool) (n : Nat) : SK r (FS r n) n = SP r n := by
  unfold SK SP
  rcases FS_facts r n with ⟨h1, h2, h3, h4⟩ | ⟨h1, h2, h3, h4, h5, h6, h7, h8⟩
  · rw [if_pos (by omega)]; omega
  · rw [if_neg (by omega)]; omega
theorem Spread_l1 {p : Nat → Bool} {S d : Nat} {acc : List Int} {rows : List (List Bool)} {n : Int} {F : Int} (hF : -1 ≤ F ∧ F < 1000000) (hS : S < 1000000) (hd : d < 1000000) (hacc : acc.length < 17592186044416) (r : List Int)
    (h : Ev (fun k => person_Spread.l0 k (acc ++ [SK (fun s => p (d * S + s)) F S]) rows n ((d + 1 : Nat) : Int)) r) :
    Ev (fun k => person_Spread.l1 k acc F 0 rows n d (ROW p S d) (S : Int) 0) r := by
  refine loop_inv (L := fun k (c : Int) (s : Int) => person_Spread.l1 k acc F c rows n d (ROW p S d) (S : Int) s) (n := S) (fun s => SK (fun s => p (d * S + s)) F s) ?_ r ?_
  · intro s hs r h
    refine Ev.step (fun k => ?_) h
    simp only [person_Spread.l1]
    rw [ROW_len, if_pos (by omega), if_pos (by omega), if_pos (by omega), ROW_at hs, w64s (by omega), w64 (n := (s : Int) - F) (by omega) (by omega), w64 (n := (s : Int) - F + 1) (by omega) (by omega)]
    cases hp : p (d * S + s) with
    | true =>
      have : SK (fun s => p (d * S + s)) F (s + 1) = s - F + 1 := by unfold SK; simp only [LS, hp, if_true]; rw [if_neg (by omega)]
      rw [this]; simp
    | false =>
      have : SK (fun s => p (d * S + s)) F (s + 1) = SK (fun s => p (d * S + s)) F s := by unfold SK; simp only [LS, hp, Bool.false_eq_true, if_false]
      rw [this]; simp
  · refine Ev.step (fun k => ?_) h
    simp only [person_Spread.l1]
    rw [if_neg (by omega), if_pos hacc, w64s hd]
theorem Spread_rows {p : Nat → Bool} {S n : Nat} (hS : S < 1000000) (hn : n < 1000000) : Ev (fun k => person_Spread.l0 k [] (ROWS p S n) (n : Int) 0) ((List.range n).map fun d => SP (fun s => p (d * S + s)) S) := by
  refine loop_inv (L := fun k (acc : List Int) (d : Int) => person_Spread.l0 k acc (ROWS p S n) (n : Int) d) (n := n) (fun d => (List.range d).map fun d => SP (fun s => p (d * S + s)) S) ?_ _ ?_
  · intro d hd r h
    rw [List.range_succ, List.map_append, List.map_singleton, ← SK_SP] at h
    have hF : -1 ≤ FS (fun s => p (d * S + s)) S ∧ FS (fun s => p (d * S + s)) S < 1000000 := by
      rcases FS_facts (fun s => p (d * S + s)) S with ⟨h1, _⟩ | ⟨h1, h2, h3, _⟩ <;> omega
    have h2 := Spread_l1 (rows := ROWS p S n) (n := (n : Int)) hF hS (by omega) (by simp; omega) r h
    refine Ev.step (f := fun k => (slices_Index_bool_bool.f k (ROW p S d) true).bind fun t => person_Spread.l1 k ((List.range d).map fun d => SP (fun s => p (d * S + s)) S) t 0 (ROWS p S n) (n : Int) d (ROW p S d) (S : Int) 0) (fun k => ?_) (Ev.bind (Index_row hS) h2)
    simp only [person_Spread.l0]
    rw [ROWS_len, if_pos (by omega), if_pos (by omega), if_pos (by omega), ROWS_at hd, ROW_len]
  · refine Ev.step (f := fun _ => some _) (fun k => ?_) (Ev.now _)
    simp only [person_Spread.l0]
    rw [if_neg (by omega)]
/-- How busy, and how long, each day is. -/
def BUSY (l : List S27) (g0 g1 g2 : Int) : List Int := if RG g0 g1 g2 then (List.range (g0.toNat * g1.toNat)).map fun d => ((CN (fun s => HIT l g0 g1 g2 (d * g2.toNat + s)) g2.toNat : Nat) : Int) else []
def SPREAD (l : List S27) (g0 g1 g2 : Int) : List Int := if RG g0 g1 g2 then (List.range (g0.toNat * g1.toNat)).map fun d => SP (fun s => HIT l g0 g1 g2 (d * g2.toNat + s)) g2.toNat else []
theorem RG_nat {g0 g1 g2 : Int} (hg : RG g0 g1 g2) : g0.toNat * g1.toNat ≤ 140 ∧ g2.toNat ≤ 96 := by
  unfold RG at hg
  exact ⟨Nat.le_trans (Nat.mul_le_mul (show g0.toNat ≤ 20 by omega) (show g1.toNat ≤ 7 by omega)) (by decide), by omega⟩
theorem Busy_f {l : List S27} {g0 g1 g2 : Int} (hl : l.length < 1000000) (hv : GV l) : Ev (fun k => person_Busy.f k g0 g1 g2 l) (BUSY l g0 g1 g2) := by
  unfold person_Busy.f BUSY
  refine Ev.bind (slots_f hl hv) ?_
  unfold SLO
  by_cases hg : RG g0 g1 g2
  · obtain ⟨h1, h2⟩ := RG_nat hg
    simp only [if_pos hg, ROWS_len]
    exact Busy_rows (by omega) (by omega)
  · simp only [if_neg hg]
    refine Ev.step (fun k => ?_) (Ev.now _)
    simp [person_Busy.l0]
theorem Spread_f {l : List S27} {g0 g1 g2 : Int} (hl : l.length < 1000000) (hv : GV l) : Ev (fun k => person_Spread.f k g0 g1 g2 l) (SPREAD l g0 g1 g2) := by
  unfold person_Spread.f SPREAD
  refine Ev.bind (slots_f hl hv) ?_
  unfold SLO
  by_cases hg : RG g0 g1 g2
  · obtain ⟨h1, h2⟩ := RG_nat hg
    simp only [if_pos hg, ROWS_len]
    exact Spread_rows (by omega) (by omega)
  · simp only [if_neg hg]
    refine Ev.step (fun k => ?_) (Ev.now _)
    simp [person_Spread.l0]
end Go.Proofs.Ytcdcocnljnlkfaa.P2
