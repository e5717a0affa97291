/- slices.Concat at times. -/
import Derived.Test.YtcdcocnljnlkfaaQ0
import Derived.WalkSpells
namespace Go.Proofs.Ytcdcocnljnlkfaa.Q
open Go.RowKit Go.Proofs.YtcdcocnljnlkfaaW.PrintWords Go.Proofs.YtcdcocnljnlkfaaW.PrintLast Go.Proofs.YtcdcocnljnlkfaaW.PrintMore
set_option linter.unusedVariables false
set_option linter.unusedSimpArgs false
/-- slices.Grow of nothing: an own row of no length. -/
def slices_Grow.f (n : Int) : Option (List S27) := if 0 ≤ n ∧ n < 1000000 then some [] else none
set_option maxHeartbeats 2000000 in
theorem slices_Grow.calls (n : Int) (w : World) (h0 : 0 ≤ n) (h1 : n < 1000000) :
    Calls Try.prog 64 #[.slice none 0 0, .int .i64 n] w fun e w' => ∃ v0_ : Value, e = .returned v0_ ∧ Kd.R k27 27 w' w.heap.size (fun _ => True) v0_ [] ∧ Below w.heap.size w w' := by
  have hw0 : wrap64 n = n := by unfold wrap64; omega
  have HW := Aside0.mk hw0
  have HB := Aside0.mk (Below.refl w.heap.size w)
  have HN : Aside0 (0 ≤ n ∧ n < 1000000) := ⟨⟨h0, h1⟩⟩
  by_cases hp : 0 < n
  · have hn : ¬ n < 0 := by omega
    have hq : 0 < wrap64 n := by omega
    clear h0 h1 hw0 hp
    go_enter Try.func64, Try.ntmps64
    go_wp2_with (first | ((with_reducible refine gate_builtin (b := .append) (xs := #[.tmp 20, .tmp 21]) rfl ?_); at_builtin; go_loud (refine Kd.R_append_zeros k27 (w0 := w) w.heap.size rfl (.tmp 20) (.tmp 21) 22 3 27 (.agg #[(.int .u32 0), (.int .u8 0), (.int .i64 0), (.int .i64 0)]) 24 rfl Try.underlying22 Try.underlying3 info27 rfl (by decide) (by omega) (.slice none 0 0) [] z27 (wrap64 n) (fun _ => True) rfl rfl ?hz (fun _ _ => trivial) (Kd.R_nil _ _ _ _ _) (by rw [HW.out]; exact HN.out.1) HB.out (Nat.le_refl _) ?hl ?_; (case hz => exact k27_mkM _ _ _ z27); (case hl => have := HN.out; simp only [List.length_nil, HW.out]; omega); intro v1 w1 ho hb hg hat; obtain ⟨A1, c1, hv1, hl1, hr1⟩ := Kd.R_reads ho; subst hv1; have HO1 := Aside0.mk ho; have HB1 := Aside0.mk hb; clear ho hb hg hat hr1)))
    go_ret
    exact ⟨_, rfl, Kd.R_take HO1.out (Nat.zero_le _), HB1.out⟩
  · obtain rfl : n = 0 := by omega
    clear h0 h1 hp hw0
    go_enter Try.func64, Try.ntmps64
    go_wp2
    go_ret
    exact ⟨_, rfl, Kd.R_nil _ _ _ _ _, Below.refl _ _⟩
/-! ### The rows, one after the other -/
def slices_Concat.f (L : List (List S27)) : Option (List S27) := if L.length < 1000000 ∧ L.flatten.length < 1000000 then some L.flatten else none
def rowAt (xs : List (List S27)) (i : Int) : List S27 := xs.getD i.toNat ([] : List S27)
theorem at_LW {w : World} {A : Option Addr} {n : Nat} {xs : List (List S27)} (h : Kd.C (Kd.slice 27 k27) w A n xs) (i : Int) (h0 : 0 ≤ i) (h1 : i < n) : ∃ ad A0 c0, A = some ad ∧ w.cell? (ad.add i.toNat) = some (.slice A0 (rowAt xs i).length c0) ∧ (rowAt xs i).length ≤ c0 ∧ k27.C w A0 (rowAt xs i).length (rowAt xs i) := by
  obtain ⟨ad, c, e, _, hK, hc0⟩ := Kd.C_get h ([] : List S27) i h0 h1
  have hc : ∀ j u, c[j]? = some u → w.cell? (ad.add (i.toNat * 1 + j)) = some u := hc0
  obtain ⟨A0, c0, rfl, l0, g0⟩ := hK
  exact ⟨ad, A0, c0, e, by have hq := hc 0 _ rfl; rwa [Nat.mul_one, Nat.add_zero] at hq, l0, g0⟩
theorem take_flat (L : List (List S27)) (i : Int) (h0 : 0 ≤ i) (h1 : i < (L.length : Int)) : (L.take (i + 1).toNat).flatten = (L.take i.toNat).flatten ++ rowAt L i := by
  have e : (i + 1).toNat = i.toNat + 1 := by omega
  have h2 : i.toNat < L.length := by omega
  rw [e, List.take_add_one, List.flatten_append, List.getElem?_eq_getElem h2]
  unfold rowAt
  rw [List.getD_eq_getElem?_getD, List.getElem?_eq_getElem h2]
  simp
theorem take_flat_len (L : List (List S27)) (n : Nat) : (L.take n).flatten.length ≤ L.flatten.length := by
  have h := congrArg (fun l => (List.flatten l).length) (List.take_append_drop n L)
  simp only [List.flatten_append, List.length_append] at h
  omega
/-- The length of the first rows. -/
def totAt (L : List (List S27)) (i : Int) : Int := ((L.take i.toNat).flatten.length : Int)
theorem totAt_succ (L : List (List S27)) (i : Int) (h0 : 0 ≤ i) (h1 : i < (L.length : Int)) (hL : L.flatten.length < 1000000) : wrap64 (totAt L i + ((rowAt L i).length : Int)) = totAt L (i + 1) := by
  have ht := take_flat L i h0 h1
  have hl := take_flat_len L (i + 1).toNat
  unfold totAt
  rw [ht] at hl ⊢
  rw [List.length_append] at hl ⊢
  unfold wrap64
  omega
theorem totAt_pos (L : List (List S27)) (i : Int) : ¬ totAt L i < 0 := by unfold totAt; omega
theorem totAt_all (L : List (List S27)) : totAt L (L.length : Int) = (L.flatten.length : Int) := by unfold totAt; rw [Int.toNat_natCast, List.take_length]
set_option maxHeartbeats 2000000 in
theorem slices_Concat.calls (A0 : Option Addr) (c0 : Nat) (l0 : List (List S27)) (r : List S27) (w : World) (hr0 : Kd.C (Kd.slice 27 k27) w A0 l0.length l0) (hc0 : l0.length ≤ c0) (h : slices_Concat.f l0 = some r) :
    Calls Try.prog 36 #[.slice A0 l0.length c0] w fun e w' => ∃ v0_ : Value, e = .returned v0_ ∧ Kd.R k27 27 w' w.heap.size (fun _ => True) v0_ r ∧ Below w.heap.size w w' := by
  unfold slices_Concat.f at h
  by_cases hl : l0.length < 1000000 ∧ l0.flatten.length < 1000000
  · rw [if_pos hl] at h
    obtain rfl := Option.some.inj h
    clear h
    have HR := Aside0.mk hr0
    have HL := Aside0.mk hl
    have HB0 := Aside0.mk (Below.refl w.heap.size w)
    clear hr0 hl
    go_enter Try.func36, Try.ntmps36
    go_wp2_with fail
    go_loopg [3, 11] l0.length (fun gg s3 s11 wr => ∃ i : Int, 0 ≤ i ∧ i ≤ l0.length ∧ (l0.length - i).toNat ≤ gg ∧ s3 = .int .i64 (totAt l0 i) ∧ s11 = .int .i64 i ∧ w = wr)
    case atStart => exact ⟨0, Int.le_refl _, by omega, by omega, by simp [totAt], rfl, rfl⟩
    case round =>
      obtain ⟨i, i0, ile, ig, rfl, rfl, rfl⟩ := hrel
      by_cases hlt : i < (l0.length : Int)
      · obtain ⟨ad, Ar, cr, eA, hcell, hcap, hC⟩ := at_LW HR.out i i0 hlt
        cases eA
        have HS := Aside0.mk (totAt_succ l0 i i0 hlt HL.out.2)
        have hn : ¬ wrap64 (totAt l0 i + ((rowAt l0 i).length : Int)) < 0 := by rw [HS.out]; exact totAt_pos _ _
        clear hC
        go_wp2
        go_roundg (l0.length - (i + 1)).toNat
        case measure => omega
        case rel => exact ⟨i + 1, by omega, by omega, Nat.le_refl _, by rw [HS.out], by have := HL.out; unfold wrap64; congr 1; omega, rfl⟩
      · obtain rfl : i = (l0.length : Int) := by omega
        have hT := Aside0.mk (totAt_all l0)
        go_wp2_with (go_at_call 64; refine (slices_Grow.calls _ _ (by rw [hT.out]; omega) (by have := HL.out; rw [hT.out]; omega)).mono ?_; rintro e w1 ⟨v0, rfl, ho, hb1⟩; have HO := Aside0.mk ho; have HB := Aside0.mk hb1; clear ho hb1)
        go_loopg [6, 27] l0.length (fun gg v6 s27 wq => ∃ j : Int, 0 ≤ j ∧ j ≤ l0.length ∧ (l0.length - j).toNat ≤ gg ∧ s27 = .int .i64 j ∧ Aside0 (Kd.R k27 27 wq w.heap.size (fun _ => True) v6 (l0.take j.toNat).flatten) ∧ Aside0 (Below w.heap.size w wq))
        case atStart => exact ⟨0, Int.le_refl _, by omega, by omega, rfl, HO, HB⟩
        case round =>
          clear HO HB
          obtain ⟨j, j0, jle, jg, rfl, HO, HB⟩ := hrel
          by_cases hltj : j < (l0.length : Int)
          · obtain ⟨ad, Ar, cr, eA, hcell, hcap, hC⟩ := at_LW HR.out j j0 hltj
            cases eA
            have ht := Aside0.mk (take_flat l0 j j0 hltj)
            have hl1 := take_flat_len l0 (j + 1).toNat
            rw [ht.out, List.length_append] at hl1
            have HL1 := Aside0.mk hl1
            have HC := Aside0.mk hC
            replace hcell := (HB.out.cell (World.block_lt_of_cell? _ _ hcell)).trans hcell
            clear hC hl1
            go_wp2_with (first | ((with_reducible refine gate_builtin (b := .append) (xs := #[.tmp 31, .tmp 32]) rfl ?_); at_builtin; go_loud (refine Kd.R_append_rows k27 (w0 := w) w.heap.size rfl (.tmp 31) (.tmp 32) 22 27 (.agg #[(.int .u32 0), (.int .u8 0), (.int .i64 0), (.int .i64 0)]) 24 rfl Try.underlying22 info27 rfl (by decide) (by omega) _ (l0.take j.toNat).flatten (rowAt l0 j) _ _ _ (fun _ => True) (fun _ => False) rfl rfl HO.out (Kd.C_below HC.out HB.out) (fun _ _ h => h) (fun _ h => h.elim) (fun _ _ => trivial) HB.out (below_size HB.out) ?aL ?_; (case aL => have := HL.out; have := HL1.out; omega); intro v2 w2 ho hb hg hat; have HO2 := Aside0.mk ho; have HB2 := Aside0.mk hb; clear ho hb hg hat)))
            go_roundg (l0.length - (j + 1)).toNat
            case measure => omega
            case rel => exact ⟨j + 1, by omega, by omega, Nat.le_refl _, by have := HL.out; unfold wrap64; congr 1; omega, ⟨by rw [ht.out]; exact HO2.out⟩, HB2⟩
          · obtain rfl : j = (l0.length : Int) := by omega
            go_wp2
            go_ret
            have hO := HO.out
            rw [Int.toNat_natCast, List.take_length] at hO
            exact ⟨_, rfl, hO, HB.out⟩
  · rw [if_neg hl] at h
    cases h
end Go.Proofs.Ytcdcocnljnlkfaa.Q
