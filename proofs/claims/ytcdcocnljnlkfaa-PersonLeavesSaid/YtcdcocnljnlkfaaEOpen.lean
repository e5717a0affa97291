/- room.Open: the moments of a grid at which a room is not shut. -/
import Derived.Test.YtcdcocnljnlkfaaERight
import Derived.Test.YtcdcocnljnlkfaaQ5
import Derived.Test.YtcdcocnljnlkfaaECont
import Derived.Test.YtcdcocnljnlkfaaEBox
import Derived.Test.YtcdcocnljnlkfaaEMap
namespace Go.Proofs.Ytcdcocnljnlkfaa.Q
open Go.RowKit Go.Maps Go.Proofs.YtcdcocnljnlkfaaW.PrintWords Go.Proofs.YtcdcocnljnlkfaaW.PrintLast Go.Proofs.YtcdcocnljnlkfaaW.PrintMore
set_option linter.unusedVariables false
set_option linter.unusedSimpArgs false
/-- The moments of some times, one after the other. -/
def room_Open.marks (k : Nat) (g0 g1 g2 : Int) : List S27 → Option (List Int)
  | [] => some []
  | x :: xs => (when_Moments.f k g0 g1 g2 x.f0 x.f1 x.f2 x.f3).bind fun m => (room_Open.marks k g0 g1 g2 xs).bind fun r => some (m ++ r)
/-- The numbers below n that are not marked. -/
def room_Open.opens (M : List Int) : Nat → List Int
  | 0 => []
  | n + 1 => if (n : Int) ∈ M then room_Open.opens M n else room_Open.opens M n ++ [(n : Int)]
def room_Open.f (k : Nat) (g0 g1 g2 : Int) (r0 : ByteArray) (r1 r2 : Int) (l : List S27) : Option (List Int) :=
  (room_Right.f g0 g1 g2 r0 r1 r2 l).bind fun t => if t = true then (room_Open.marks k g0 g1 g2 l).bind fun M => if M.length < 1000000 ∧ (∀ m ∈ M, 0 ≤ m ∧ m < 1000000) ∧ 0 ≤ wrap64 ((wrap64 (g0 * g1)) * g2) ∧ wrap64 ((wrap64 (g0 * g1)) * g2) < 1000000 then some (room_Open.opens M (wrap64 ((wrap64 (g0 * g1)) * g2)).toNat) else none else some []
theorem room_Open.marks_mono (g0 g1 g2 : Int) (k : Nat) : ∀ l, LeO (room_Open.marks k g0 g1 g2 l) (room_Open.marks (k + 1) g0 g1 g2 l)
  | [] => LeO.refl _
  | x :: xs => LeO.bind (when_Moments.mono _ _ _ _ _ _ _ k) (fun _ => LeO.bind (room_Open.marks_mono g0 g1 g2 k xs) (fun _ => LeO.refl _))
theorem room_Open.mono : ∀ a0 a1 a2 a3 a4 a5 a6 k, LeO (room_Open.f k a0 a1 a2 a3 a4 a5 a6) (room_Open.f (k + 1) a0 a1 a2 a3 a4 a5 a6) := by
  intro a0 a1 a2 a3 a4 a5 a6 k
  unfold room_Open.f
  refine LeO.bind (LeO.refl _) (fun t => ?_)
  refine LeO.ite ?_ (LeO.refl _)
  exact LeO.bind (room_Open.marks_mono _ _ _ k _) (fun _ => LeO.refl _)
theorem room_Open.opens_len (M : List Int) (n : Nat) : (room_Open.opens M n).length ≤ n := by
  induction n with
  | zero => exact Nat.le_refl _
  | succ n ih =>
    unfold room_Open.opens
    split
    · omega
    · rw [List.length_append]
      simp
      exact ih
/-- What is known of the marks at the head of a round over the times. -/
def OpenAt (wr : World) (mb : Nat) (k : Nat) (g0 g1 g2 : Int) (rest : List S27) (M : List Int) : Prop :=
  ∃ (D : DataW Unit) (M0 M1 : List Int), wr.ownsMap Try.prog 3 (plainElem Try.prog 4) mb M0.length D ∧ Marks D M0 ∧ room_Open.marks k g0 g1 g2 rest = some M1 ∧ M0 ++ M1 = M
theorem map_row {w w1 : World} {mb : Nat} {es : Array MapEntry} {cl : Nat} {A : Option Addr} {n : Nat} {xs : List Int} (h : (Kd.int .i64).C w A n xs) (hm : w.heap[mb]? = some (.map es cl)) (hg : w.grownBy w1 (some mb)) : (Kd.int .i64).C w1 A n xs := by
  refine ⟨h.1, h.2.1, fun hn => ?_⟩
  obtain ⟨ad, he, hc⟩ := h.2.2 hn
  refine ⟨ad, he, fun j p hp => ?_⟩
  obtain ⟨c, h1, h2, h3⟩ := hc j p hp
  exact ⟨c, h1, h2, fun i u hu => map_cell hm hg (h3 i u hu)⟩
theorem own_map_at {w : World} {P : Program} {k : TypeId} {R : Value → Option (DataW Unit × List MemPlace)} {b n : Nat} {D : DataW Unit} (h : w.ownsMap P k R b n D) : ∃ es cl, w.heap[b]? = some (.map es cl) := by
  obtain ⟨es, cl, h1, _⟩ := h
  exact ⟨es, cl, h1⟩
theorem take_rd (xs : List Int) (j : Int) (h0 : 0 ≤ j) (h1 : j < (xs.length : Int)) : xs.take (j + 1).toNat = xs.take j.toNat ++ [rd xs j] := by
  have h2 : j.toNat < xs.length := by omega
  have h3 : (j + 1).toNat = j.toNat + 1 := by omega
  rw [h3, List.take_succ_eq_append_getElem h2]
  unfold rd
  rw [List.getD_eq_getElem?_getD, List.getElem?_eq_getElem h2]
  rfl
/-- The marks so far, in the inner loop. -/
def OpenIn (wr : World) (mb : Nat) (M0 : List Int) : Prop := ∃ D : DataW Unit, wr.ownsMap Try.prog 3 (plainElem Try.prog 4) mb M0.length D ∧ Marks D M0
set_option maxHeartbeats 4000000 in
theorem room_Open.calls (k : Nat) (a0_0 a0_1 a0_2 : Int) (a1_0 : ByteArray) (a1_1 a1_2 : Int) (A1_3 : Option Addr) (c1_3 : Nat) (l1_3 : List S27) (r : List Int) (w : World) (hr1_3 : Kd.C k27 w A1_3 l1_3.length l1_3) (hc1_3 : l1_3.length ≤ c1_3)
    (h : room_Open.f k a0_0 a0_1 a0_2 a1_0 a1_1 a1_2 l1_3 = some r) :
    Calls Try.prog 52 #[.agg #[.int .i64 a0_0, .int .i64 a0_1, .int .i64 a0_2], .agg #[.string a1_0, .int .i64 a1_1, .int .u16 a1_2, .slice A1_3 l1_3.length c1_3]] w fun e w' => ∃ v0_ : Value, e = .returned v0_ ∧ Kd.R (Kd.int .i64) 3 w' w.heap.size (fun _ => True) v0_ r ∧ Below w.heap.size w w' := by
  have hu := Try.underlying39
  have hu2 := Try.underlying69
  have hu3 := Try.underlying27
  have hmm := @run_makeMap Try.prog
  have hm := hr1_3.2.1
  unfold room_Open.f at h
  obtain ⟨t1, h1, h⟩ := Option.bind_eq_some_iff.mp h
  have H1 := Aside0.mk h1
  clear h1
  have HR := Aside0.mk hr1_3
  have HCc := Aside0.mk hc1_3
  clear hr1_3 hc1_3
  cases t1 with
  | false =>
    simp only [Bool.false_eq_true, if_false] at h
    obtain rfl := Option.some.inj h
    clear h
    go_enter Try.func52, Try.ntmps52
    go_wp2_with (go_at_call 69; refine (room_Right.calls a0_0 a0_1 a0_2 a1_0 a1_1 a1_2 A1_3 c1_3 l1_3 _ _ (Kd.C_alloc (Kd.C_alloc HR.out _) _) HCc.out H1.out).mono ?_; rintro e w1 ⟨rfl, hb1⟩; have HB1 := Aside0.mk hb1; clear hb1)
    go_ret
    exact ⟨_, rfl, Kd.R_nil _ _ _ _ _, below_step (below_alloc (below_alloc (Below.refl _ _) _) _) HB1.out⟩
  | true =>
    simp only [if_true] at h
    obtain ⟨M, hM, h⟩ := Option.bind_eq_some_iff.mp h
    obtain ⟨N, hN⟩ : ∃ N : Int, wrap64 ((wrap64 (a0_0 * a0_1)) * a0_2) = N := ⟨_, rfl⟩
    rw [hN] at h
    by_cases hcond : M.length < 1000000 ∧ (∀ m ∈ M, 0 ≤ m ∧ m < 1000000) ∧ 0 ≤ N ∧ N < 1000000
    · rw [if_pos hcond] at h
      obtain rfl := Option.some.inj h
      clear h
      obtain ⟨hc1, hc2, hN0, hN1⟩ := hcond
      have HM := Aside0.mk hM
      have HL := Aside0.mk hc1
      have HV := Aside0.mk hc2
      have HN := Aside0.mk hN
      have LAW := Aside0.mk (int_keyed (P := Try.prog) (k := 3) Try.underlying3)
      clear hM hc1 hc2 hN
      go_enter Try.func52, Try.ntmps52
      go_wp2_with (go_at_call 69; refine (room_Right.calls a0_0 a0_1 a0_2 a1_0 a1_1 a1_2 A1_3 c1_3 l1_3 _ _ (Kd.C_alloc (Kd.C_alloc HR.out _) _) HCc.out H1.out).mono ?_; rintro e w1 ⟨rfl, hb1⟩; have HB1 := Aside0.mk hb1; have BG := Aside0.mk ((hb1.block _ (lt2 _ _ _)).trans (two_boxes0 _ _ _)); have hz0 := Nat.lt_of_lt_of_le (lt2 _ _ _) hb1.size; have hz1 := Nat.lt_of_lt_of_le (lt2b _ _ _) hb1.size; have q3 : w1.cell? ⟨w.heap.size + 1, 3, none⟩ = some (.slice A1_3 l1_3.length c1_3) := (blk_cell ((hb1.block _ (lt2b _ _ _)).trans (two_boxes _ _ _)) 3).trans rfl; clear hb1)
      have hmb := Aside0.mk (show w.heap.size ≠ w1.heap.size by omega)
      clear q3
      go_loopg [20] l1_3.length (fun gg s20 wr => ∃ i : Int, 0 ≤ i ∧ i ≤ l1_3.length ∧ (l1_3.length - i).toNat ≤ gg ∧ s20 = .int .i64 i ∧ Aside0 (Below w.heap.size w wr) ∧ Aside0 (wr.heap[w.heap.size]? = some (.cells #[.int .i64 a0_0, .int .i64 a0_1, .int .i64 a0_2] 39 (0, 0))) ∧ Aside0 (OpenAt wr w1.heap.size k a0_0 a0_1 a0_2 (l1_3.drop i.toNat) M))
      case atStart => exact ⟨0, Int.le_refl _, by omega, by omega, rfl, ⟨below_alloc (below_step (below_alloc (below_alloc (Below.refl _ _) _) _) HB1.out) _⟩, ⟨blk_alloc BG.out _⟩, ⟨.map [], [], M, World.ownsMap_made _ _ _ _, Marks.nil, HM.out, rfl⟩⟩
      case round =>
        clear HM
        obtain ⟨i, h0, hle, hg, rfl, HB, BK, HO⟩ := hrel
        by_cases hlt : i < (l1_3.length : Int)
        · obtain ⟨D, M0, M1, hown, hmk, hmarks, hM01⟩ := HO.out
          rw [drop_rd l1_3 i h0 hlt] at hmarks
          simp only [room_Open.marks] at hmarks
          obtain ⟨ms, hms, hmarks⟩ := Option.bind_eq_some_iff.mp hmarks
          obtain ⟨M2, hM2, hmarks⟩ := Option.bind_eq_some_iff.mp hmarks
          obtain rfl := Option.some.inj hmarks
          have HMS := Aside0.mk hms
          have HM2 := Aside0.mk hM2
          have HOW := Aside0.mk hown
          have HMK := Aside0.mk hmk
          have HEQ := Aside0.mk hM01
          clear hms hM2 hown hmk hM01 hmarks HO
          obtain ⟨ad, eA, hx0, hx1, hx2, hx3⟩ := at_T27 HR.out i h0 hlt
          cases eA
          replace hx0 := (HB.out.cell (World.block_lt_of_cell? w _ hx0)).trans hx0
          replace hx1 := (HB.out.cell (World.block_lt_of_cell? w _ hx1)).trans hx1
          replace hx2 := (HB.out.cell (World.block_lt_of_cell? w _ hx2)).trans hx2
          replace hx3 := (HB.out.cell (World.block_lt_of_cell? w _ hx3)).trans hx3
          have hlt0 := blk_lt BK.out
          have cg0 : wr.cell? ⟨w.heap.size, 0, none⟩ = some (.int .i64 a0_0) := (blk_cell BK.out 0).trans rfl
          have cg1 : wr.cell? ⟨w.heap.size, 1, none⟩ = some (.int .i64 a0_1) := (blk_cell BK.out 1).trans rfl
          have cg2 : wr.cell? ⟨w.heap.size, 2, none⟩ = some (.int .i64 a0_2) := (blk_cell BK.out 2).trans rfl
          go_wp2_with fail
          refine (when_Moments.calls k a0_0 a0_1 a0_2 _ _ _ _ ms _ HMS.out).mono ?_
          rintro e w2 ⟨v0, rfl, ho, hb2⟩
          obtain ⟨A, c, rfl, hlc, hC⟩ := Kd.R_reads ho
          have HC := Aside0.mk hC
          have hms2 := hC.2.1
          have HB2 := Aside0.mk (below_step (below_alloc HB.out _) hb2)
          have BK2 := Aside0.mk ((hb2.block _ (by simp; omega)).trans (blk_alloc BK.out _))
          have HOW2 := Aside0.mk ((HOW.out.kept (World.grownBy_alloc wr _ none) (by simp)).kept (grown_of_below hb2 none) (by simp))
          clear ho hC hb2 hx0 hx1 hx2 hx3 cg0 cg1 cg2 hlt0 HOW HB BK HMS
          go_wp2_with fail
          go_loopg [28] ms.length (fun gg s28 wr2 => ∃ j : Int, 0 ≤ j ∧ j ≤ ms.length ∧ (ms.length - j).toNat ≤ gg ∧ s28 = .int .i64 j ∧ Aside0 (Below w.heap.size w wr2) ∧ Aside0 (wr2.heap[w.heap.size]? = some (.cells #[.int .i64 a0_0, .int .i64 a0_1, .int .i64 a0_2] 39 (0, 0))) ∧ Aside0 ((Kd.int .i64).C wr2 A ms.length ms) ∧ Aside0 (OpenIn wr2 w1.heap.size (M0 ++ ms.take j.toNat)))
          case atStart => exact ⟨0, Int.le_refl _, by omega, by omega, rfl, HB2, BK2, HC, ⟨D, by simpa using HOW2.out, by simpa using HMK.out⟩⟩
          case round =>
            clear HB2 BK2 HC HOW2 HMK
            obtain ⟨j, j0, jle, jg, rfl, HB, BK, HC, HO⟩ := hrel
            by_cases hltj : j < (ms.length : Int)
            · obtain ⟨adm, eM, hxm⟩ := Kd.at_int HC.out j j0 hltj
              cases eM
              obtain ⟨D', hown, hmk⟩ := HO.out
              have hxM : rd ms j ∈ M := by
                rw [← HEQ.out]
                refine List.mem_append_right _ (List.mem_append_left _ ?_)
                unfold rd
                rw [List.getD_eq_getElem?_getD, List.getElem?_eq_getElem (show j.toNat < ms.length by omega)]
                exact List.getElem_mem _
              have hv := HV.out _ hxM
              have hwf : (Lit.int .i64 (rd ms j)).wf = true := by
                simp [Lit.wf, IntKind.min, IntKind.max, IntKind.signed, IntKind.bits]
                omega
              have hkey := Aside0.mk (keyOf_int_mk Try.underlying3 hwf)
              have hn : (M0 ++ ms.take j.toNat).length < maxLen := by
                have h1 := HL.out
                rw [← HEQ.out] at h1
                simp only [List.length_append] at h1 ⊢
                have h2 := List.length_take_le j.toNat ms
                unfold maxLen
                omega
              have HN2 := Aside0.mk hn
              obtain ⟨es, cl, hmap⟩ := own_map_at hown
              have HMP := Aside0.mk hmap
              have HOW := Aside0.mk hown
              have HMK := Aside0.mk hmk
              have htk := Aside0.mk (take_rd ms j j0 hltj)
              clear hown hmk hxM hv hwf hn hmap HO
              go_wp2_with (at_mapUpdate; refine wpList_mapUpdate_own _ rfl _ _ _ 86 rfl 3 4 LAW.out Try.underlying86 _ w1.heap.size _ _ rfl HOW.out HN2.out _ _ _ rfl rfl hkey.out _ [] (plainElem_bool Try.underlying4 true) ?_; intro w3 hown1 hgrow1; have HOW1 := Aside0.mk hown1; have HG1 := Aside0.mk hgrow1; clear hown1 hgrow1)
              go_roundg (ms.length - (j + 1)).toNat
              case measure => omega
              case rel =>
                refine ⟨j + 1, by omega, by omega, Nat.le_refl _, rfl, ⟨HB.out.grown HG1.out HB.out.size (fun k hk => by cases hk; omega)⟩, ⟨blk_grown BK.out HG1.out (by simpa using hmb.out)⟩, ⟨map_row HC.out HMP.out HG1.out⟩, ⟨D'.put (.int .i64 (rd ms j)) (.lit (.bool true)), ?_, ?_⟩⟩
                · rw [htk.out, ← List.append_assoc, List.length_append]
                  exact HOW1.out
                · rw [htk.out, ← List.append_assoc]
                  exact HMK.out.put _
            · have je : j = (ms.length : Int) := by omega
              obtain ⟨D', hown, hmk⟩ := HO.out
              have ht : ms.take j.toNat = ms := by rw [je, Int.toNat_natCast, List.take_length]
              rw [ht] at hown hmk
              have HOW := Aside0.mk hown
              have HMK := Aside0.mk hmk
              clear hown hmk ht je HO
              go_wp2
              go_roundg (l1_3.length - (i + 1)).toNat
              case measure => omega
              case rel => exact ⟨i + 1, by omega, by omega, Nat.le_refl _, rfl, HB, BK, ⟨D', M0 ++ ms, M2, HOW.out, HMK.out, HM2.out, by rw [List.append_assoc]; exact HEQ.out⟩⟩
        · have he : i = (l1_3.length : Int) := by omega
          obtain ⟨D, M0, M1, hown, hmk, hmarks, hM01⟩ := HO.out
          rw [he, Int.toNat_natCast, List.drop_length] at hmarks
          obtain rfl := Option.some.inj hmarks
          rw [List.append_nil] at hM01
          subst hM01
          have HOW := Aside0.mk hown
          have HMK := Aside0.mk hmk
          clear hown hmk hmarks he HO
          go_wp2_with fail
          go_loopg [10, 11] N.toNat (fun gg v10 s11 wr3 => ∃ m : Int, 0 ≤ m ∧ m ≤ N ∧ (N - m).toNat ≤ gg ∧ s11 = .int .i64 m ∧ Aside0 (Kd.R (Kd.int .i64) 3 wr3 w.heap.size (fun _ => True) v10 (room_Open.opens M0 m.toNat)) ∧ Aside0 (Below w.heap.size w wr3) ∧ Aside0 (wr3.heap[w.heap.size]? = some (.cells #[.int .i64 a0_0, .int .i64 a0_1, .int .i64 a0_2] 39 (0, 0))) ∧ Aside0 (OpenIn wr3 w1.heap.size M0))
          case atStart => exact ⟨0, Int.le_refl _, hN0, by omega, rfl, ⟨Kd.R_nil _ _ _ _ _⟩, HB, BK, ⟨D, HOW.out, HMK.out⟩⟩
          case round =>
            clear HB BK HOW HMK
            obtain ⟨m, m0, mle, mg, rfl, HV10, HB, BK, HO⟩ := hrel
            have hlt0 := blk_lt BK.out
            have cg0 : wr.cell? ⟨w.heap.size, 0, none⟩ = some (.int .i64 a0_0) := (blk_cell BK.out 0).trans rfl
            have cg1 : wr.cell? ⟨w.heap.size, 1, none⟩ = some (.int .i64 a0_1) := (blk_cell BK.out 1).trans rfl
            have cg2 : wr.cell? ⟨w.heap.size, 2, none⟩ = some (.int .i64 a0_2) := (blk_cell BK.out 2).trans rfl
            by_cases hltm : m < N
            · obtain ⟨D', hown, hmk⟩ := HO.out
              have hwf : (Lit.int .i64 m).wf = true := by
                simp [Lit.wf, IntKind.min, IntKind.max, IntKind.signed, IntKind.bits]
                omega
              have hkey := Aside0.mk (keyOf_int_mk Try.underlying3 hwf)
              have zero4 : ∀ W : World, (zeroValue 4).run Try.prog W = .ok (.bool false) W := fun _ => by kernel_rfl
              have Z4 := Aside0.mk zero4
              have hat := hmk.2 m
              obtain ⟨es, cl, hmap⟩ := own_map_at hown
              have HMP := Aside0.mk hmap
              have HOW := Aside0.mk hown
              have HMK := Aside0.mk hmk
              have hlen := Aside0.mk (room_Open.opens_len M0 m.toNat)
              have hsucc : (m + 1).toNat = m.toNat + 1 := by omega
              have hcast : ((m.toNat : Nat) : Int) = m := by omega
              have HS := Aside0.mk hsucc
              have HCT := Aside0.mk hcast
              clear hwf zero4 hown hmk hmap HO hsucc hcast
              by_cases hmem : m ∈ M0
              · rw [decide_eq_true hmem] at hat
                have HAT := Aside0.mk hat
                have HMEM := Aside0.mk hmem
                have hN := HN.out
                clear hat hmem
                go_wp2_with (at_lookup; refine wpList_lookup_own_bool rfl _ _ 86 rfl 3 4 LAW.out Try.underlying86 Try.underlying4 (Z4.out _) w1.heap.size _ _ rfl HOW.out _ _ rfl hkey.out true HAT.out ?_)
                go_roundg (N - (m + 1)).toNat
                case measure => omega
                case rel => exact ⟨m + 1, by omega, by omega, Nat.le_refl _, rfl, ⟨by rw [HS.out]; unfold room_Open.opens; rw [if_pos (by rw [HCT.out]; exact HMEM.out)]; exact HV10.out⟩, HB, BK, ⟨_, HOW.out, HMK.out⟩⟩
              · rw [decide_eq_false hmem] at hat
                have HAT := Aside0.mk hat
                have HMEM := Aside0.mk hmem
                have hN := HN.out
                have hty := Aside0.mk (Kd.R_typed HV10.out)
                clear hat hmem
                go_wp2_with (first | (at_lookup; refine wpList_lookup_own_bool rfl _ _ 86 rfl 3 4 LAW.out Try.underlying86 Try.underlying4 (Z4.out _) w1.heap.size _ _ rfl HOW.out _ _ rfl hkey.out false HAT.out ?_) | ((with_reducible refine gate_builtin (b := .append) (xs := #[.tmp 52, .tmp 54]) rfl ?_); at_builtin; go_loud (refine Kd.R_append (Kd.int .i64) (w0 := w) w.heap.size rfl (.tmp 52) (.tmp 54) 40 3 (.int .i64 0) 8 rfl Try.underlying40 info3 rfl (by decide) (by omega) _ (room_Open.opens M0 m.toNat) m [.int .i64 m] (fun _ => True) (fun _ => False) rfl rfl ?aP (fun _ hk => hk.elim) ?aF ?aO ?aB ?aS ?aL ?_; (case aP => exact rfl); (case aB => exact (by repeat (first | (with_reducible first | exact HB.out | apply below_alloc) | exact HB.out))); (case aF => exact (fun _ _ => trivial)); (case aO => exact (by (with_reducible repeat (first | apply Kd.R_alloc)); exact HV10.out)); (case aS => exact (below_size (by repeat (first | (with_reducible first | exact HB.out | apply below_alloc) | exact HB.out)))); (case aL => have := hlen.out; omega); intro v188 w18 ho hb hg hat; have HO8 := Aside0.mk ho; have HB8 := Aside0.mk hb; have HG8 := Aside0.mk hg; clear ho hb hg hat)))
                go_roundg (N - (m + 1)).toNat
                case measure => omega
                case rel =>
                  have hne : some w1.heap.size ≠ Value.ownBlock u10 := fun he => by
                    obtain ⟨cells, hcells⟩ := hty.out _ he.symm
                    rw [HMP.out] at hcells
                    cases hcells
                  have hne0 : some w.heap.size ≠ Value.ownBlock u10 := Kd.R_ne HV10.out BK.out (by decide)
                  exact ⟨m + 1, by omega, by omega, Nat.le_refl _, rfl, ⟨by rw [HS.out]; unfold room_Open.opens; rw [if_neg (by rw [HCT.out]; exact HMEM.out), HCT.out]; exact HO8.out⟩, HB8, ⟨blk_grown (by (with_reducible repeat (first | refine blk_alloc ?_ _)); exact BK.out) HG8.out hne0⟩, ⟨_, (by first | exact HOW.out.kept HG8.out hne | exact (HOW.out.alloc _).kept HG8.out hne), HMK.out⟩⟩
            · have hmN : m = N := by omega
              have hN := HN.out
              subst hmN
              go_wp2
              go_ret
              exact ⟨_, rfl, HV10.out, HB.out⟩
    · rw [if_neg hcond] at h
      cases h
end Go.Proofs.Ytcdcocnljnlkfaa.Q
