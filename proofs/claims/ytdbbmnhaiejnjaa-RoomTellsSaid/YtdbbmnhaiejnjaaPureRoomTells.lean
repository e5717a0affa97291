/- The law RoomTells, over numbers alone. -/
import Derived.Test.YtdbbmnhaiejnjaaQ26
import Derived.Test.YtdbbmnhaiejnjaaL4
import Derived.Test.YtdbbmnhaiejnjaaW4
namespace Go.Proofs.Ytdbbmnhaiejnjaa.Pure
open Go.RowKit Go.Proofs.YtdbbmnhaiejnjaaW.PrintWords Go.Proofs.YtdbbmnhaiejnjaaW.PrintLast Go.Proofs.YtdbbmnhaiejnjaaW.PrintMore Go.Proofs.Ytdbbmnhaiejnjaa.M Go.Proofs.Ytdbbmnhaiejnjaa.Q Go.Proofs.Ytdbbmnhaiejnjaa.L1 Go.Proofs.Ytdbbmnhaiejnjaa.L2 Go.Proofs.Ytdbbmnhaiejnjaa.L3 Go.Proofs.Ytdbbmnhaiejnjaa.L4 Go.Proofs.Ytdbbmnhaiejnjaa.W1 Go.Proofs.Ytdbbmnhaiejnjaa.W2 Go.Proofs.Ytdbbmnhaiejnjaa.W3 Go.Proofs.Ytdbbmnhaiejnjaa.W4
theorem heads_ev : Ev (fun k => horariumlaw11_heads.f k) true := Ev.of (fun k => horariumlaw11_heads.mono k) (k := 60) (by decide +kernel)
theorem RoomTells : ∀ (a0_0 : Int) (a0_1 : Int) (a0_2 : Int) (a1_0 : ByteArray) (a1_1 : Int) (a1_2 : Int) (l1_3 : List (S38)) (a2_0 : Int) (a2_1 : Int) (a2_2 : Int) (a2_3 : Int) (a3 : Int) (a4 : Int), (Lit.int .i64 a0_0).wf = true → (Lit.int .i64 a0_1).wf = true → (Lit.int .i64 a0_2).wf = true → a1_0.size ≤ maxLen → (Lit.int .i64 a1_1).wf = true → (Lit.int .u16 a1_2).wf = true → (∀ x ∈ l1_3, ((Lit.int .u32 x.f0).wf = true ∧ (Lit.int .u8 x.f1).wf = true ∧ (Lit.int .i64 x.f2).wf = true ∧ (Lit.int .i64 x.f3).wf = true)) → (Lit.int .u32 a2_0).wf = true → (Lit.int .u8 a2_1).wf = true → (Lit.int .i64 a2_2).wf = true → (Lit.int .i64 a2_3).wf = true → (Lit.int .i64 a3).wf = true → (Lit.int .u16 a4).wf = true → ∃ k, horariumlaw11_RoomTells.f k a0_0 a0_1 a0_2 a1_0 a1_1 a1_2 l1_3 a2_0 a2_1 a2_2 a2_3 a3 a4 = some true := by
  intro g0 g1 g2 n s g l w0 w1 w2 w3 z q _ _ _ _ _ hg hl v0 v1 _ _ _ hq
  replace hg := wf_u16 hg
  replace hq := wf_u16 hq
  replace hl := GW_of hl
  replace v0 := wf_u32 v0
  replace v1 := wf_u8 v1
  refine Ev.rounds ?_
  unfold horariumlaw11_RoomTells.f horariumlaw11_few.f
  simp only [Option.bind_some, decide_eq_true_eq]
  by_cases h30 : (l.length : Int) ≤ 30
  · simp only [if_pos h30]
    have hm : l.length < 1000000 := by omega
    have hR := ref_Right11_f (g0 := g0) (g1 := g1) (g2 := g2) (n := n) (s := s) (r2 := g) hm hl
    have hO := room_Open_f (g0 := g0) (g1 := g1) (g2 := g2) (n := n) (s := s) (r2 := g) hl
    have hME := ref_Meets_f (w2 := w2) (w3 := w3) hm hl v0 v1
    obtain ⟨b, eb⟩ : ∃ b, horariumref11_Fits.f n s g l z q = some b := by
      unfold horariumref11_Fits.f
      split
      · exact ⟨_, rfl⟩
      · exact ⟨_, rfl⟩
    refine Ev.bind hR ?_
    simp only [room_Right_f hl, room_Shut_f hl v0 v1, room_Name_f, ref_Name_f, fits_f hg hq, eb, Option.bind_some, beq_self_eq_true, if_true, decide_eq_true_eq]
    by_cases h : RRM g0 g1 g2 n s l
    · simp only [if_pos h]
      rw [if_pos h] at hO
      refine Ev.bind (ref_Open_f hm hl h.1 (ALB_true.mp h.2.2.2.2.2)) (Ev.bind hR ?_)
      simp only [beq_self_eq_true, if_true]
      refine Ev.bind hME ?_
      simp only [beq_self_eq_true, if_true]
      refine Ev.bind hO (Ev.bind (Ints_same (Nat.le_trans (OPN_len h.1) (by decide))) ?_)
      simp only [if_true]
      exact Ev.bind heads_ev (Ev.now _)
    · simp only [if_neg h]
      rw [if_neg h] at hO
      refine Ev.bind hR ?_
      simp only [beq_self_eq_true, if_true]
      refine Ev.bind hME ?_
      simp only [beq_self_eq_true, if_true]
      refine Ev.bind hO (Ev.bind (Ints_same (by decide)) ?_)
      simp only [if_true]
      exact Ev.bind heads_ev (Ev.now _)
  · simp only [if_neg h30]
    exact Ev.bind heads_ev (Ev.now _)
end Go.Proofs.Ytdbbmnhaiejnjaa.Pure
