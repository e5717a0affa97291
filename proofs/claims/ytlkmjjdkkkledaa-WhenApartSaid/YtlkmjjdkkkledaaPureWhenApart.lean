/- The law WhenApart, over numbers alone. -/
import Derived.Test.YtlkmjjdkkkledaaQ19
import Derived.Test.YtlkmjjdkkkledaaW6
namespace Go.Proofs.Ytlkmjjdkkkledaa.Pure
open Go.RowKit Go.Proofs.YtlkmjjdkkkledaaW.PrintWords Go.Proofs.YtlkmjjdkkkledaaW.PrintLast Go.Proofs.YtlkmjjdkkkledaaW.PrintMore Go.Proofs.Ytlkmjjdkkkledaa.M Go.Proofs.Ytlkmjjdkkkledaa.Q Go.Proofs.Ytlkmjjdkkkledaa.W1 Go.Proofs.Ytlkmjjdkkkledaa.W3 Go.Proofs.Ytlkmjjdkkkledaa.W6
theorem WhenApart : ∀ (a0_0 : Int) (a0_1 : Int) (a0_2 : Int) (a0_3 : Int) (a1_0 : Int) (a1_1 : Int) (a1_2 : Int) (a1_3 : Int), (Lit.int .u32 a0_0).wf = true → (Lit.int .u8 a0_1).wf = true → (Lit.int .i64 a0_2).wf = true → (Lit.int .i64 a0_3).wf = true → (Lit.int .u32 a1_0).wf = true → (Lit.int .u8 a1_1).wf = true → (Lit.int .i64 a1_2).wf = true → (Lit.int .i64 a1_3).wf = true → ∃ k, horariumlaw09_WhenApart.f k a0_0 a0_1 a0_2 a0_3 a1_0 a1_1 a1_2 a1_3 = some true := by
  intro aw ad ap al bw bd bp bl u0 u1 _ _ v0 v1 _ _
  replace u0 := wf_u32 u0
  replace u1 := wf_u8 u1
  replace v0 := wf_u32 v0
  replace v1 := wf_u8 v1
  refine ⟨40, ?_⟩
  have hh : horariumlaw09_heads.f 40 = some true := by decide +kernel
  unfold horariumlaw09_WhenApart.f
  rw [when_Gap_f u0 u1 v0 v1, when_Gap_f v0 v1 u0 u1, when_SameDay_f u0 u1 v0 v1, when_SameDay_f v0 v1 u0 u1, when_Meet_f u0 u1 v0 v1, hh]
  simp only [Option.bind_some]
  have c1 := SD_comm (aw := aw) (ad := ad) (ap := ap) (al := al) (bw := bw) (bd := bd) (bp := bp) (bl := bl)
  have c2 := MT_comm (aw := aw) (ad := ad) (ap := ap) (al := al) (bw := bw) (bd := bd) (bp := bp) (bl := bl)
  by_cases h1 : SD aw ad ap al bw bd bp bl
  · by_cases h2 : MT aw ad ap al bw bd bp bl
    · simp [h1, h2, c1.mp h1, c2.mp h2]
    · have h3 : ¬ MT bw bd bp bl aw ad ap al := fun h => h2 (c2.mpr h)
      have e1 : max bp ap - min (bp + bl) (ap + al) = max ap bp - min (ap + al) (bp + bl) := by omega
      have e2 : ¬ max ap bp - min (ap + al) (bp + bl) < 0 := by
        have h4 : ¬ (ap < bp + bl ∧ bp < ap + al) := fun h => h2 ⟨h1, h⟩
        have h5 := h1.1
        have h6 := h1.2.1
        unfold TM at h5 h6
        omega
      simp [h1, h2, c1.mp h1, h3, e1, e2]
  · have h2 : ¬ MT aw ad ap al bw bd bp bl := fun h => h1 h.1
    have h3 : ¬ SD bw bd bp bl aw ad ap al := fun h => h1 (c1.mpr h)
    simp [h1, h2, h3]
end Go.Proofs.Ytlkmjjdkkkledaa.Pure
