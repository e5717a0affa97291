/- What lay in a world lies in a later one. -/
import Derived.Test.YtcdcocnljnlkfaaQ0
namespace Go.Proofs.Ytcdcocnljnlkfaa.Q
open Go.RowKit Go.Proofs.YtcdcocnljnlkfaaW.PrintWords
theorem bcell {W w1 : World} (hb : Below W.heap.size W w1) : (∀ b o, b < W.heap.size → w1.cell? ⟨b, o, none⟩ = W.cell? ⟨b, o, none⟩) ∧ (∀ b o, b < W.heap.size → w1.frozen? ⟨b, o, none⟩ = W.frozen? ⟨b, o, none⟩) :=
  ⟨fun b o h => hb.cell (p := ⟨b, o, none⟩) h, fun b o h => hb.frozen (p := ⟨b, o, none⟩) h⟩
theorem two_boxes (w : World) (o o2 : Obj) : ((w.alloc o).alloc o2).heap[w.heap.size + 1]? = some o2 := by
  have h := heap_alloc_new (w.alloc o) o2
  simpa using h
theorem lt2 (w : World) (o o2 : Obj) : w.heap.size < ((w.alloc o).alloc o2).heap.size := by simp; omega
theorem lt2b (w : World) (o o2 : Obj) : w.heap.size + 1 < ((w.alloc o).alloc o2).heap.size := by simp
theorem two_boxes0 (w : World) (o o2 : Obj) : ((w.alloc o).alloc o2).heap[w.heap.size]? = some o := by
  have h := heap_alloc_new w o
  have hl : w.heap.size < (w.alloc o).heap.size := by simp
  exact (Below.heap_alloc (w.alloc o) o2 _ hl).trans h
end Go.Proofs.Ytcdcocnljnlkfaa.Q
