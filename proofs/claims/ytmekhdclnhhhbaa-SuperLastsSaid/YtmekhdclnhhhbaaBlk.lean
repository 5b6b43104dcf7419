/- A block known whole. -/
import Derived.Test.YtmekhdclnhhhbaaMem
namespace Go.Proofs.Ytmekhdclnhhhbaa
set_option linter.unusedVariables false
open Go.RowKit
/-- block b of W is these cells, none of them frozen -/
def Blk (W : World) (b : Nat) (cs : Array Value) (T : TypeId) : Prop := W.heap[b]? = some (.cells cs T (0, 0))
theorem Blk.lt {W : World} {b : Nat} {cs : Array Value} {T : TypeId} (h : Blk W b cs T) : b < W.heap.size := by
  rcases Nat.lt_or_ge b W.heap.size with h1 | h1
  · exact h1
  · unfold Blk at h; rw [Array.getElem?_eq_none h1] at h; cases h
theorem Blk.cell {W : World} {b : Nat} {cs : Array Value} {T : TypeId} (h : Blk W b cs T) (i : Nat) (u : Value) (hu : cs[i]? = some u) : W.cell? ⟨b, i, none⟩ = some u := by
  rw [Joins.cell_of_block h]; exact hu
theorem Blk.frozen {W : World} {b : Nat} {cs : Array Value} {T : TypeId} (h : Blk W b cs T) (i : Nat) : W.frozen? ⟨b, i, none⟩ = false := frozen_of_row W b i cs T h
theorem Blk.below {W W' : World} {B b : Nat} {cs : Array Value} {T : TypeId} (h : Blk W b cs T) (hb : Below B W W') (hB : b < B) : Blk W' b cs T := by
  unfold Blk at *; rw [hb.block b hB]; exact h
theorem Blk.new (w : World) (cs : Array Value) (T : TypeId) : Blk (w.alloc (.cells cs T)) w.heap.size cs T := heap_alloc_new w _
theorem Blk.new1 (w : World) (o : Obj) (cs : Array Value) (T : TypeId) : Blk ((w.alloc o).alloc (.cells cs T)) (w.heap.size + 1) cs T := by
  have := Blk.new (w.alloc o) cs T
  rwa [World.size_alloc] at this
theorem Blk.new2 (w : World) (o p : Obj) (cs : Array Value) (T : TypeId) : Blk (((w.alloc o).alloc p).alloc (.cells cs T)) (w.heap.size + 1 + 1) cs T := by
  have := Blk.new ((w.alloc o).alloc p) cs T
  rwa [World.size_alloc, World.size_alloc] at this
theorem RowAt.of_blk {W : World} {b : Nat} {cs : Array Value} {T : TypeId} (h : Blk W b cs T) (m : Nat) (hm : m ≤ cs.size) : RowAt W W.heap.size (some ⟨b, 0, none⟩) m (cs.toList.take m) := by
  refine ⟨by simp; omega, fun _ => ⟨b, 0, rfl, h.lt, fun j u hu => ?_⟩⟩
  have hj : j < m := by
    have := (List.getElem?_eq_some_iff.1 hu).1
    simp at this; omega
  rw [List.getElem?_take_of_lt hj] at hu
  rw [Nat.zero_add]
  exact h.cell j u (by simpa using hu)
theorem Blk.alloc {W : World} {b : Nat} {cs : Array Value} {T : TypeId} (h : Blk W b cs T) (o : Obj) : Blk (W.alloc o) b cs T :=
  h.below ((Below.refl W.heap.size W).alloc (Nat.le_refl _) o) h.lt
theorem Blk.drewN {W : World} {b : Nat} {cs : Array Value} {T : TypeId} (h : Blk W b cs T) (n : Nat) : Blk (W.drewN n) b cs T := h
theorem Blk.drew {W : World} {b : Nat} {cs : Array Value} {T : TypeId} (h : Blk W b cs T) : Blk W.drew b cs T := h
theorem Blk.set {W : World} {b : Nat} {cs : Array Value} {T : TypeId} (h : Blk W b cs T) (j : Nat) (u : Value) : Blk (W.setCell ⟨b, j, none⟩ u) b (cs.setIfInBounds j u) T := heap_setCell_same W b j cs T u h
theorem Blk.other {W : World} {b : Nat} {cs : Array Value} {T : TypeId} (h : Blk W b cs T) (p : Addr) (u : Value) (hp : p.block ≠ b) : Blk (W.setCell p u) b cs T := by
  unfold Blk; rw [heap_setCell_other W p b u (by simpa using fun e => hp e.symm)]; exact h
end Go.Proofs.Ytmekhdclnhhhbaa
