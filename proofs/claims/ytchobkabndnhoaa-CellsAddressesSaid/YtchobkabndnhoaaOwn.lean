/- A row of the call's own, known only as a slice value. -/
import Derived.Test.YtchobkabndnhoaaMem
namespace Go.Proofs.Ytchobkabndnhoaa
set_option linter.unusedVariables false
open Go.RowKit
theorem own_in {w : World} {base n c : Nat} {e : TypeId} {A : Option Addr} {xs : List Value} (h : w.ownsRow base e 1 (.slice A n c) n xs) {j : Nat} (hj : j < n) :
    ∃ g, A = some ⟨g, 0, none⟩ ∧ base ≤ g ∧ g < w.heap.size ∧ w.cell? ⟨g, j, none⟩ = xs[j]? ∧ w.frozen? ⟨g, j, none⟩ = false ∧
      (∀ u, (w.setCell ⟨g, j, none⟩ u).ownsRow base e 1 (.slice (some ⟨g, 0, none⟩) n c) n (xs.set j u)) ∧
      ∀ u B w0, Below B w0 w → B ≤ base → B ≤ w.heap.size → Below B w0 (w.setCell ⟨g, j, none⟩ u) := by
  rcases h.2 with ⟨_, h0⟩ | ⟨g, cap, cur, hv, hg, hh, _⟩
  · omega
  · have hg2 : g < w.heap.size := by
      rcases Nat.lt_or_ge g w.heap.size with h1 | h1
      · exact h1
      · rw [Array.getElem?_eq_none h1] at hh; cases hh
    obtain ⟨rfl, rfl⟩ : A = some ⟨g, 0, none⟩ ∧ c = cap := by injection hv with h1 _ h3; exact ⟨h1, h3⟩
    refine ⟨g, rfl, hg, hg2, h.cellAt j (by omega), h.frozenAt j, fun u => (h.stored j u).1, fun u B w0 hb hB hB2 => ?_⟩
    exact hb.grown (h.stored j u).2 hB2 (by intro q hq; cases hq; omega)
theorem own_below {w w' : World} {base n size : Nat} {e : TypeId} {v : Value} {xs : List Value} (h : w.ownsRow base e size v n xs) (hb : Below w.heap.size w w') : w'.ownsRow base e size v n xs := by
  refine ⟨h.1, ?_⟩
  rcases h.2 with hn | ⟨g, cap, cur, rfl, hg, hgg, rest⟩
  · exact .inl hn
  · refine .inr ⟨g, cap, cur, rfl, hg, ?_, rest⟩
    have hlt : g < w.heap.size := by
      rcases Nat.lt_or_ge g w.heap.size with h1 | h1
      · exact h1
      · rw [Array.getElem?_eq_none h1] at hgg; cases hgg
    rw [hb.block g hlt]; exact hgg
end Go.Proofs.Ytchobkabndnhoaa
