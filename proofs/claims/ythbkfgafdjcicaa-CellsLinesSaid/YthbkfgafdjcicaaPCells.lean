/- Plain lemmas: where cells lie. No program in sight. -/
import Derived.Test.YthbkfgafdjcicaaPClass
namespace Go.Proofs.Ythbkfgafdjcicaa.Ce
set_option linter.unusedVariables false
open Go Go.RowKit
def first (n bl : Int) : Int := if 0 ≤ bl ∧ bl < n then bl * 512 else -1
theorem first_out (n bl : Int) (h : bl < 0 ∨ n ≤ bl) : first n bl = -1 := by unfold first; rw [if_neg (by omega)]
theorem first_in (n bl : Int) (h : 0 ≤ bl) (h2 : bl < n) : first n bl = bl * 512 := by unfold first; rw [if_pos ⟨h, h2⟩]
def address (n k b i : Int) : Int := if 0 ≤ k ∧ k < 32 ∧ 1 ≤ b ∧ b < n ∧ 0 ≤ i ∧ i < Cl.cells k then b * 512 + i * Cl.words k else -1
theorem address_in (n k b i : Int) (h1 : 0 ≤ k) (h2 : k < 32) (h3 : 1 ≤ b) (h4 : b < n) (h5 : 0 ≤ i) (h6 : i < Cl.cells k) : address n k b i = b * 512 + i * Cl.words k := by unfold address; rw [if_pos ⟨h1, h2, h3, h4, h5, h6⟩]
theorem address_out (n k b i : Int) (h : ¬ (0 ≤ k ∧ k < 32 ∧ 1 ≤ b ∧ b < n ∧ 0 ≤ i ∧ i < Cl.cells k)) : address n k b i = -1 := by unfold address; rw [if_neg h]
theorem addr_code (b x : Int) (h : 0 ≤ b) (h2 : b ≤ 1000000) (h3 : 0 ≤ x) (h4 : x ≤ 512) : IntKind.i64.wrap (b * 512 + IntKind.i64.wrap x) = b * 512 + x := by
  rw [IntKind.wrap_i64, IntKind.wrap_i64]; omega
theorem mul_bd (k i : Int) (h1 : 0 ≤ k) (h2 : k < 32) (h5 : 0 ≤ i) (h6 : i < Cl.cells k) : 0 ≤ i * Cl.words k ∧ i * Cl.words k + Cl.words k ≤ 512 := by
  have hp := Cl.words_pos k h1 h2
  have a := (Cl.cells_more k i h1 h2 h5).2 h6
  rw [Int.add_mul, Int.one_mul] at a
  exact ⟨Int.mul_nonneg h5 (by omega), a⟩
end Go.Proofs.Ythbkfgafdjcicaa.Ce
