/- Plain lemmas: where cells lie. No program in sight. -/
import Derived.Test.YtchobkabndnhoaaPClass
namespace Go.Proofs.Ytchobkabndnhoaa.Ce
set_option linter.unusedVariables false
open Go Go.RowKit
def first (n bl : Int) : Int := if 0 ≤ bl ∧ bl < n then bl * 512 else -1
theorem first_out (n bl : Int) (h : bl < 0 ∨ n ≤ bl) : first n bl = -1 := by unfold first; rw [if_neg (by omega)]
theorem first_in (n bl : Int) (h : 0 ≤ bl) (h2 : bl < n) : first n bl = bl * 512 := by unfold first; rw [if_pos ⟨h, h2⟩]
def address (n k b i : Int) : Int := if 0 ≤ k ∧ k < 32 ∧ 1 ≤ b ∧ b < n ∧ 0 ≤ i ∧ i < Cl.cells k then b * 512 + i * Cl.words k else -1
theorem address_in (n k b i : Int) (h1 : 0 ≤ k) (h2 : k < 32) (h3 : 1 ≤ b) (h4 : b < n) (h5 : 0 ≤ i) (h6 : i < Cl.cells k) : address n k b i = b * 512 + i * Cl.words k := by unfold address; rw [if_pos ⟨h1, h2, h3, h4, h5, h6⟩]
theorem address_out (n k b i : Int) (h : ¬ (0 ≤ k ∧ k < 32 ∧ 1 ≤ b ∧ b < n ∧ 0 ≤ i ∧ i < Cl.cells k)) : address n k b i = -1 := by unfold address; rw [if_neg h]
theorem addr_code (b x : Int) (h : 0 ≤ b) (h2 : b ≤ 1000000) (h3 : 0 ≤ x) (h4 : x ≤ 512) : IntKind.i64.wrap (b * 512 + IntKind.i64.wrap x) = b * 512 + x := by
  rw [IntKind.wrap_i64, IntKind.wrap_i64]; omega
theorem mul_bd (k i : Int) (h1 : 0 ≤ k) (h2 : k < 32) (h5 : 0 ≤ i) (h6 : i < Cl.cells k) : 0 ≤ i * Cl.words k ∧ i * Cl.words k + Cl.words k ≤ 512 := by
  have hp := Cl.words_pos k h1 h2
  have a := (Cl.cells_more k i h1 h2 h5).2 h6
  rw [Int.add_mul, Int.one_mul] at a
  exact ⟨Int.mul_nonneg h5 (by omega), a⟩
/-- the addresses of a block's cells -/
def all (n k b : Int) : List Int := if 1 ≤ b ∧ b < n then (List.range (Cl.cells k).toNat).map fun (i : Nat) => 512 * b + (i : Int) * Cl.words k else []
theorem all_out (n k b : Int) (h : ¬ (1 ≤ b ∧ b < n)) : all n k b = [] := by unfold all; rw [if_neg h]
def upto (k b : Int) (m : Nat) : List Int := (List.range m).map fun (i : Nat) => 512 * b + (i : Int) * Cl.words k
theorem all_in (n k b : Int) (h1 : 1 ≤ b) (h2 : b < n) : all n k b = upto k b (Cl.cells k).toNat := by unfold all upto; rw [if_pos ⟨h1, h2⟩]
theorem upto_zero (k b : Int) : upto k b 0 = [] := rfl
theorem upto_succ (k b : Int) (m : Nat) : upto k b (m + 1) = upto k b m ++ [512 * b + (m : Int) * Cl.words k] := by simp [upto, List.range_succ]
theorem upto_len (k b : Int) (m : Nat) : (upto k b m).length = m := by simp [upto]
theorem upto_get (k b : Int) (m i : Nat) (h : i < m) : (upto k b m)[i]? = some (512 * b + (i : Int) * Cl.words k) := by simp [upto, h]
theorem all_len (n k b : Int) : (all n k b).length ≤ 256 := by
  have := Cl.cells_bd k
  by_cases h : 1 ≤ b ∧ b < n
  · rw [all_in n k b h.1 h.2, upto_len]; omega
  · rw [all_out n k b h]; simp
theorem all_get (n k b : Int) (i : Nat) (x : Int) (h : (all n k b)[i]? = some x) : 1 ≤ b ∧ b < n ∧ 0 ≤ k ∧ k < 32 ∧ (i : Int) < Cl.cells k ∧ x = 512 * b + (i : Int) * Cl.words k := by
  by_cases hb : 1 ≤ b ∧ b < n
  · rw [all_in n k b hb.1 hb.2] at h
    have hl := (List.getElem?_eq_some_iff.1 h).1
    rw [upto_len] at hl
    rw [upto_get _ _ _ _ hl] at h
    have hc : (i : Int) < Cl.cells k := by omega
    have hk : 0 ≤ k ∧ k < 32 := by
      rcases Int.lt_or_le k 0 with g | g
      · rw [Cl.cells_out k (.inl g)] at hc; omega
      · rcases Int.lt_or_le k 32 with g2 | g2
        · exact ⟨g, g2⟩
        · rw [Cl.cells_out k (.inr g2)] at hc; omega
    exact ⟨hb.1, hb.2, hk.1, hk.2, hc, (Option.some.inj h).symm⟩
  · rw [all_out n k b hb] at h; simp at h
theorem all_bd (n k b : Int) (hn : n ≤ 1000000) : ∀ x ∈ all n k b, 0 ≤ x ∧ x ≤ 1000000000 := by
  intro x hx
  obtain ⟨i, hi⟩ := List.getElem?_of_mem hx
  obtain ⟨h1, h2, h3, h4, h5, rfl⟩ := all_get n k b i x hi
  have := mul_bd k i h3 h4 (by omega) h5
  have hw := Cl.words_bd k
  omega
/-- the cell's number that an address is within; -1 -/
def holdI (n k a : Int) : Int := if 512 ≤ a ∧ a < 512 * n ∧ 0 ≤ k ∧ k < 32 ∧ a % 512 / Cl.words k < Cl.cells k then a % 512 / Cl.words k else -1
def holdB (n k a : Int) : Int := if 0 ≤ holdI n k a then a / 512 else 0
theorem hold_in (n k a : Int) (h1 : 512 ≤ a) (h2 : a < 512 * n) (h3 : 0 ≤ k) (h4 : k < 32) (h5 : a % 512 / Cl.words k < Cl.cells k) : holdI n k a = a % 512 / Cl.words k ∧ holdB n k a = a / 512 ∧ 0 ≤ a % 512 / Cl.words k := by
  have e : holdI n k a = a % 512 / Cl.words k := by unfold holdI; rw [if_pos ⟨h1, h2, h3, h4, h5⟩]
  have hw := Cl.words_pos k h3 h4
  have p : 0 ≤ a % 512 / Cl.words k := Int.ediv_nonneg (by omega) (by omega)
  exact ⟨e, by unfold holdB; rw [e, if_pos p], p⟩
theorem hold_out (n k a : Int) (h : ¬ (512 ≤ a ∧ a < 512 * n ∧ 0 ≤ k ∧ k < 32 ∧ a % 512 / Cl.words k < Cl.cells k)) : holdI n k a = -1 ∧ holdB n k a = 0 := by
  have e : holdI n k a = -1 := by unfold holdI; rw [if_neg h]
  exact ⟨e, by unfold holdB; rw [e]; rfl⟩
/-- an address is within the cell i just if i is the quotient -/
theorem within (a k i : Int) (h3 : 0 ≤ k) (h4 : k < 32) (hi : 0 ≤ i) (ha : 0 ≤ a) (hc : i < Cl.cells k) :
    (512 * (a / 512) + i * Cl.words k ≤ a ∧ a < 512 * (a / 512) + i * Cl.words k + Cl.words k) ↔ a % 512 / Cl.words k = i := by
  have hw := Cl.words_pos k h3 h4
  have e := Int.mul_ediv_add_emod (a % 512) (Cl.words k)
  have b1 := Int.emod_nonneg (a % 512) (show Cl.words k ≠ 0 by omega)
  have b2 := Int.emod_lt_of_pos (a % 512) (show 0 < Cl.words k by omega)
  have s : a = 512 * (a / 512) + a % 512 := by omega
  constructor
  · rintro ⟨g1, g2⟩
    have g3 : i * Cl.words k ≤ a % 512 := by omega
    have g4 : a % 512 < (i + 1) * Cl.words k := by rw [Int.add_mul, Int.one_mul]; omega
    have l1 : i ≤ a % 512 / Cl.words k := (Int.le_ediv_iff_mul_le (by omega)).2 g3
    have l2 : a % 512 / Cl.words k < i + 1 := Int.ediv_lt_of_lt_mul (by omega) g4
    omega
  · rintro rfl
    rw [Int.mul_comm (a % 512 / Cl.words k)]
    omega
theorem hold_cases (n k a : Int) (hn : n ≤ 1000000) : (holdI n k a = -1 ∧ holdB n k a = 0) ∨ (0 ≤ holdI n k a ∧ holdI n k a ≤ 512 ∧ 1 ≤ holdB n k a ∧ holdB n k a ≤ 1000000 ∧ 0 ≤ holdI n k a * Cl.words k ∧ holdI n k a * Cl.words k ≤ 512) := by
  by_cases h : 512 ≤ a ∧ a < 512 * n ∧ 0 ≤ k ∧ k < 32 ∧ a % 512 / Cl.words k < Cl.cells k
  · right
    obtain ⟨h1, h2, h3, h4, h5⟩ := h
    obtain ⟨e1, e2, e3⟩ := hold_in n k a h1 h2 h3 h4 h5
    have hm := mul_bd k _ h3 h4 e3 h5
    have hc := Cl.cells_bd k
    have hw := Cl.words_bd k
    rw [e1, e2]
    omega
  · left; exact hold_out n k a h
end Go.Proofs.Ytchobkabndnhoaa.Ce
