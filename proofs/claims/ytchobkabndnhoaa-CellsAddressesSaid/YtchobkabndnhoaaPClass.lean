/- Plain lemmas: classes of sizes. No program in sight. -/
import Derived.WalkKit
namespace Go.Proofs.Ytchobkabndnhoaa.Cl
set_option linter.unusedVariables false
open Go Go.RowKit
def szs : List Int := [2, 3, 4, 5, 6, 7, 8, 10, 12, 14, 16, 18, 20, 24, 28, 32, 36, 40, 46, 51, 56, 64, 73, 85, 92, 102, 113, 128, 146, 170, 204, 256]
def sz (j : Nat) : Int := szs.getD j 0
def SZ : Value := .agg (szs.map (Value.int .i64)).toArray
/-- words of a class -/
def words (k : Int) : Int := if 0 ≤ k ∧ k < 32 then sz k.toNat else 0
theorem words_out (k : Int) (h : k < 0 ∨ 32 ≤ k) : words k = 0 := by unfold words; rw [if_neg (by omega)]
theorem words_in (k : Int) (h : 0 ≤ k) (h2 : k < 32) : words k = sz k.toNat := by unfold words; rw [if_pos ⟨h, h2⟩]
theorem sz_bd : ∀ j < 32, 2 ≤ sz j ∧ sz j ≤ 256 := by decide
theorem sz_step : ∀ j < 31, sz j < sz (j + 1) := by decide
theorem words_bd (k : Int) : 0 ≤ words k ∧ words k ≤ 256 := by
  unfold words; split
  · have := sz_bd k.toNat (by omega); omega
  · omega
theorem words_pos (k : Int) (h : 0 ≤ k) (h2 : k < 32) : 2 ≤ words k := by rw [words_in k h h2]; exact (sz_bd k.toNat (by omega)).1
theorem sz_mono (d : Nat) : ∀ j, j + d < 32 → sz j ≤ sz (j + d) := by
  induction d with
  | zero => intro j _; exact Int.le_refl _
  | succ d ih => intro j h; have a := ih j (by omega); have b := sz_step (j + d) (by omega); have e : j + (d + 1) = j + d + 1 := by omega
                 rw [e]; omega
theorem words_mono (i j : Int) (h0 : 0 ≤ i) (h : i ≤ j) (h2 : j < 32) : words i ≤ words j := by
  rw [words_in i h0 (by omega), words_in j (by omega) h2]
  have := sz_mono (j.toNat - i.toNat) i.toNat (by omega)
  rwa [show i.toNat + (j.toNat - i.toNat) = j.toNat from by omega] at this
theorem SZ_at (k : Int) (h : 0 ≤ k) (h2 : k < 32) : (szs.map (Value.int .i64)).toArray[k.toNat]? = some (.int .i64 (words k)) := by
  rw [words_in k h h2]
  have hl : szs.length = 32 := rfl
  have : k.toNat < szs.length := by omega
  simp [sz, List.getElem?_eq_getElem this]
/-- the least class whose cells have so many words; -1: none -/
def Least (n k : Int) : Prop := 0 ≤ k ∧ k < 32 ∧ n ≤ words k ∧ ∀ j, 0 ≤ j → j < k → words j < n
theorem Least.unique {n k l : Int} (h : Least n k) (h2 : Least n l) : k = l := by
  obtain ⟨a1, a2, a3, a4⟩ := h
  obtain ⟨b1, b2, b3, b4⟩ := h2
  rcases Int.lt_trichotomy k l with h | h | h
  · have := b4 k a1 h; omega
  · exact h
  · have := a4 l b1 h; omega
theorem Least.bd {n k : Int} (h : Least n k) : 0 ≤ k ∧ k < 32 := ⟨h.1, h.2.1⟩
theorem Least.lt {n k : Int} (h : Least n k) (j : Int) (h0 : 0 ≤ j) (h1 : j < k) : words j < n := h.2.2.2 j h0 h1
theorem Least.le {n k : Int} (h : Least n k) : n ≤ words k := h.2.2.1
def findN (n : Int) : Nat → Nat → Nat
  | 0, j => j
  | f + 1, j => if n ≤ words j then j else findN n f (j + 1)
theorem findN_spec (n : Int) (f : Nat) : ∀ j, j + f ≤ 31 → (∀ i : Int, 0 ≤ i → i < j → words i < n) → (∃ k : Int, (j : Int) ≤ k ∧ k ≤ j + f ∧ n ≤ words k) → Least n (findN n f j) := by
  induction f with
  | zero =>
    intro j hj h1 ⟨k, k1, k2, k3⟩
    obtain rfl : k = (j : Int) := by omega
    exact ⟨by unfold findN; omega, by unfold findN; omega, by unfold findN; exact k3, by unfold findN; exact h1⟩
  | succ f ih =>
    intro j hj h1 ⟨k, k1, k2, k3⟩
    unfold findN
    by_cases h : n ≤ words j
    · rw [if_pos h]; exact ⟨by omega, by omega, h, h1⟩
    · rw [if_neg h]
      refine ih (j + 1) (by omega) (fun i i0 i1 => ?_) ⟨k, ?_, by omega, k3⟩
      · by_cases hi : i < j
        · exact h1 i i0 hi
        · obtain rfl : i = (j : Int) := by omega
          omega
      · rcases Int.lt_or_le j k with h2 | h2
        · omega
        · obtain rfl : k = (j : Int) := by omega
          omega
def ofK (n : Int) : Int := if 1 ≤ n ∧ n ≤ 256 then (findN n 31 0 : Nat) else 0
def ofB (n : Int) : Bool := decide (1 ≤ n ∧ n ≤ 256)
theorem ofK_least (n : Int) (h1 : 1 ≤ n) (h2 : n ≤ 256) : Least n (ofK n) := by
  have h31 : n ≤ words 31 := by
    have : words 31 = 256 := by decide
    omega
  unfold ofK
  rw [if_pos ⟨h1, h2⟩]
  exact findN_spec n 31 0 (by omega) (fun i a b => by omega) ⟨31, by omega, by omega, h31⟩
theorem ofK_out (n : Int) (h : n < 1 ∨ 256 < n) : ofK n = 0 := by unfold ofK; rw [if_neg (by omega)]
theorem ofK_bd (n : Int) : 0 ≤ ofK n ∧ ofK n < 32 := by
  by_cases h : 1 ≤ n ∧ n ≤ 256
  · exact (ofK_least n h.1 h.2).bd
  · rw [ofK_out n (by omega)]; omega
theorem ofB_yes (n : Int) (h1 : 1 ≤ n) (h2 : n ≤ 256) : ofB n = true := by unfold ofB; simp; omega
theorem ofB_no (n : Int) (h : n < 1 ∨ 256 < n) : ofB n = false := by unfold ofB; simp; omega
theorem words31 : words 31 = 256 := by decide
/-- cells of a class -/
def cells (k : Int) : Int := if 0 ≤ k ∧ k < 32 then 512 / words k else 0
theorem cells_out (k : Int) (h : k < 0 ∨ 32 ≤ k) : cells k = 0 := by unfold cells; rw [if_neg (by omega)]
theorem cells_in (k : Int) (h : 0 ≤ k) (h2 : k < 32) : cells k = 512 / words k := by unfold cells; rw [if_pos ⟨h, h2⟩]
theorem cells_bd (k : Int) : 0 ≤ cells k ∧ cells k ≤ 256 := by
  unfold cells; split
  · rename_i h
    have := words_pos k h.1 h.2
    refine ⟨Int.ediv_nonneg (by omega) (by omega), ?_⟩
    have h3 : 512 / words k < 257 := (Int.ediv_lt_iff_lt_mul (show 0 < words k by omega)).2 (by omega)
    omega
  · omega
theorem cells_mul (k : Int) (h : 0 ≤ k) (h2 : k < 32) : 0 ≤ cells k * words k ∧ cells k * words k ≤ 512 ∧ 512 - cells k * words k < words k := by
  have hp := words_pos k h h2
  rw [cells_in k h h2]
  have e := Int.mul_ediv_add_emod 512 (words k)
  have m := Int.emod_nonneg 512 (show words k ≠ 0 by omega)
  have m2 := Int.emod_lt_of_pos 512 (show 0 < words k by omega)
  rw [Int.mul_comm] at e
  have b := Int.mul_nonneg (Int.ediv_nonneg (show (0 : Int) ≤ 512 by omega) (show 0 ≤ words k by omega)) (show 0 ≤ words k by omega)
  omega
theorem cells_more (k n : Int) (h : 0 ≤ k) (h2 : k < 32) (hn : 0 ≤ n) : (n + 1) * words k ≤ 512 ↔ n < cells k := by
  have hp := words_pos k h h2
  rw [cells_in k h h2]
  constructor
  · intro hh
    have := (Int.le_ediv_iff_mul_le (show 0 < words k by omega)).2 hh
    omega
  · intro hh
    exact (Int.le_ediv_iff_mul_le (show 0 < words k by omega)).1 (by omega)
/-- an object's words -/
def size (p d : Int) : Int := if p < 0 ∨ p > 63 ∨ d < 0 ∨ d > 16384 then 0 else 1 + p + d
def rightB (k : Int) : Bool := decide (0 ≤ k ∧ k < 32)
theorem rightB_yes (k : Int) (h : 0 ≤ k) (h2 : k < 32) : rightB k = true := by unfold rightB; simp; omega
theorem rightB_no (k : Int) (h : k < 0 ∨ 32 ≤ k) : rightB k = false := by unfold rightB; simp; omega
def waste (k : Int) : Int := if 0 ≤ k ∧ k < 32 then 512 - cells k * words k else 0
theorem waste_out (k : Int) (h : k < 0 ∨ 32 ≤ k) : waste k = 0 := by unfold waste; rw [if_neg (by omega)]
theorem waste_in (k : Int) (h : 0 ≤ k) (h2 : k < 32) : waste k = 512 - cells k * words k := by unfold waste; rw [if_pos ⟨h, h2⟩]
def ofR (n : Int) : Int := if 1 ≤ n ∧ n ≤ 256 then ofK n else -1
theorem ofR_in (n : Int) (h1 : 1 ≤ n) (h2 : n ≤ 256) : ofR n = ofK n := by unfold ofR; rw [if_pos ⟨h1, h2⟩]
theorem ofR_out (n : Int) (h : n < 1 ∨ 256 < n) : ofR n = -1 := by unfold ofR; rw [if_neg (by omega)]
theorem ofR_at (n k : Int) (h : Least n k) (h1 : 1 ≤ n) : ofR n = k := by
  have hb := words_bd k
  have hl := h.le
  rw [ofR_in n h1 (by omega)]
  exact (ofK_least n h1 (by omega)).unique h
theorem ofR_none (n : Int) (h : ∀ j : Int, 0 ≤ j → j < 32 → words j < n) : ofR n = -1 := by
  have := h 31 (by omega) (by omega)
  rw [words31] at this
  exact ofR_out n (.inr this)
def BelowAll (n j : Int) : Prop := ∀ i : Int, 0 ≤ i → i < j → words i < n
theorem BelowAll.zero (n : Int) : BelowAll n 0 := fun i a b => by omega
theorem BelowAll.succ {n j : Int} (h : BelowAll n j) (hj : words j < n) : BelowAll n (j + 1) := fun i a b => by
  by_cases hi : i < j
  · exact h i a hi
  · obtain rfl : i = j := by omega
    exact hj
theorem BelowAll.up {n j m : Int} (h : words m < n) (hm : m < 32) : BelowAll n (m + 1) := fun i a b => by
  have := words_mono i m a (by omega) hm
  omega
theorem BelowAll.least {n j : Int} (h : BelowAll n j) (h0 : 0 ≤ j) (h1 : j < 32) (h2 : n ≤ words j) : Least n j := ⟨h0, h1, h2, h⟩
def szCode (p d : Int) : Int := if p < 0 ∨ p > 63 ∨ d < 0 ∨ d > 16384 then 5 else 0
theorem size_bad (p d : Int) (h : p < 0 ∨ p > 63 ∨ d < 0 ∨ d > 16384) : size p d = 0 ∧ szCode p d = 5 := by unfold size szCode; rw [if_pos h, if_pos h]; exact ⟨rfl, rfl⟩
theorem size_good (p d : Int) (h1 : 0 ≤ p) (h2 : p ≤ 63) (h3 : 0 ≤ d) (h4 : d ≤ 16384) : size p d = 1 + p + d ∧ szCode p d = 0 := by unfold size szCode; rw [if_neg (by omega), if_neg (by omega)]; exact ⟨rfl, rfl⟩
theorem size_bd (p d : Int) : 0 ≤ size p d ∧ size p d ≤ 16448 := by unfold size; split <;> omega
end Go.Proofs.Ytchobkabndnhoaa.Cl
