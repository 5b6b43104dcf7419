/- Plain lemmas: the bytes of words, and back. No program in sight. -/
import Derived.Test.YthbkfgafdjcicaaPBits
import Derived.Test.YthbkfgafdjcicaaPCrc
namespace Go.Proofs.Ythbkfgafdjcicaa.By
set_option linter.unusedVariables false
open Go Go.RowKit
/-- what is left of a word behind so many bytes -/
def rest (x : Int) (j : Nat) : Int := ((x.toNat / 256 ^ j : Nat) : Int)
def byteAt (x : Int) (j : Nat) : Int := rest x j % 256
def bytesTo (x : Int) (k : Nat) : List Int := (List.range k).map (byteAt x)
def bytes (xs : List Int) : List Int := xs.flatMap fun x => bytesTo x 8
theorem rest_bd (x : Int) (j : Nat) (h : x ≤ 18446744073709551615) : 0 ≤ rest x j ∧ rest x j ≤ 18446744073709551615 := by
  have : x.toNat / 256 ^ j ≤ x.toNat := Nat.div_le_self _ _
  unfold rest
  generalize x.toNat / 256 ^ j = r at *
  omega
theorem rest_zero (x : Int) (h : 0 ≤ x) : rest x 0 = x := by unfold rest; simp; omega
theorem rest_succ (x : Int) (j : Nat) : rest x j / 256 = rest x (j + 1) := by
  unfold rest
  rw [Nat.pow_succ, ← Nat.div_div_eq_div_mul]
  generalize x.toNat / 256 ^ j = r at *
  omega
theorem rest_shr (x : Int) (j : Nat) (h : 0 ≤ x) : x / 2 ^ (8 * j) = rest x j := by
  obtain ⟨X, rfl⟩ := Int.eq_ofNat_of_zero_le h
  have e : (2 : Nat) ^ (8 * j) = 256 ^ j := by rw [Nat.pow_mul]
  unfold rest
  rw [← Bt.pow_int, e, Int.toNat_natCast]
  exact (Int.natCast_ediv ..).symm
theorem byteAt_bd (x : Int) (j : Nat) : 0 ≤ byteAt x j ∧ byteAt x j ≤ 255 := by unfold byteAt; omega
theorem bytesTo_zero (x : Int) : bytesTo x 0 = [] := rfl
theorem bytesTo_succ (x : Int) (k : Nat) : bytesTo x (k + 1) = bytesTo x k ++ [byteAt x k] := by unfold bytesTo; rw [List.range_succ, List.map_append]; rfl
theorem bytesTo_len (x : Int) (k : Nat) : (bytesTo x k).length = k := by unfold bytesTo; simp
theorem bytes_nil : bytes [] = [] := rfl
theorem bytes_snoc (xs : List Int) (x : Int) : bytes (xs ++ [x]) = bytes xs ++ bytesTo x 8 := by unfold bytes; simp
theorem bytes_len (xs : List Int) : (bytes xs).length = 8 * xs.length := by
  induction xs with
  | nil => rfl
  | cons x xs ih => unfold bytes at *; rw [List.flatMap_cons, List.length_append, ih, bytesTo_len, List.length_cons]; omega
theorem bytesTo_wf (x : Int) (k : Nat) : ∀ b ∈ bytesTo x k, 0 ≤ b ∧ b ≤ 255 := by
  intro b hb
  unfold bytesTo at hb
  obtain ⟨j, _, rfl⟩ := List.mem_map.1 hb
  exact byteAt_bd x j
theorem bytes_bd (xs : List Int) : ∀ b ∈ bytes xs, 0 ≤ b ∧ b ≤ 255 := by
  intro b hb
  unfold bytes at hb
  obtain ⟨x, _, hx⟩ := List.mem_flatMap.1 hb
  exact bytesTo_wf x 8 b hx
theorem map_snoc (xs : List Int) (b : Int) (k : IntKind) : (xs ++ [b]).map (Value.int k) = xs.map (Value.int k) ++ [.int k b] := by simp
end Go.Proofs.Ythbkfgafdjcicaa.By
