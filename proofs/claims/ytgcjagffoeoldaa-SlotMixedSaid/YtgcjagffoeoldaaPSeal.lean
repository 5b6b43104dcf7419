/- Plain lemmas: sealed numbers. No program in sight. -/
import Derived.Test.YtgcjagffoeoldaaPBytes
namespace Go.Proofs.Ytgcjagffoeoldaa.Sl
set_option linter.unusedVariables false
open Go Go.RowKit
def sum (n q : Int) : Int := Cr.more 0 (By.bytes [n, q])
theorem sum_bd (n q : Int) : 0 ≤ Cr.more 0 (By.bytes [n, q]) ∧ Cr.more 0 (By.bytes [n, q]) ≤ 4294967295 := Cr.more_bd 0 _ (by omega) (by omega) (By.bytes_bd _)
def sealed (n p : Int) : Int := sum n (IntKind.u64.wrap p) * 4294967296 + n
theorem seal_bd (n p : Int) (h1 : 0 ≤ n) (h2 : n ≤ 4294967295) : 0 ≤ sealed n p ∧ sealed n p ≤ 18446744073709551615 := by
  have := sum_bd n (IntKind.u64.wrap p)
  unfold sealed sum; omega
theorem seal_mod (n p : Int) (h1 : 0 ≤ n) (h2 : n ≤ 4294967295) : sealed n p % 4294967296 = n := by unfold sealed; omega
theorem seal_def (n p q : Int) (hq : IntKind.u64.wrap p = q) : Cr.more 0 (By.bytes [n, q]) * 4294967296 + n = sealed n p := by unfold sealed sum; rw [hq]
theorem join32 (s n : Nat) (h : n < 4294967296) : s * 4294967296 ||| n = s * 4294967296 + n := by
  rw [Nat.mul_comm, show (4294967296 : Nat) = 2 ^ 32 from rfl, Nat.two_pow_add_eq_or_of_lt (by omega)]
theorem seal_code (n p q : Int) (h1 : 0 ≤ n) (h2 : n ≤ 4294967295) (hq : IntKind.u64.wrap p = q) : bits .or .u64 (Cr.more 0 (By.bytes [n, q]) * 4294967296) n = sealed n p := by
  rw [← seal_def n p q hq]
  have hb := sum_bd n q
  generalize Cr.more 0 (By.bytes [n, q]) = s at *
  obtain ⟨S, rfl⟩ := Int.eq_ofNat_of_zero_le hb.1
  obtain ⟨N, rfl⟩ := Int.eq_ofNat_of_zero_le h1
  have e : (S : Int) * 4294967296 = ((S * 4294967296 : Nat) : Int) := (Int.natCast_mul S 4294967296).symm
  rw [e, u64_or_nat _ _ (by omega) (by omega), join32 _ _ (by omega)]
  omega
def openB (x p : Int) : Bool := decide (sealed (x % 4294967296) p = x)
def openN (x p : Int) : Int := if openB x p then x % 4294967296 else 0
theorem openN_no (x p : Int) (h : openB x p = false) : openN x p = 0 := by unfold openN; rw [h]; rfl
theorem openN_yes (x p : Int) (h : openB x p = true) : openN x p = x % 4294967296 := by unfold openN; rw [h]; rfl
theorem openB_no (x p : Int) (h : openB x p = false) : (sealed (x % 4294967296) p != x) = true := by unfold openB at h; simpa using h
theorem openB_yes (x p : Int) (h : openB x p = true) : (sealed (x % 4294967296) p != x) = false := by unfold openB at h; simpa using h
theorem openB_no2 (x p : Int) (h : openB x p = false) : (sealed (x % 4294967296) p == x) = false := by unfold openB at h; simpa using h
theorem openB_yes2 (x p : Int) (h : openB x p = true) : (sealed (x % 4294967296) p == x) = true := by unfold openB at h; simpa using h
theorem open_seal (n p : Int) (h1 : 0 ≤ n) (h2 : n ≤ 4294967295) : openB (sealed n p) p = true ∧ openN (sealed n p) p = n := by
  have e : openB (sealed n p) p = true := by unfold openB; rw [seal_mod n p h1 h2]; simp
  exact ⟨e, by rw [openN_yes _ _ e, seal_mod n p h1 h2]⟩
end Go.Proofs.Ytgcjagffoeoldaa.Sl
