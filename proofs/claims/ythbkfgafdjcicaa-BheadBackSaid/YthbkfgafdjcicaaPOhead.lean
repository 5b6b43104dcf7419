/- Plain lemmas: words of objects' and blocks' headers. No program in sight. -/
import Derived.Test.YthbkfgafdjcicaaPBack
import Derived.Test.YthbkfgafdjcicaaPSeal
import Derived.Test.YthbkfgafdjcicaaPClass
namespace Go.Proofs.Ythbkfgafdjcicaa.Oh
set_option linter.unusedVariables false
open Go Go.RowKit
/-- a field above all bits that are there is added -/
theorem put_above (x a k n : Nat) (h : a + k ≤ 64) (ha : a < 64) (hx : x < 2 ^ a) (hn : n < 2 ^ k) : Bt.putN x a k n = 2 ^ a * n + x := by
  apply Nat.eq_of_testBit_eq
  intro i
  rw [Bt.testBit_putN _ _ _ _ _ (by omega) (by omega), Nat.testBit_two_pow_mul_add _ hx, Int.toNat_natCast, Int.toNat_natCast]
  by_cases h1 : i < a
  · have c : ¬ (a ≤ i ∧ i < a + k) := by omega
    rw [if_neg c, if_pos h1]
    have : i < 64 := by omega
    simp [this]
  · rw [if_neg h1]
    by_cases h2 : i < a + k
    · rw [if_pos ⟨by omega, h2⟩]
      have : i < 64 := by omega
      simp [this]
    · rw [if_neg (by omega)]
      have e1 : x.testBit i = false := Nat.testBit_lt_two_pow (Nat.lt_of_lt_of_le hx (Nat.pow_le_pow_right (by decide) (by omega)))
      have e2 : n.testBit (i - a) = false := Nat.testBit_lt_two_pow (Nat.lt_of_lt_of_le hn (Nat.pow_le_pow_right (by decide) (by omega)))
      rw [e1, e2]; simp
theorem put_add (x n : Int) (a k : Nat) (h : a + k ≤ 64) (ha : a < 64) (h0 : 0 ≤ x) (hx : x < 2 ^ a) (hn0 : 0 ≤ n) (hn : n < 2 ^ k) : Bt.put x a k n = 2 ^ a * n + x := by
  obtain ⟨X, rfl⟩ := Int.eq_ofNat_of_zero_le h0
  obtain ⟨N, rfl⟩ := Int.eq_ofNat_of_zero_le hn0
  rw [← Bt.pow_int] at *
  unfold Bt.put
  rw [Int.toNat_natCast, Int.toNat_natCast, put_above X a k N h ha (by omega) (by omega)]
  rw [Int.natCast_add, Int.natCast_mul]
theorem get_div (x : Int) (a k : Nat) (ha : a < 64) (hk : k ≤ 64) (h0 : 0 ≤ x) : Bt.get x a k = x / 2 ^ a % 2 ^ k := by
  obtain ⟨X, rfl⟩ := Int.eq_ofNat_of_zero_le h0
  unfold Bt.get Bt.getN
  rw [if_pos (by omega), Int.toNat_natCast, Int.toNat_natCast, Nat.shiftRight_eq_div_pow]
  have e : Bt.maskN k = 2 ^ k - 1 := by unfold Bt.maskN; rw [Int.toNat_natCast, Nat.min_eq_left hk]
  rw [e, Nat.and_two_pow_sub_one_eq_mod, ← Bt.pow_int, ← Bt.pow_int, Int.natCast_emod, Int.natCast_ediv]
/-! ## objects -/
theorem put_o (p d : Int) (h1 : 0 ≤ p) (h2 : p ≤ 63) (h3 : 0 ≤ d) (h4 : d ≤ 16384) :
    Bt.put 165 8 6 p = 165 + 256 * p ∧ Bt.put (165 + 256 * p) 14 15 d = 165 + 256 * p + 16384 * d := by
  have a := put_add 165 p 8 6 (by decide) (by decide) (by omega) (by decide) h1 (by omega)
  have b := put_add (165 + 256 * p) d 14 15 (by decide) (by decide) (by omega) (by omega) h3 (by omega)
  have e1 : ((8 : Nat) : Int) = 8 := rfl
  have e2 : ((6 : Nat) : Int) = 6 := rfl
  have e3 : ((14 : Nat) : Int) = 14 := rfl
  have e4 : ((15 : Nat) : Int) = 15 := rfl
  rw [e1, e2] at a
  rw [e3, e4] at b
  rw [a, b]
  omega
def enc (p d at_ : Int) : Int := if Cl.size p d = 0 then 0 else Sl.sealed (165 + 256 * p + 16384 * d) at_
theorem enc_bad (p d at_ : Int) (h : p < 0 ∨ p > 63 ∨ d < 0 ∨ d > 16384) : enc p d at_ = 0 := by unfold enc; rw [if_pos (Cl.size_bad p d h).1]
theorem enc_good (p d at_ : Int) (h1 : 0 ≤ p) (h2 : p ≤ 63) (h3 : 0 ≤ d) (h4 : d ≤ 16384) : enc p d at_ = Sl.sealed (165 + 256 * p + 16384 * d) at_ := by
  unfold enc; rw [if_neg (by rw [(Cl.size_good p d h1 h2 h3 h4).1]; omega)]
theorem enc_bd (p d at_ : Int) : 0 ≤ enc p d at_ ∧ enc p d at_ ≤ 18446744073709551615 := by
  by_cases h : p < 0 ∨ p > 63 ∨ d < 0 ∨ d > 16384
  · rw [enc_bad p d at_ h]; omega
  · rw [enc_good p d at_ (by omega) (by omega) (by omega) (by omega)]
    exact Sl.seal_bd _ _ (by omega) (by omega)
def rawP (x : Int) : Int := x % 4294967296 / 256 % 64
def rawD (x : Int) : Int := x % 4294967296 / 16384 % 32768
theorem raw_bd (x : Int) : 0 ≤ rawP x ∧ rawP x ≤ 63 ∧ 0 ≤ rawD x ∧ rawD x ≤ 32767 := by unfold rawP rawD; omega
theorem raw_get (x : Int) : Bt.get (x % 4294967296) 8 6 = rawP x ∧ Bt.get (x % 4294967296) 14 15 = rawD x := by
  have a := get_div (x % 4294967296) 8 6 (by decide) (by decide) (by omega)
  have b := get_div (x % 4294967296) 14 15 (by decide) (by decide) (by omega)
  exact ⟨a, b⟩
def decB (x at_ : Int) : Bool := Sl.openB x at_ && decide (enc (rawP x) (rawD x) at_ = x)
def decE (x at_ : Int) : Int := if Sl.openB x at_ then (if enc (rawP x) (rawD x) at_ = x then 0 else 26) else 25
def decP (x at_ : Int) : Int := if decB x at_ then rawP x else 0
def decD (x at_ : Int) : Int := if decB x at_ then rawD x else 0
theorem dec_closed (x at_ : Int) (h : Sl.openB x at_ = false) : decE x at_ = 25 ∧ decP x at_ = 0 ∧ decD x at_ = 0 := by
  unfold decE decP decD decB; rw [h]; simp
theorem dec_other (x at_ : Int) (h : Sl.openB x at_ = true) (h2 : enc (rawP x) (rawD x) at_ ≠ x) : decE x at_ = 26 ∧ decP x at_ = 0 ∧ decD x at_ = 0 := by
  unfold decE decP decD decB; rw [h]; simp [h2]
theorem dec_right (x at_ : Int) (h : Sl.openB x at_ = true) (h2 : enc (rawP x) (rawD x) at_ = x) : decE x at_ = 0 ∧ decP x at_ = rawP x ∧ decD x at_ = rawD x := by
  unfold decE decP decD decB; rw [h]; simp [h2]
theorem dec_none (x at_ : Int) (h : Cl.size (rawP x) (rawD x) = 0) (h0 : 0 ≤ x) : enc (rawP x) (rawD x) at_ ≠ x := by
  intro e
  unfold enc at e
  rw [if_pos h] at e
  have hx : x = 0 := e.symm
  rw [hx] at h
  revert h
  decide
theorem dec_enc (p d at_ : Int) (h1 : 0 ≤ p) (h2 : p ≤ 63) (h3 : 0 ≤ d) (h4 : d ≤ 16384) : decE (enc p d at_) at_ = 0 ∧ decP (enc p d at_) at_ = p ∧ decD (enc p d at_) at_ = d := by
  have e := enc_good p d at_ h1 h2 h3 h4
  have hm := Sl.seal_mod (165 + 256 * p + 16384 * d) at_ (by omega) (by omega)
  have ho := (Sl.open_seal (165 + 256 * p + 16384 * d) at_ (by omega) (by omega)).1
  have rp : rawP (enc p d at_) = p := by unfold rawP; rw [e, hm]; omega
  have rd : rawD (enc p d at_) = d := by unfold rawD; rw [e, hm]; omega
  have r := dec_right (enc p d at_) at_ (by rw [e]; exact ho) (by rw [rp, rd])
  rw [rp, rd] at r
  exact r
def inB (i n : Int) : Bool := decide (0 ≤ i ∧ i < n)
theorem inB_yes (i n : Int) (h : 0 ≤ i) (h2 : i < n) : inB i n = true := by unfold inB; simp; omega
theorem inB_no (i n : Int) (h : i < 0 ∨ n ≤ i) : inB i n = false := by unfold inB; simp; omega
end Go.Proofs.Ythbkfgafdjcicaa.Oh
