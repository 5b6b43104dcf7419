/- Plain lemmas: a field that was put is got, fields beside it stay. No program in sight. -/
import Derived.Test.YthbkfgafdjcicaaPBits
namespace Go.Proofs.Ythbkfgafdjcicaa.Bt
set_option linter.unusedVariables false
open Go
theorem testBit_putN (x : Nat) (a k : Int) (n : Nat) (i : Nat) (h : 0 ≤ a) (h2 : a < 64) :
    (putN x a k n).testBit i = (decide (i < 64) && if a.toNat ≤ i ∧ i < a.toNat + k.toNat then n.testBit (i - a.toNat) else x.testBit i) := by
  unfold putN
  rw [if_pos ⟨h, h2⟩, testBit_ofBits]
theorem toNat_put (x a k n : Int) : (put x a k n).toNat = putN x.toNat a k n.toNat := by unfold put; exact Int.toNat_natCast _
theorem toNat_get (x a k : Int) : (get x a k).toNat = getN x.toNat a k := by unfold get; exact Int.toNat_natCast _
theorem get_ext (x y a b k l : Int) (h : ∀ i, (getN x.toNat a k).testBit i = (getN y.toNat b l).testBit i) : get x a k = get y b l := by
  unfold get; rw [Nat.eq_of_testBit_eq h]
theorem back1 (x n a k e : Int) (h0 : 0 ≤ a) (h1 : a < 64) (h2 : 0 ≤ k) (h3 : k ≤ 64) (he : e = if a + k ≤ 64 then a + k else 64) : get (put x a k n) a k = get n 0 (e - a) := by
  apply get_ext
  intro i
  rw [toNat_put, testBit_getN _ _ _ _ h0 h1, testBit_getN _ _ _ _ (by omega) (by omega), testBit_putN _ _ _ _ _ h0 h1]
  by_cases hi : (i : Int) < k ∧ a + i < 64
  · have c1 : i < min k.toNat 64 := by omega
    have c2 : a.toNat + i < 64 := by omega
    have c3 : i < min (e - a).toNat 64 := by split at he <;> omega
    have c4 : a.toNat ≤ a.toNat + i ∧ a.toNat + i < a.toNat + k.toNat := by omega
    rw [if_pos c4]
    simp only [c1, c2, c3, decide_true, Bool.true_and, Bool.and_true]
    congr 1
    have : (0 : Int).toNat = 0 := rfl
    omega
  · have c3 : ¬ i < min (e - a).toNat 64 := by split at he <;> omega
    simp only [c3, decide_false, Bool.and_false]
    by_cases hk : (i : Int) < k
    · have c2 : ¬ a.toNat + i < 64 := by omega
      simp [c2]
    · have c1 : ¬ i < min k.toNat 64 := by omega
      simp only [c1, decide_false, Bool.and_false]
theorem back2 (x n a k : Int) (h0 : 0 ≤ a) (h1 : a < 64) : get (put x a k n) 0 a = get x 0 a := by
  apply get_ext
  intro i
  rw [toNat_put, testBit_getN _ _ _ _ (by omega) (by omega), testBit_getN _ _ _ _ (by omega) (by omega), testBit_putN _ _ _ _ _ h0 h1]
  by_cases hi : i < min a.toNat 64
  · have c : ¬ (a.toNat ≤ (0 : Int).toNat + i ∧ (0 : Int).toNat + i < a.toNat + k.toNat) := by
      have : (0 : Int).toNat = 0 := rfl
      omega
    have c2 : (0 : Int).toNat + i < 64 := by
      have : (0 : Int).toNat = 0 := rfl
      omega
    rw [if_neg c]; simp only [c2, hi, decide_true, Bool.true_and, Bool.and_true]
  · simp [hi]
theorem back3 (x n a k e : Int) (h0 : 0 ≤ a) (h1 : a < 64) (h2 : 0 ≤ k) (h3 : k ≤ 64) (hx : 0 ≤ x) (hx2 : x ≤ 18446744073709551615) (he : e = if a + k ≤ 64 then a + k else 64) : get (put x a k n) e 64 = get x e 64 := by
  by_cases h64 : 64 ≤ e
  · rw [get_out _ _ _ (.inr h64), get_out _ _ _ (.inr h64)]
  · apply get_ext
    intro i
    have e1 : e = a + k := by split at he <;> omega
    rw [toNat_put, testBit_getN _ _ _ _ (by omega) (by omega), testBit_getN _ _ _ _ (by omega) (by omega), testBit_putN _ _ _ _ _ h0 h1]
    have c : ¬ (a.toNat ≤ e.toNat + i ∧ e.toNat + i < a.toNat + k.toNat) := by omega
    rw [if_neg c]
    by_cases hi : e.toNat + i < 64
    · simp [hi]
    · rw [high_bit x.toNat (e.toNat + i) (by omega) (by omega)]; simp
theorem back4 (x n a k : Int) (h0 : 0 ≤ a) (h1 : a < 64) (h2 : 0 ≤ k) (h3 : k ≤ 64) (hx : 0 ≤ x) (hx2 : x ≤ 18446744073709551615) : put (put x a k n) a k (get x a k) = x := by
  have key : putN (putN x.toNat a k n.toNat) a k (getN x.toNat a k) = x.toNat := by
    apply Nat.eq_of_testBit_eq
    intro i
    rw [testBit_putN _ _ _ _ _ h0 h1, testBit_putN _ _ _ _ _ h0 h1, testBit_getN _ _ _ _ h0 h1]
    by_cases hi : i < 64
    · by_cases hc : a.toNat ≤ i ∧ i < a.toNat + k.toNat
      · rw [if_pos hc]
        have c1 : i - a.toNat < min k.toNat 64 := by omega
        have c2 : a.toNat + (i - a.toNat) = i := by omega
        simp only [hi, c1, c2, decide_true, Bool.true_and, Bool.and_true]
      · rw [if_neg hc, if_neg hc]; simp [hi]
    · rw [high_bit x.toNat i (by omega) (by omega)]; simp [hi]
  have : put (put x a k n) a k (get x a k) = (putN (put x a k n).toNat a k (get x a k).toNat : Nat) := rfl
  rw [this, toNat_put, toNat_get, key]
  omega
end Go.Proofs.Ythbkfgafdjcicaa.Bt
