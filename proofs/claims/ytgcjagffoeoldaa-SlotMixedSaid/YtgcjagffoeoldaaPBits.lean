/- Plain lemmas on bits of numbers: no program in sight. -/
import Derived.WalkKit
import Derived.Laws.BitsAllLaws
namespace Go.Proofs.Ytgcjagffoeoldaa.Bt
set_option linter.unusedVariables false
open Go

/-! powers, masks -/
theorem pow_int (k : Nat) : ((2 ^ k : Nat) : Int) = (2 : Int) ^ k := by simp
theorem pow_bdN (k : Nat) (h : k < 64) : 1 ≤ 2 ^ k ∧ 2 ^ k ≤ 9223372036854775808 := by
  have a := Nat.one_le_two_pow (n := k)
  have b : (2 : Nat) ^ k ≤ 2 ^ 63 := Nat.pow_le_pow_right (by decide) (by omega)
  omega
theorem pow_bd (k : Nat) (h : k < 64) : (1 : Int) ≤ 2 ^ k ∧ (2 : Int) ^ k ≤ 9223372036854775808 := by
  have := pow_bdN k h
  have c := pow_int k
  omega
/-- so many ones at the right -/
def maskN (k : Int) : Nat := 2 ^ (min k.toNat 64) - 1
def mask (k : Int) : Int := (maskN k : Nat)
theorem maskN_lt (k : Int) : maskN k < 18446744073709551616 := by
  have h : (2 : Nat) ^ (min k.toNat 64) ≤ 2 ^ 64 := Nat.pow_le_pow_right (by decide) (Nat.min_le_right _ _)
  have := Nat.one_le_two_pow (n := min k.toNat 64)
  unfold maskN; omega
theorem mask_nonneg (k : Int) : 0 ≤ mask k := Int.natCast_nonneg _
theorem mask_le (k : Int) : mask k ≤ 18446744073709551615 := by have := maskN_lt k; unfold mask; omega
theorem mask_le0 (k : Int) (h : k ≤ 0) : mask k = 0 := by
  have : k.toNat = 0 := by omega
  unfold mask maskN; rw [this]; simp
theorem mask_ge (k : Int) (h : 64 ≤ k) : mask k = 18446744073709551615 := by
  have : min k.toNat 64 = 64 := by omega
  unfold mask maskN; rw [this]; decide
theorem mask_mid (k : Int) (h : 0 < k) (h2 : k < 64) : IntKind.u64.wrap (IntKind.u64.wrap (2 ^ k.toNat) - 1) = mask k := by
  have e : min k.toNat 64 = k.toNat := by omega
  have := pow_bdN k.toNat (by omega)
  have c := pow_int k.toNat
  unfold mask maskN
  rw [e, IntKind.wrap_u64, IntKind.wrap_u64, ← c]
  omega
theorem testBit_maskN (k : Int) (i : Nat) : (maskN k).testBit i = decide (i < min k.toNat 64) := by
  unfold maskN; exact Nat.testBit_two_pow_sub_one ..

/-! a number by its bits -/
def ofBits (f : Nat → Bool) : Nat → Nat
  | 0 => 0
  | m + 1 => ofBits f m + (if f m then 2 ^ m else 0)
theorem ofBits_lt (f : Nat → Bool) (m : Nat) : ofBits f m < 2 ^ m := by
  induction m with
  | zero => simp [ofBits]
  | succ m ih => unfold ofBits; split <;> (rw [Nat.pow_succ]; omega)
theorem testBit_ofBits (f : Nat → Bool) (m i : Nat) : (ofBits f m).testBit i = (decide (i < m) && f i) := by
  induction m with
  | zero => simp [ofBits]
  | succ m ih =>
    unfold ofBits
    have hl := ofBits_lt f m
    have e : ofBits f m + (if f m then 2 ^ m else 0) = 2 ^ m * (if f m then 1 else 0) + ofBits f m := by split <;> omega
    rw [e, Nat.testBit_two_pow_mul_add _ hl]
    by_cases h : i < m
    · rw [if_pos h, ih]; simp [h, Nat.lt_succ_of_lt h]
    · rw [if_neg h]
      by_cases h2 : i = m
      · subst h2; cases f i <;> simp
      · have : ¬ i < m + 1 := by omega
        have h3 : i - m ≠ 0 := by omega
        simp only [this, decide_false, Bool.false_and]
        split
        · obtain ⟨j, hj⟩ := Nat.exists_eq_succ_of_ne_zero h3
          rw [hj, Nat.testBit_succ]; simp
        · simp
theorem ofBits_congr {f g : Nat → Bool} {m : Nat} (h : ∀ i, i < m → f i = g i) : ofBits f m = ofBits g m := by
  induction m with
  | zero => rfl
  | succ m ih => unfold ofBits; rw [ih (fun i hi => h i (by omega)), h m (by omega)]
theorem ofBits_self (x m : Nat) (h : x < 2 ^ m) : ofBits x.testBit m = x := by
  apply Nat.eq_of_testBit_eq
  intro i
  rw [testBit_ofBits]
  by_cases hi : i < m
  · simp [hi]
  · simp only [hi, decide_false, Bool.false_and]
    exact (Nat.testBit_lt_two_pow (Nat.lt_of_lt_of_le h (Nat.pow_le_pow_right (by decide) (by omega)))).symm
theorem high_bit (x i : Nat) (h : x < 18446744073709551616) (hi : 64 ≤ i) : x.testBit i = false :=
  Nat.testBit_lt_two_pow (Nat.lt_of_lt_of_le h (by have : (2 : Nat) ^ 64 ≤ 2 ^ i := Nat.pow_le_pow_right (by decide) hi; simpa using this))

/-! fields -/
def getN (x : Nat) (a : Int) (k : Int) : Nat := if 0 ≤ a ∧ a < 64 then (x >>> a.toNat) &&& maskN k else 0
def get (x a k : Int) : Int := (getN x.toNat a k : Nat)
theorem getN_lt (x : Nat) (a k : Int) : getN x a k < 18446744073709551616 := by
  unfold getN; split
  · exact Nat.lt_of_le_of_lt Nat.and_le_right (maskN_lt k)
  · omega
theorem get_nonneg (x a k : Int) : 0 ≤ get x a k := Int.natCast_nonneg _
theorem get_le (x a k : Int) : get x a k ≤ 18446744073709551615 := by have := getN_lt x.toNat a k; unfold get; omega
theorem get_out (x a k : Int) (h : a < 0 ∨ 64 ≤ a) : get x a k = 0 := by unfold get getN; rw [if_neg (by omega)]; rfl
theorem get_in (x a k : Int) (hx : 0 ≤ x) (hx2 : x ≤ 18446744073709551615) (h : ¬ a < 0) (h2 : a < 64) :
    bits .and .u64 (x / 2 ^ a.toNat) (mask k) = get x a k := by
  obtain ⟨X, rfl⟩ := Int.eq_ofNat_of_zero_le hx
  have e : ((X : Int) / 2 ^ a.toNat) = ((X / 2 ^ a.toNat : Nat) : Int) := by rw [← pow_int]; exact (Int.natCast_ediv ..).symm
  have hl : X / 2 ^ a.toNat ≤ X := Nat.div_le_self _ _
  rw [e]
  unfold mask
  rw [u64_and_nat _ _ (by omega) (maskN_lt k)]
  unfold get getN
  rw [if_pos (by omega), Nat.shiftRight_eq_div_pow]
  rfl
theorem testBit_getN (x : Nat) (a k : Int) (i : Nat) (h : 0 ≤ a) (h2 : a < 64) : (getN x a k).testBit i = (x.testBit (a.toNat + i) && decide (i < min k.toNat 64)) := by
  unfold getN
  rw [if_pos ⟨h, h2⟩, Nat.testBit_and, Nat.testBit_shiftRight, testBit_maskN]

def putN (x : Nat) (a k : Int) (n : Nat) : Nat :=
  if 0 ≤ a ∧ a < 64 then ofBits (fun i => if a.toNat ≤ i ∧ i < a.toNat + k.toNat then n.testBit (i - a.toNat) else x.testBit i) 64 else x
def put (x a k n : Int) : Int := (putN x.toNat a k n.toNat : Nat)
theorem putN_lt (x : Nat) (a k : Int) (n : Nat) (h : x < 18446744073709551616) : putN x a k n < 18446744073709551616 := by
  unfold putN; split
  · have := ofBits_lt (fun i => if a.toNat ≤ i ∧ i < a.toNat + k.toNat then n.testBit (i - a.toNat) else x.testBit i) 64
    simpa using this
  · exact h
theorem put_nonneg (x a k n : Int) : 0 ≤ put x a k n := Int.natCast_nonneg _
theorem put_le (x a k n : Int) (h : x ≤ 18446744073709551615) : put x a k n ≤ 18446744073709551615 := by
  have := putN_lt x.toNat a k n.toNat (by omega); unfold put; omega
theorem put_out (x a k n : Int) (hx : 0 ≤ x) (h : a < 0 ∨ 64 ≤ a) : put x a k n = x := by unfold put putN; rw [if_neg (by omega)]; omega
theorem wrap_nat (X : Nat) : IntKind.u64.wrap (X : Int) = ((X % 18446744073709551616 : Nat) : Int) := by rw [IntKind.wrap_u64]; omega
theorem wrap_shl (X : Nat) (s : Nat) : IntKind.u64.wrap ((X : Int) * 2 ^ s) = ((X * 2 ^ s % 18446744073709551616 : Nat) : Int) := by
  rw [← pow_int, ← Int.natCast_mul, wrap_nat]
theorem testBit_shl (X s i : Nat) : (X * 2 ^ s % 18446744073709551616).testBit i = (decide (i < 64) && (decide (s ≤ i) && X.testBit (i - s))) := by
  have e : 18446744073709551616 = 2 ^ 64 := by decide
  rw [e, Nat.testBit_mod_two_pow, Nat.mul_comm, Nat.testBit_two_pow_mul]
theorem put_in (x a k n : Int) (hx : 0 ≤ x) (hx2 : x ≤ 18446744073709551615) (hn : 0 ≤ n) (hn2 : n ≤ 18446744073709551615) (h : ¬ a < 0) (h2 : a < 64) :
    bits .or .u64 (bits .andNot .u64 x (IntKind.u64.wrap (mask k * 2 ^ a.toNat))) (bits .and .u64 (IntKind.u64.wrap (n * 2 ^ a.toNat)) (IntKind.u64.wrap (mask k * 2 ^ a.toNat))) = put x a k n := by
  obtain ⟨X, rfl⟩ := Int.eq_ofNat_of_zero_le hx
  obtain ⟨N, rfl⟩ := Int.eq_ofNat_of_zero_le hn
  unfold mask
  rw [wrap_shl, wrap_shl]
  have hm : maskN k * 2 ^ a.toNat % 18446744073709551616 < 18446744073709551616 := Nat.mod_lt _ (by decide)
  have hN : N * 2 ^ a.toNat % 18446744073709551616 < 18446744073709551616 := Nat.mod_lt _ (by decide)
  have bm := fun i => testBit_shl (maskN k) a.toNat i
  have bN := fun i => testBit_shl N a.toNat i
  generalize maskN k * 2 ^ a.toNat % 18446744073709551616 = M at *
  generalize N * 2 ^ a.toNat % 18446744073709551616 = NN at *
  rw [u64_andNot_nat _ _ (by omega) hm, u64_and_nat _ _ hN hm]
  have l1 : X &&& (18446744073709551615 - M) < 18446744073709551616 := Nat.lt_of_le_of_lt Nat.and_le_left (by omega)
  have l2 : NN &&& M < 18446744073709551616 := Nat.lt_of_le_of_lt Nat.and_le_left hN
  rw [u64_or_nat _ _ l1 l2]
  unfold put putN
  rw [if_pos (by omega)]
  congr 1
  apply Nat.eq_of_testBit_eq
  intro i
  rw [testBit_ofBits, Nat.testBit_or, Nat.testBit_and, Nat.testBit_and]
  have e : 18446744073709551615 - M = 2 ^ 64 - (M + 1) := by omega
  rw [e, Nat.testBit_two_pow_sub_succ (by simpa using hm), bm, bN, testBit_maskN]
  by_cases h64 : i < 64
  · by_cases ha : a.toNat ≤ i
    · by_cases hk : i < a.toNat + k.toNat
      · have h1 : i - a.toNat < min k.toNat 64 := by omega
        simp [h64, ha, hk, h1]
      · have h1 : ¬ i - a.toNat < min k.toNat 64 := by omega
        simp [h64, ha, hk, h1]
    · simp [h64, ha]
  · have hx64 := high_bit X i (by omega) (by omega)
    simp [h64, hx64]

def fits (n k : Int) : Bool := n.toNat &&& (18446744073709551615 - maskN k) == 0
theorem fits_code (n k : Int) (hn : 0 ≤ n) (hn2 : n ≤ 18446744073709551615) : (bits .andNot .u64 n (mask k) == 0) = fits n k := by
  obtain ⟨N, rfl⟩ := Int.eq_ofNat_of_zero_le hn
  unfold mask fits
  rw [u64_andNot_nat _ _ (by omega) (maskN_lt k)]
  simp only [Int.toNat_natCast]
  generalize N &&& (18446744073709551615 - maskN k) = z
  rw [Bool.eq_iff_iff]; simp

/-! the reference's functions: plain -/
def bit (x i : Int) : Bool := x.toNat.testBit i.toNat
theorem bit_code (X j : Nat) : (((X / 2 ^ j : Nat) : Int) % 2 == 1) = X.testBit j := by
  rw [Nat.testBit_eq_decide_div_mod_eq, Bool.eq_iff_iff]
  simp only [beq_iff_eq, decide_eq_true_eq]
  omega
def hf (X j : Nat) : Int := ((X / 2 ^ j : Nat) : Int)
theorem hf_nonneg (X j : Nat) : 0 ≤ hf X j := Int.natCast_nonneg _
theorem hf_le (X j : Nat) (h : X ≤ 18446744073709551615) : hf X j ≤ 18446744073709551615 := by
  have : X / 2 ^ j ≤ X := Nat.div_le_self _ _
  unfold hf; omega
theorem hf_zero (X : Nat) : hf X 0 = X := by simp [hf]
theorem hf_bit (X : Nat) (i : Int) (j : Nat) (h : i.toNat = j) : (hf X j % 2 == 1) = bit X i := by
  unfold hf bit; rw [h]; simpa using bit_code X j
theorem hf_succ (X j : Nat) : hf X j / 2 = hf X (j + 1) := by
  unfold hf; rw [Nat.pow_succ, ← Nat.div_div_eq_div_mul]; omega
def pw (j : Nat) : Int := ((2 ^ j : Nat) : Int)
theorem pw_bd (j : Nat) (h : j < 64) : 1 ≤ pw j ∧ pw j ≤ 9223372036854775808 := by
  have := pow_bdN j h
  unfold pw; omega
theorem div_pow_succ (X j : Nat) : X / 2 ^ j / 2 = X / 2 ^ (j + 1) := by rw [Nat.div_div_eq_div_mul, Nat.pow_succ]
theorem one_step (j : Nat) (h : j < 63) : IntKind.u64.wrap (pw j * 2) = pw (j + 1) := by
  unfold pw
  have h2 : (2 : Nat) ^ (j + 1) = 2 ^ j * 2 := Nat.pow_succ ..
  have := pow_bdN (j + 1) (by omega)
  rw [IntKind.wrap_u64]
  omega
/-- how many bits the reference looks at -/
def getLen (a k : Int) : Nat := if 0 ≤ a ∧ a < 64 then min (min k.toNat 64) (64 - a.toNat) else 0
theorem getLen_le (a k : Int) : getLen a k ≤ 64 := by unfold getLen; split <;> omega
def getRef (x a : Int) (m : Nat) : Int := (ofBits (fun i => x.toNat.testBit (a.toNat + i)) m : Nat)
theorem getRef_eq (x a k : Int) (hx2 : x ≤ 18446744073709551615) : getRef x a (getLen a k) = get x a k := by
  unfold getRef get
  congr 1
  apply Nat.eq_of_testBit_eq
  intro i
  rw [testBit_ofBits]
  by_cases h : 0 ≤ a ∧ a < 64
  · rw [testBit_getN _ _ _ _ h.1 h.2]
    unfold getLen
    rw [if_pos h]
    by_cases h1 : i < min k.toNat 64
    · by_cases h2 : i < 64 - a.toNat
      · have : i < min (min k.toNat 64) (64 - a.toNat) := by omega
        simp only [h1, this, decide_true, Bool.true_and, Bool.and_true]
      · have e : ¬ i < min (min k.toNat 64) (64 - a.toNat) := by omega
        rw [high_bit x.toNat (a.toNat + i) (by omega) (by omega)]; simp
    · have e : ¬ i < min (min k.toNat 64) (64 - a.toNat) := by omega
      simp only [h1, e, decide_false, Bool.false_and, Bool.and_false]
  · unfold getLen getN
    rw [if_neg h, if_neg h]; simp
theorem getRef_zero (x a : Int) : getRef x a 0 = 0 := rfl
theorem getRef_bd (x a : Int) (m : Nat) (h : m ≤ 64) : 0 ≤ getRef x a m ∧ getRef x a m ≤ 18446744073709551615 := by
  have := ofBits_lt (fun i => x.toNat.testBit (a.toNat + i)) m
  have h2 : (2 : Nat) ^ m ≤ 2 ^ 64 := Nat.pow_le_pow_right (by decide) h
  unfold getRef; omega
theorem getRef_yes (x a : Int) (m : Nat) (ha : 0 ≤ a) (h : m < 64) (hb : bit x (a + m) = true) : IntKind.u64.wrap (getRef x a m + pw m) = getRef x a (m + 1) := by
  have h1 := ofBits_lt (fun i => x.toNat.testBit (a.toNat + i)) m
  have h2 := pow_bdN m h
  have e : (a + m).toNat = a.toNat + m := by omega
  unfold bit at hb
  rw [e] at hb
  have e2 : ofBits (fun i => x.toNat.testBit (a.toNat + i)) (m + 1) = ofBits (fun i => x.toNat.testBit (a.toNat + i)) m + 2 ^ m := by rw [ofBits]; simp only [hb, if_true]
  unfold getRef pw
  rw [e2, IntKind.wrap_u64]; omega
theorem getRef_no (x a : Int) (m : Nat) (ha : 0 ≤ a) (hb : bit x (a + m) = false) : getRef x a m = getRef x a (m + 1) := by
  have e : (a + m).toNat = a.toNat + m := by omega
  unfold bit at hb
  rw [e] at hb
  have : getRef x a (m + 1) = ((ofBits (fun i => x.toNat.testBit (a.toNat + i)) m + 0 : Nat) : Int) := by
    unfold getRef; rw [ofBits, hb]; simp
  rw [this]; rfl
def putBit (x a k n : Int) (j : Nat) : Bool := if 0 ≤ a ∧ a ≤ (j : Int) ∧ (j : Int) - a < k then bit n (j - a) else bit x j
def putRef (x a k n : Int) (m : Nat) : Int := (ofBits (putBit x a k n) m : Nat)
theorem upRef_bd (f : Nat → Bool) (m : Nat) (h : m ≤ 64) : 0 ≤ ((ofBits f m : Nat) : Int) ∧ ((ofBits f m : Nat) : Int) ≤ 18446744073709551615 := by
  have := ofBits_lt f m
  have h2 : (2 : Nat) ^ m ≤ 2 ^ 64 := Nat.pow_le_pow_right (by decide) h
  omega
theorem up_yes (f : Nat → Bool) (m : Nat) (h : m < 64) (hb : f m = true) : IntKind.u64.wrap (((ofBits f m : Nat) : Int) + pw m) = ((ofBits f (m + 1) : Nat) : Int) := by
  have h1 := ofBits_lt f m
  have h2 := pow_bdN m h
  have e2 : ofBits f (m + 1) = ofBits f m + 2 ^ m := by rw [ofBits]; simp only [hb, if_true]
  unfold pw
  rw [e2, IntKind.wrap_u64]; omega
theorem up_no (f : Nat → Bool) (m : Nat) (hb : f m = false) : ofBits f m = ofBits f (m + 1) := by
  rw [ofBits, hb]; simp
theorem putRef_bd (x a k n : Int) (m : Nat) (h : m ≤ 64) : 0 ≤ putRef x a k n m ∧ putRef x a k n m ≤ 18446744073709551615 := upRef_bd _ m h
theorem putRef_yes (x a k n : Int) (m : Nat) (h : m < 64) (hb : putBit x a k n m = true) : IntKind.u64.wrap (putRef x a k n m + pw m) = putRef x a k n (m + 1) := up_yes _ m h hb
theorem putRef_no (x a k n : Int) (m : Nat) (hb : putBit x a k n m = false) : putRef x a k n m = putRef x a k n (m + 1) := by
  unfold putRef; rw [← up_no _ m hb]
theorem putRef_eq (x a k n : Int) (hx : 0 ≤ x) (hx2 : x ≤ 18446744073709551615) : putRef x a k n 64 = put x a k n := by
  unfold putRef put putN
  by_cases h : 0 ≤ a ∧ a < 64
  · rw [if_pos h]
    congr 1
    apply ofBits_congr
    intro i hi
    unfold putBit bit
    by_cases h2 : 0 ≤ a ∧ a ≤ (i : Int) ∧ (i : Int) - a < k
    · rw [if_pos h2, if_pos (by omega)]; congr 1; omega
    · rw [if_neg h2, if_neg (by omega)]; rfl
  · rw [if_neg h, ← ofBits_self x.toNat 64 (by simp; omega)]
    congr 1
    apply ofBits_congr
    intro i hi
    unfold putBit bit
    rw [if_neg (by omega)]; rfl
end Go.Proofs.Ytgcjagffoeoldaa.Bt
