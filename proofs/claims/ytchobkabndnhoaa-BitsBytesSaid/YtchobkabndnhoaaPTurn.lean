/- Plain lemmas: what the code's expressions on counting, least and greatest ones, and turning come to. No program in sight. -/
import Derived.Test.YtchobkabndnhoaaPCount
namespace Go.Proofs.Ytchobkabndnhoaa.Bt
set_option linter.unusedVariables false
open Go Go.RowKit
theorem wrap_of (X : Nat) (h : X < 18446744073709551616) : IntKind.u64.wrap (X : Int) = X := by rw [IntKind.wrap_u64]; omega
def M5 : Nat := 6148914691236517205
def M3 : Nat := 3689348814741910323
def MF : Nat := 1085102592571150095
theorem M5_rep : M5 = rep 85 8 := by decide
theorem M3_rep : M3 = rep 51 8 := by decide
theorem MF_rep : MF = rep 15 8 := by decide
theorem wrap64_small (n : Int) (h : 0 ≤ n) (h2 : n ≤ 1000000) : wrap64 n = n := by unfold wrap64; omega
theorem count_code (x : Int) (h1 : 0 ≤ x) (h2 : x ≤ 18446744073709551615) :
    wrap64 (IntKind.u64.wrap (bits .and .u64 (IntKind.u64.wrap (IntKind.u64.wrap (bits .and .u64 (IntKind.u64.wrap (x - bits .and .u64 (x / 2) 6148914691236517205)) 3689348814741910323 +
      bits .and .u64 (IntKind.u64.wrap (x - bits .and .u64 (x / 2) 6148914691236517205) / 4) 3689348814741910323) +
      IntKind.u64.wrap (bits .and .u64 (IntKind.u64.wrap (x - bits .and .u64 (x / 2) 6148914691236517205)) 3689348814741910323 +
      bits .and .u64 (IntKind.u64.wrap (x - bits .and .u64 (x / 2) 6148914691236517205) / 4) 3689348814741910323) / 16)) 1085102592571150095 * 72340172838076673) / 72057594037927936) = count x := by
  obtain ⟨X, rfl⟩ := Int.eq_ofNat_of_zero_le h1
  have a1 : bits .and .u64 ((X : Int) / 2) 6148914691236517205 = (((X / 2) &&& M5 : Nat) : Int) := by
    have := u64_and_nat (X / 2) M5 (by omega) (by decide)
    rw [← this]; rfl
  have l1 : X / 2 &&& M5 ≤ X / 2 := Nat.and_le_left
  have c1 : IntKind.u64.wrap ((X : Int) - bits .and .u64 ((X : Int) / 2) 6148914691236517205) = ((sw1 X M5 : Nat) : Int) := by
    rw [a1, IntKind.wrap_u64]; unfold sw1; omega
  have l2 : sw1 X M5 ≤ X := Nat.sub_le _ _
  rw [c1]
  generalize hY : sw1 X M5 = Y at *
  have a2 : bits .and .u64 (Y : Int) 3689348814741910323 = ((Y &&& M3 : Nat) : Int) := by
    have := u64_and_nat Y M3 (by omega) (by decide)
    rw [← this]; rfl
  have a3 : bits .and .u64 ((Y : Int) / 4) 3689348814741910323 = ((Y / 4 &&& M3 : Nat) : Int) := by
    have := u64_and_nat (Y / 4) M3 (by omega) (by decide)
    rw [← this]; rfl
  have m1 : Y &&& M3 ≤ M3 := Nat.and_le_right
  have m2 : Y / 4 &&& M3 ≤ M3 := Nat.and_le_right
  have e3 : M3 = 3689348814741910323 := rfl
  have c2 : IntKind.u64.wrap (bits .and .u64 (Y : Int) 3689348814741910323 + bits .and .u64 ((Y : Int) / 4) 3689348814741910323) = ((sw2 Y M3 : Nat) : Int) := by
    rw [a2, a3, IntKind.wrap_u64]; unfold sw2; omega
  have l3 : sw2 Y M3 ≤ 7378697629483820646 := by unfold sw2; omega
  rw [c2]
  generalize hZ : sw2 Y M3 = Z at *
  have c3 : IntKind.u64.wrap ((Z : Int) + (Z : Int) / 16) = ((Z + Z / 16 : Nat) : Int) := by rw [IntKind.wrap_u64]; omega
  rw [c3]
  have c4 : bits .and .u64 ((Z + Z / 16 : Nat) : Int) 1085102592571150095 = ((sw3 Z MF : Nat) : Int) := by
    have := u64_and_nat (Z + Z / 16) MF (by omega) (by decide)
    rw [show (1085102592571150095 : Int) = ((MF : Nat) : Int) from rfl, this]; rfl
  rw [c4]
  have hs := (swar 8 X (by simp; omega)).2
  rw [← M5_rep, ← M3_rep, ← MF_rep, hY, hZ] at hs
  rw [hs]
  have hp := pop_bytes X (by omega)
  have hp2 := cnt_le X.testBit 64
  rw [← pop_cnt] at hp2
  unfold count
  generalize sum8 8 X = S at *
  have e1 : ((S : Int) * 72340172838076673) = ((S * 72340172838076673 : Nat) : Int) := (Int.natCast_mul S 72340172838076673).symm
  have e2 : (((S * 72340172838076673 % 18446744073709551616 : Nat) : Int) / 72057594037927936) = ((S * 72340172838076673 % 18446744073709551616 / 72057594037927936 : Nat) : Int) := (Int.natCast_ediv _ 72057594037927936).symm
  rw [e1, wrap_nat, e2, hp, wrap64_small _ (by omega) (by omega)]
  rfl

/-! ## the least one -/
def low (x : Nat) : Nat → Nat
  | 0 => 0
  | m + 1 => if x % 2 = 1 then 0 else 1 + low (x / 2) m
def lowest (x : Int) : Int := (low x.toNat 64 : Nat)
theorem low_le (m : Nat) : ∀ x, low x m ≤ m := by
  induction m with
  | zero => intro x; simp [low]
  | succ m ih => intro x; unfold low; have := ih (x / 2); split <;> omega
theorem low_unique (m : Nat) : ∀ (x t : Nat), t ≤ m → (∀ i, i < t → x.testBit i = false) → (t < m → x.testBit t = true) → low x m = t := by
  induction m with
  | zero => intro x t h _ _; simp [low]; omega
  | succ m ih =>
    intro x t h h1 h2
    unfold low
    rcases Nat.eq_zero_or_pos t with rfl | ht
    · have := h2 (by omega)
      rw [Nat.testBit_zero] at this
      rw [if_pos (by simpa using this)]
    · have h0 := h1 0 ht
      rw [Nat.testBit_zero] at h0
      rw [if_neg (by simpa using h0), ih (x / 2) (t - 1) (by omega) (fun i hi => by rw [← Nat.testBit_succ]; exact h1 (i + 1) (by omega))
        (fun hlt => by rw [← Nat.testBit_succ, show (t - 1).succ = t from by omega]; exact h2 (by omega))]
      omega
theorem low_spec (m : Nat) : ∀ x, (∀ i, i < low x m → x.testBit i = false) ∧ (low x m < m → x.testBit (low x m) = true) := by
  induction m with
  | zero => intro x; simp [low]
  | succ m ih =>
    intro x
    unfold low
    by_cases h : x % 2 = 1
    · rw [if_pos h]; refine ⟨by omega, fun _ => by rw [Nat.testBit_zero]; simpa using h⟩
    · rw [if_neg h]
      obtain ⟨i1, i2⟩ := ih (x / 2)
      refine ⟨fun i hi => ?_, fun hlt => ?_⟩
      · rcases i with _ | i
        · rw [Nat.testBit_zero]; simpa using h
        · rw [Nat.testBit_succ]; exact i1 i (by omega)
      · rw [Nat.add_comm, Nat.testBit_succ]; exact i2 (by omega)
theorem cnt_below (t : Nat) : ∀ m, cnt (fun i => decide (i < t)) m = min t m := by
  intro m
  induction m with
  | zero => simp [cnt]
  | succ m ih => unfold cnt; rw [ih]; simp only [decide_eq_true_eq]; split <;> omega
theorem count_ones (t : Nat) (h : t ≤ 64) : count (((2 ^ t - 1 : Nat) : Int)) = t := by
  unfold count
  rw [Int.toNat_natCast, pop_cnt]
  have : cnt (2 ^ t - 1).testBit 64 = cnt (fun i => decide (i < t)) 64 := cnt_congr fun i _ => Nat.testBit_two_pow_sub_one ..
  rw [this, cnt_below]
  omega
/-- x & -x is the least one alone -/
theorem and_neg (X t : Nat) (hX : X < 18446744073709551616) (ht : t < 64) (h1 : ∀ i, i < t → X.testBit i = false) (h2 : X.testBit t = true) : X &&& (18446744073709551616 - X) = 2 ^ t := by
  have hpos : 2 ^ t ≤ X := Nat.ge_two_pow_of_testBit h2
  have hp := Nat.one_le_two_pow (n := t)
  obtain ⟨q, hq⟩ : ∃ q, X = 2 ^ t * (2 * q + 1) := by
    have hm : X % 2 ^ t = 0 := by
      apply Nat.eq_of_testBit_eq
      intro i
      rw [Nat.testBit_mod_two_pow]
      by_cases hi : i < t
      · simp [h1 i hi]
      · simp [hi]
    have hd : X / 2 ^ t % 2 = 1 := by
      rw [Nat.testBit_eq_decide_div_mod_eq] at h2; simpa using h2
    refine ⟨X / 2 ^ t / 2, ?_⟩
    have e := Nat.div_add_mod X (2 ^ t)
    have e2 := Nat.div_add_mod (X / 2 ^ t) 2
    rw [hd] at e2
    rw [e2]; omega
  have e : 18446744073709551616 - X = 2 ^ 64 - ((X - 1) + 1) := by omega
  apply Nat.eq_of_testBit_eq
  intro i
  rw [e, Nat.testBit_and, Nat.testBit_two_pow_sub_succ (by simp; omega)]
  have ex1 : X = 2 ^ t * (2 * q + 1) + 0 := by omega
  have ex : X - 1 = 2 ^ t * (2 * q) + (2 ^ t - 1) := by
    have : 2 ^ t * (2 * q + 1) = 2 ^ t * (2 * q) + 2 ^ t := by rw [Nat.mul_add, Nat.mul_one]
    omega
  rw [ex, Nat.testBit_two_pow_mul_add _ (by omega), Nat.testBit_two_pow]
  by_cases hi : i < t
  · rw [h1 i hi]; simp; omega
  · rw [if_neg hi]
    have b : X.testBit i = (2 * q + 1).testBit (i - t) := by
      rw [ex1, Nat.testBit_two_pow_mul_add _ (by omega), if_neg hi]
    rw [b]
    rcases Nat.eq_zero_or_pos (i - t) with hz | hz
    · rw [hz]
      have : i = t := by omega
      subst this
      simp [ht]
    · obtain ⟨j, hj⟩ := Nat.exists_eq_succ_of_ne_zero (Nat.ne_of_gt hz)
      rw [hj, Nat.testBit_succ, Nat.testBit_succ, show (2 * q + 1) / 2 = q from by omega, show 2 * q / 2 = q from by omega]
      have : t ≠ i := by omega
      simp [this]
      intro a b; simp [a]
theorem lowest_code (x : Int) (h1 : 0 ≤ x) (h2 : x ≤ 18446744073709551615) : count (IntKind.u64.wrap (bits .and .u64 x (IntKind.u64.wrap (-x)) - 1)) = lowest x := by
  obtain ⟨X, rfl⟩ := Int.eq_ofNat_of_zero_le h1
  unfold lowest
  obtain ⟨s1, s2⟩ := low_spec 64 X
  have sl := low_le 64 X
  rw [Int.toNat_natCast]
  rcases Nat.eq_zero_or_pos X with rfl | hX
  · have e : bits .and .u64 ((0 : Nat) : Int) (IntKind.u64.wrap (-((0 : Nat) : Int))) = 0 := by decide
    rw [e, show IntKind.u64.wrap (0 - 1) = ((2 ^ 64 - 1 : Nat) : Int) from by decide, count_ones 64 (by decide)]
    decide
  · have e : IntKind.u64.wrap (-(X : Int)) = ((18446744073709551616 - X : Nat) : Int) := by rw [IntKind.wrap_u64]; omega
    rw [e, u64_and_nat _ _ (by omega) (by omega)]
    by_cases ht : low X 64 < 64
    · rw [and_neg X (low X 64) (by omega) ht s1 (s2 ht)]
      have hp := pow_bdN (low X 64) ht
      have e2 : IntKind.u64.wrap (((2 ^ low X 64 : Nat) : Int) - 1) = ((2 ^ low X 64 - 1 : Nat) : Int) := by rw [IntKind.wrap_u64]; omega
      rw [e2, count_ones _ sl]
    · exfalso
      have : X = 0 := by
        apply Nat.eq_of_testBit_eq
        intro i
        rw [Nat.zero_testBit]
        by_cases hi : i < 64
        · exact s1 i (by omega)
        · exact high_bit X i (by omega) (by omega)
      omega
end Go.Proofs.Ytchobkabndnhoaa.Bt
