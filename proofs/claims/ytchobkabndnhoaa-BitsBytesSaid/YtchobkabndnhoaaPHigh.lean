/- Plain lemmas: the greatest one; turning; pieces. No program in sight. -/
import Derived.Test.YtchobkabndnhoaaPTurn
namespace Go.Proofs.Ytchobkabndnhoaa.Bt
set_option linter.unusedVariables false
open Go Go.RowKit
/-! ## the greatest one -/
def hb (x : Nat) : Nat := if x = 0 then 0 else Nat.log2 x + 1
def highest (x : Int) : Int := (hb x.toNat : Int) - 1
theorem hb_spec (x : Nat) : x < 2 ^ hb x ∧ (0 < hb x → 2 ^ (hb x - 1) ≤ x) := by
  unfold hb
  split
  · subst_vars; simp
  · rename_i h
    exact ⟨Nat.lt_log2_self, fun _ => by simpa using Nat.log2_self_le h⟩
theorem hb_unique (x k : Nat) (h1 : x < 2 ^ k) (h2 : 0 < k → 2 ^ (k - 1) ≤ x) : hb x = k := by
  obtain ⟨s1, s2⟩ := hb_spec x
  rcases Nat.lt_trichotomy (hb x) k with h | h | h
  · have a := h2 (by omega)
    have b : (2 : Nat) ^ hb x ≤ 2 ^ (k - 1) := Nat.pow_le_pow_right (by decide) (by omega)
    omega
  · exact h
  · have a := s2 (by omega)
    have b : (2 : Nat) ^ k ≤ 2 ^ (hb x - 1) := Nat.pow_le_pow_right (by decide) (by omega)
    omega
theorem hb_shift (x s : Nat) (h : x / 2 ^ s ≠ 0) : hb x = hb (x / 2 ^ s) + s := by
  obtain ⟨s1, s2⟩ := hb_spec (x / 2 ^ s)
  have hp := Nat.two_pow_pos s
  have hpos : 0 < hb (x / 2 ^ s) := by
    rcases Nat.eq_zero_or_pos (hb (x / 2 ^ s)) with h0 | h0
    · rw [h0, Nat.pow_zero] at s1; exact absurd (Nat.lt_one_iff.1 s1) h
    · exact h0
  have a := s2 hpos
  apply hb_unique
  · rw [Nat.pow_add]
    exact (Nat.div_lt_iff_lt_mul hp).1 s1
  · intro _
    rw [show hb (x / 2 ^ s) + s - 1 = (hb (x / 2 ^ s) - 1) + s from by omega, Nat.pow_add]
    exact (Nat.le_div_iff_mul_le hp).1 a
theorem hb_le (x m : Nat) (h : x < 2 ^ m) : hb x ≤ m := by
  rcases Nat.lt_or_ge m (hb x) with h2 | h2
  · have a := (hb_spec x).2 (by omega)
    have b : (2 : Nat) ^ m ≤ 2 ^ (hb x - 1) := Nat.pow_le_pow_right (by decide) (by omega)
    omega
  · exact h2
theorem hb_small (x : Nat) (h : x < 2) : hb x = x := by
  rcases x with _ | _ | x
  · rfl
  · decide
  · omega
theorem hb_bit (x i : Nat) (h : x.testBit i = true) (h2 : ∀ j, i < j → x.testBit j = false) : hb x = i + 1 := by
  apply hb_unique
  · exact Nat.lt_pow_two_of_testBit x (fun j hj => h2 j (by omega))
  · intro _; simpa using Nat.ge_two_pow_of_testBit h
theorem highest_bd (x : Int) (h2 : x ≤ 18446744073709551615) : -1 ≤ highest x ∧ highest x ≤ 63 := by
  have := hb_le x.toNat 64 (by simp; omega)
  unfold highest; omega
/-! ## turning -/
def rs (r : Nat) : Nat := r * 2 % 18446744073709551616 + r / 9223372036854775808
def rot (x : Nat) : Nat → Nat
  | 0 => x
  | k + 1 => rs (rot x k)
def turn (x b : Int) : Int := (rot x.toNat (b % 64).toNat : Nat)
theorem rs_lt (r : Nat) (h : r < 18446744073709551616) : rs r < 18446744073709551616 := by unfold rs; omega
theorem rot_lt (x : Nat) (h : x < 18446744073709551616) (k : Nat) : rot x k < 18446744073709551616 := by
  induction k with
  | zero => exact h
  | succ k ih => exact rs_lt _ ih
theorem rot_add (x a b : Nat) : rot x (a + b) = rot (rot x a) b := by
  induction b with
  | zero => rfl
  | succ b ih => rw [← Nat.add_assoc, rot, ih]; rfl
theorem turn_bd (x b : Int) (h1 : 0 ≤ x) (h2 : x ≤ 18446744073709551615) : 0 ≤ turn x b ∧ turn x b ≤ 18446744073709551615 := by
  have := rot_lt x.toNat (by omega) (b % 64).toNat
  unfold turn; omega
theorem rot_form (x : Nat) (h : x < 18446744073709551616) : ∀ k, k ≤ 64 → rot x k = x % 2 ^ (64 - k) * 2 ^ k + x / 2 ^ (64 - k) := by
  intro k
  induction k with
  | zero => intro _; simp [rot]; omega
  | succ k ih =>
    intro hk
    rw [rot, ih (by omega)]
    have e1 : 64 - k = (64 - (k + 1)) + 1 := by omega
    have hA : (2 : Nat) ^ (64 - k) = 2 * 2 ^ (64 - (k + 1)) := by rw [e1, Nat.pow_succ, Nat.mul_comm]
    have hB : (2 : Nat) ^ (k + 1) = 2 * 2 ^ k := by rw [Nat.pow_succ, Nat.mul_comm]
    have hAB : 2 ^ (64 - (k + 1)) * 2 ^ k = 9223372036854775808 := by
      rw [← Nat.pow_add, show 64 - (k + 1) + k = 63 from by omega]
    rw [hA, hB]
    have hAp := Nat.two_pow_pos (64 - (k + 1))
    have hBp := Nat.two_pow_pos k
    generalize (2 : Nat) ^ (64 - (k + 1)) = A at *
    generalize (2 : Nat) ^ k = B at *
    -- x = h * (2A) + b * A + l
    have hl : x % A < A := Nat.mod_lt _ hAp
    have hq := Nat.div_add_mod x A
    have hq2 := Nat.div_add_mod (x / A) 2
    have hb : x / A % 2 < 2 := Nat.mod_lt _ (by decide)
    have eh : x / (2 * A) = x / A / 2 := by rw [Nat.mul_comm, Nat.div_div_eq_div_mul]
    have em : x % (2 * A) = x / A % 2 * A + x % A := by
      rw [Nat.mul_comm 2 A, Nat.mod_mul, Nat.mul_comm A, Nat.add_comm]
    rw [eh, em]
    have hh : x / A / 2 < B := by
      rw [← eh, Nat.div_lt_iff_lt_mul (by omega)]
      have : B * (2 * A) = 18446744073709551616 := by
        have : A * B = 9223372036854775808 := hAB
        rw [Nat.mul_comm B, Nat.mul_assoc, this]
      omega
    rw [← hq2] at hq
    generalize x / A / 2 = hi at *
    generalize x / A % 2 = b at *
    generalize x % A = l at *
    have hlB : (l + 1) * B ≤ A * B := Nat.mul_le_mul_right _ hl
    rw [hAB, Nat.add_mul, Nat.one_mul] at hlB
    have e3 : (b * A + l) * B = b * 9223372036854775808 + l * B := by rw [Nat.add_mul, Nat.mul_assoc, hAB]
    have e4 : l * (2 * B) = 2 * (l * B) := by rw [Nat.mul_left_comm]
    rw [e3, e4]
    generalize l * B = LB at *
    unfold rs
    rw [← hq2]
    clear hq hq2 eh em e3 e4
    rcases (show b = 0 ∨ b = 1 from by omega) with rfl | rfl <;> omega
theorem rot_full (x : Nat) (h : x < 18446744073709551616) : rot x 64 = x := by
  rw [rot_form x h 64 (by decide)]; simp [Nat.mod_one]
theorem turn_code (x b : Int) (h1 : 0 ≤ x) (h2 : x ≤ 18446744073709551615) :
    bits .or .u64 (IntKind.u64.wrap (x * 2 ^ (IntKind.u64.wrap b % 64).toNat)) (x / 2 ^ (64 - IntKind.u64.wrap b % 64).toNat) = turn x b := by
  obtain ⟨X, rfl⟩ := Int.eq_ofNat_of_zero_le h1
  have e : IntKind.u64.wrap b % 64 = b % 64 := by rw [IntKind.wrap_u64]; omega
  have e2 : (64 - IntKind.u64.wrap b % 64).toNat = 64 - (b % 64).toNat := by rw [e]; omega
  rw [e2, e]
  unfold turn
  rw [Int.toNat_natCast]
  have hk : (b % 64).toNat < 64 := by omega
  generalize (b % 64).toNat = k at *
  rw [rot_form X (by omega) k (by omega), wrap_shl]
  have e3 : ((X : Int) / 2 ^ (64 - k)) = ((X / 2 ^ (64 - k) : Nat) : Int) := by rw [← pow_int]; exact (Int.natCast_ediv ..).symm
  rw [e3]
  have hl : X / 2 ^ (64 - k) ≤ X := Nat.div_le_self _ _
  rw [u64_or_nat _ _ (Nat.mod_lt _ (by decide)) (by omega)]
  congr 1
  have hAB : 2 ^ (64 - k) * 2 ^ k = 18446744073709551616 := by
    rw [← Nat.pow_add, show 64 - k + k = 64 from by omega]
  have e4 : X * 2 ^ k % 18446744073709551616 = 2 ^ k * (X % 2 ^ (64 - k)) := by
    rw [← hAB, Nat.mul_mod_mul_right, Nat.mul_comm]
  rw [e4, Nat.mul_comm (X % 2 ^ (64 - k)), Nat.two_pow_add_eq_or_of_lt]
  rw [Nat.div_lt_iff_lt_mul (Nat.two_pow_pos _), Nat.mul_comm, hAB]; omega
theorem turn_back (x b : Int) (h1 : 0 ≤ x) (h2 : x ≤ 18446744073709551615) : turn (turn x b) (-b) = x := by
  obtain ⟨X, rfl⟩ := Int.eq_ofNat_of_zero_le h1
  unfold turn
  rw [Int.toNat_natCast, Int.toNat_natCast, ← rot_add]
  rcases (show (b % 64).toNat + (-b % 64).toNat = 0 ∨ (b % 64).toNat + (-b % 64).toNat = 64 from by omega) with h | h
  · rw [h]; rfl
  · rw [h, rot_full X (by omega)]
theorem pop_rs (r : Nat) (h : r < 18446744073709551616) : pop (rs r) 64 = pop r 64 := by
  have e1 : pop r 64 = pop (r % 2 ^ 63) 63 + pop (r / 2 ^ 63) 1 := pop_split 63 1 r
  have e2 : rs r = 2 * (r % 2 ^ 63) + r / 2 ^ 63 := by unfold rs; omega
  have a : rs r % 2 = r / 2 ^ 63 := by rw [e2]; omega
  have b : rs r / 2 = r % 2 ^ 63 := by rw [e2]; omega
  have e3 : pop (rs r) 64 = rs r % 2 + pop (rs r / 2) 63 := rfl
  have e4 : pop (r / 2 ^ 63) 1 = r / 2 ^ 63 % 2 + 0 := rfl
  rw [e3, a, b, e1, e4]
  omega
theorem pop_rot (x : Nat) (h : x < 18446744073709551616) (k : Nat) : pop (rot x k) 64 = pop x 64 := by
  induction k with
  | zero => rfl
  | succ k ih => rw [rot, pop_rs _ (rot_lt x h k), ih]
theorem count_turn (x b : Int) (h1 : 0 ≤ x) (h2 : x ≤ 18446744073709551615) : count (turn x b) = count x := by
  unfold count turn
  rw [Int.toNat_natCast, pop_rot _ (by omega)]
/-! ## pieces -/
def up (n size : Int) : Int := if n ≤ 0 ∨ size ≤ 0 then 0 else (n - 1) / size + 1
theorem up_bd (n size : Int) (h : n ≤ 9223372036854775807) : 0 ≤ up n size ∧ up n size ≤ 9223372036854775807 := by
  unfold up
  split
  · omega
  · rename_i h2
    have a : (n - 1) / size ≤ n - 1 := Int.ediv_le_self _ (by omega)
    have b : 0 ≤ (n - 1) / size := Int.ediv_nonneg (by omega) (by omega)
    omega
theorem up_out (n size : Int) (h : n ≤ 0 ∨ size ≤ 0) : up n size = 0 := by unfold up; rw [if_pos h]
theorem up_in (n size : Int) (h : 0 < n) (h2 : 0 < size) (h3 : n ≤ 9223372036854775807) : wrap64 ((n - 1) / size + 1) = up n size := by
  have := up_bd n size h3
  unfold up at *
  rw [if_neg (by omega)] at *
  unfold wrap64
  omega
theorem up_mod (n size : Int) (h : 0 < n) (h2 : 0 < size) (h3 : n ≤ 9223372036854775807) (hm : n % size ≠ 0) : wrap64 (n / size + 1) = up n size := by
  rw [← up_in n size h h2 h3]
  congr 2
  have e := Int.mul_ediv_add_emod n size
  have m := Int.emod_nonneg n (show size ≠ 0 by omega)
  have m2 := Int.emod_lt_of_pos n h2
  have z : (n % size - 1) / size = 0 := Int.ediv_eq_zero_of_lt (by omega) (by omega)
  rw [show n - 1 = (n % size - 1) + size * (n / size) from by omega, Int.add_mul_ediv_left _ _ (show size ≠ 0 by omega), z]
  omega
theorem up_even (n size : Int) (h : 0 < n) (h2 : 0 < size) (hm : n % size = 0) : n / size = up n size := by
  unfold up
  rw [if_neg (by omega)]
  have e := Int.mul_ediv_add_emod n size
  rw [hm] at e
  have z : (size - 1) / size = 0 := Int.ediv_eq_zero_of_lt (by omega) (by omega)
  rw [show n - 1 = (size - 1) + size * (n / size - 1) from by rw [Int.mul_sub]; omega, Int.add_mul_ediv_left _ _ (show size ≠ 0 by omega), z]
  omega
/-! ## the reference's rounds -/
def cntRef (x : Int) (m : Nat) : Int := (cnt x.toNat.testBit m : Nat)
theorem cntRef_bd (x : Int) (m : Nat) : 0 ≤ cntRef x m ∧ cntRef x m ≤ m := by have := cnt_le x.toNat.testBit m; unfold cntRef; omega
theorem cntRef_yes (x : Int) (m : Nat) (h : bit x m = true) : cntRef x m + 1 = cntRef x (m + 1) := by
  unfold bit at h; rw [Int.toNat_natCast] at h
  have : cnt x.toNat.testBit (m + 1) = cnt x.toNat.testBit m + 1 := by rw [cnt, h]; rfl
  unfold cntRef; rw [this]; omega
theorem cntRef_no (x : Int) (m : Nat) (h : bit x m = false) : cntRef x m = cntRef x (m + 1) := by
  unfold bit at h; rw [Int.toNat_natCast] at h
  have : cnt x.toNat.testBit (m + 1) = cnt x.toNat.testBit m + 0 := by rw [cnt, h]; rfl
  unfold cntRef; rw [this]; omega
theorem cntRef_eq (x : Int) : cntRef x 64 = count x := by unfold cntRef count; rw [pop_cnt]
def noneBelow (x : Int) (j : Nat) : Prop := ∀ i, i < j → x.toNat.testBit i = false
theorem noneBelow_zero (x : Int) : noneBelow x 0 := fun i h => absurd h (Nat.not_lt_zero i)
theorem noneBelow_succ (x : Int) (j : Nat) (h : noneBelow x j) (hb : bit x j = false) : noneBelow x (j + 1) := fun i hi => by
  rcases Nat.lt_or_ge i j with h2 | h2
  · exact h i h2
  · obtain rfl : i = j := by omega
    simpa [bit] using hb
theorem lowest_at (x : Int) (j : Nat) (hj : j ≤ 64) (h : noneBelow x j) (hb : j < 64 → bit x j = true) : lowest x = j := by
  unfold lowest
  rw [low_unique 64 x.toNat j hj h (fun hlt => by simpa [bit] using hb hlt)]
def noneAbove (x : Int) (j : Int) : Prop := ∀ i : Nat, j < i → x.toNat.testBit i = false
theorem noneAbove_start (x : Int) (h : x ≤ 18446744073709551615) : noneAbove x 63 := fun i hi => high_bit x.toNat i (by omega) (by omega)
theorem noneAbove_pred (x j : Int) (h0 : 0 ≤ j) (h : noneAbove x j) (hb : bit x j = false) : noneAbove x (j - 1) := fun i hi => by
  rcases Int.lt_or_le j i with h2 | h2
  · exact h i h2
  · obtain rfl : j = (i : Int) := by omega
    simpa [bit] using hb
theorem highest_at (x j : Int) (h0 : 0 ≤ j) (h : noneAbove x j) (hb2 : bit x j = true) : highest x = j := by
  unfold highest
  rw [hb_bit x.toNat j.toNat hb2 (fun i hi => h i (by omega))]
  omega
theorem highest_none (x j : Int) (hj : j ≤ -1) (h : noneAbove x j) : highest x = -1 := by
  have : x.toNat = 0 := by
    apply Nat.eq_of_testBit_eq
    intro i
    rw [Nat.zero_testBit]; exact h i (by omega)
  unfold highest; rw [this]; rfl
/-- where the code's search by halves stands: what is left, what was added, the next step -/
def HiAt (x y m s : Int) : Prop := 0 ≤ y ∧ m + hb y.toNat = highest x ∧ -1 ≤ m ∧ m ≤ 64 ∧
  ((s = 32 ∧ y < 18446744073709551616) ∨ (s = 16 ∧ y < 4294967296) ∨ (s = 8 ∧ y < 65536) ∨ (s = 4 ∧ y < 256) ∨ (s = 2 ∧ y < 16) ∨ (s = 1 ∧ y < 4) ∨ (s = 0 ∧ y < 2))
theorem HiAt_start (x : Int) (h1 : 0 ≤ x) (h2 : x ≤ 18446744073709551615) : HiAt x x (-1) 32 := ⟨h1, by unfold highest; omega, by omega, by omega, .inl ⟨rfl, by omega⟩⟩
theorem HiAt_cases {x y m s : Int} (h : HiAt x y m s) : s = 32 ∨ s = 16 ∨ s = 8 ∨ s = 4 ∨ s = 2 ∨ s = 1 ∨ s = 0 := by
  obtain ⟨_, _, _, _, h⟩ := h
  omega
theorem HiAt_bd {x y m s : Int} (h : HiAt x y m s) : 0 ≤ y ∧ y ≤ 18446744073709551615 ∧ -1 ≤ m ∧ m ≤ 64 := by
  obtain ⟨_, _, _, _, h⟩ := h
  omega
theorem HiAt_no {x y m s : Int} (h : HiAt x y m s) (D : Int) (t : Int) (hD : (s = 32 ∧ t = 16 ∧ D = 4294967296) ∨ (s = 16 ∧ t = 8 ∧ D = 65536) ∨ (s = 8 ∧ t = 4 ∧ D = 256) ∨ (s = 4 ∧ t = 2 ∧ D = 16) ∨ (s = 2 ∧ t = 1 ∧ D = 4) ∨ (s = 1 ∧ t = 0 ∧ D = 2))
    (hz : y / D = 0) : HiAt x y m t := by
  obtain ⟨h1, h2, h3, h4, h⟩ := h
  refine ⟨h1, h2, h3, h4, ?_⟩
  rcases hD with ⟨rfl, rfl, rfl⟩ | ⟨rfl, rfl, rfl⟩ | ⟨rfl, rfl, rfl⟩ | ⟨rfl, rfl, rfl⟩ | ⟨rfl, rfl, rfl⟩ | ⟨rfl, rfl, rfl⟩ <;> omega
theorem HiAt_yes {x y m s : Int} (hx : x ≤ 18446744073709551615) (h : HiAt x y m s) (D : Int) (t : Int) (hD : (s = 32 ∧ t = 16 ∧ D = 4294967296) ∨ (s = 16 ∧ t = 8 ∧ D = 65536) ∨ (s = 8 ∧ t = 4 ∧ D = 256) ∨ (s = 4 ∧ t = 2 ∧ D = 16) ∨ (s = 2 ∧ t = 1 ∧ D = 4) ∨ (s = 1 ∧ t = 0 ∧ D = 2))
    (hz : ¬ y / D = 0) : HiAt x (y / D) (m + s) t := by
  obtain ⟨h1, h2, h3, h4, h⟩ := h
  have key : ∀ k : Nat, (2 : Int) ^ k = D → s = k → m + s + hb (y / D).toNat = highest x := fun k hk hs => by
    obtain ⟨Y, rfl⟩ := Int.eq_ofNat_of_zero_le h1
    have e : ((Y : Int) / D) = ((Y / 2 ^ k : Nat) : Int) := by rw [← hk, ← pow_int]; exact (Int.natCast_ediv ..).symm
    rw [e] at hz ⊢
    have := hb_shift Y k (by omega)
    rw [Int.toNat_natCast] at h2 ⊢
    omega
  have hk : m + s + hb (y / D).toNat = highest x := by
    rcases hD with ⟨rfl, rfl, rfl⟩ | ⟨rfl, rfl, rfl⟩ | ⟨rfl, rfl, rfl⟩ | ⟨rfl, rfl, rfl⟩ | ⟨rfl, rfl, rfl⟩ | ⟨rfl, rfl, rfl⟩
    · exact key 32 (by decide) rfl
    · exact key 16 (by decide) rfl
    · exact key 8 (by decide) rfl
    · exact key 4 (by decide) rfl
    · exact key 2 (by decide) rfl
    · exact key 1 (by decide) rfl
  have hbd := highest_bd x hx
  refine ⟨?_, hk, ?_, ?_, ?_⟩ <;> rcases hD with ⟨rfl, rfl, rfl⟩ | ⟨rfl, rfl, rfl⟩ | ⟨rfl, rfl, rfl⟩ | ⟨rfl, rfl, rfl⟩ | ⟨rfl, rfl, rfl⟩ | ⟨rfl, rfl, rfl⟩ <;> omega
theorem HiAt_last {x y m : Int} (h : HiAt x y m 0) : y < 2 := by
  obtain ⟨h1, h2, h3, h4, h⟩ := h
  omega
theorem HiAt_end {x y m : Int} (h : HiAt x y m 0) : m + y = highest x := by
  obtain ⟨h1, h2, h3, h4, h⟩ := h
  rw [hb_small y.toNat (by omega)] at h2
  omega
/-! ## does it fit -/
def fitsTo (n k j : Int) : Prop := ∀ i : Nat, k.toNat ≤ i → (i : Int) < j → n.toNat.testBit i = false
theorem fitsTo_start (n k j : Int) (h : j ≤ k ∨ (j = 0)) : fitsTo n k j := fun i h1 h2 => by omega
theorem fitsTo_succ (n k j : Int) (hj : 0 ≤ j) (h : fitsTo n k j) (hb : bit n j = false) : fitsTo n k (j + 1) := fun i h1 h2 => by
  by_cases h3 : (i : Int) < j
  · exact h i h1 h3
  · obtain rfl : j = (i : Int) := by omega
    simpa [bit] using hb
theorem fits_iff (N : Nat) (k : Int) : fits N k = true ↔ ∀ i, i < 64 → k.toNat ≤ i → N.testBit i = false := by
  unfold fits
  rw [Int.toNat_natCast, beq_iff_eq]
  have e : 18446744073709551615 - maskN k = 2 ^ 64 - (maskN k + 1) := by omega
  have hm : maskN k < 2 ^ 64 := by have := maskN_lt k; simpa using this
  constructor
  · intro h i hi hk
    have := congrArg (fun z => Nat.testBit z i) h
    simp only [Nat.testBit_and, Nat.zero_testBit, e, Nat.testBit_two_pow_sub_succ hm, testBit_maskN] at this
    have h2 : ¬ i < min k.toNat 64 := by omega
    simpa [hi, h2] using this
  · intro h
    apply Nat.eq_of_testBit_eq
    intro i
    rw [Nat.testBit_and, Nat.zero_testBit, e, Nat.testBit_two_pow_sub_succ hm, testBit_maskN]
    by_cases hi : i < 64
    · by_cases hk : k.toNat ≤ i
      · rw [h i hi hk]; rfl
      · have h2 : i < min k.toNat 64 := by omega
        simp [h2]
    · simp [hi]
theorem fits_not (n k j : Int) (hj : 0 ≤ j) (hk : k ≤ j) (hlt : j < 64) (hb : bit n j = true) : fits n k = false := by
  have e : fits n k = fits (n.toNat : Int) k := by unfold fits; rw [Int.toNat_natCast]
  rw [e]
  cases h : fits (n.toNat : Int) k
  · rfl
  · have := (fits_iff n.toNat k).1 h j.toNat (by omega) (by omega)
    unfold bit at hb; rw [hb] at this; exact absurd this (by decide)
theorem fits_all (n k j : Int) (hn : n ≤ 18446744073709551615) (hj : 64 ≤ j) (h : fitsTo n k j) : fits n k = true := by
  have e : fits n k = fits (n.toNat : Int) k := by unfold fits; rw [Int.toNat_natCast]
  rw [e]
  exact (fits_iff n.toNat k).2 fun i hi hk => h i hk (by omega)
/-! ## the reference turns -/
theorem tmod_bd (b : Int) : -64 < b.tmod 64 ∧ b.tmod 64 < 64 := by
  rcases Int.le_total 0 b with h | h
  · rw [Int.tmod_eq_emod_of_nonneg h]; omega
  · obtain ⟨c, rfl⟩ : ∃ c, b = -c := ⟨-b, by omega⟩
    rw [Int.neg_tmod, Int.tmod_eq_emod_of_nonneg (by omega)]; omega
theorem tmod_neg (b : Int) (hn : b.tmod 64 < 0) : b % 64 = b.tmod 64 + 64 := by
  rcases Int.le_total 0 b with h | h
  · rw [Int.tmod_eq_emod_of_nonneg h] at hn; omega
  · obtain ⟨c, rfl⟩ : ∃ c, b = -c := ⟨-b, by omega⟩
    rw [Int.neg_tmod, Int.tmod_eq_emod_of_nonneg (by omega)] at hn ⊢; omega
theorem tmod_pos (b : Int) (hn : 0 ≤ b.tmod 64) : b % 64 = b.tmod 64 := by
  rcases Int.le_total 0 b with h | h
  · rw [Int.tmod_eq_emod_of_nonneg h]
  · obtain ⟨c, rfl⟩ : ∃ c, b = -c := ⟨-b, by omega⟩
    rw [Int.neg_tmod, Int.tmod_eq_emod_of_nonneg (by omega)] at hn ⊢; omega
def rotRef (x : Int) (j : Nat) : Int := (rot x.toNat j : Nat)
theorem rotRef_zero (x : Int) (h : 0 ≤ x) : rotRef x 0 = x := by unfold rotRef rot; omega
theorem rotRef_bd (x : Int) (j : Nat) (h1 : 0 ≤ x) (h2 : x ≤ 18446744073709551615) : 0 ≤ rotRef x j ∧ rotRef x j ≤ 18446744073709551615 := by
  have := rot_lt x.toNat (by omega) j
  unfold rotRef; omega
theorem bit63 (r : Int) (h1 : 0 ≤ r) (h2 : r ≤ 18446744073709551615) : bit r 63 = decide (r.toNat / 9223372036854775808 = 1) := by
  unfold bit
  rw [show (63 : Int).toNat = 63 from rfl, Nat.testBit_eq_decide_div_mod_eq]
  have : r.toNat / 2 ^ 63 % 2 = r.toNat / 9223372036854775808 := by omega
  rw [this]
theorem rotRef_no (x : Int) (j : Nat) (h1 : 0 ≤ x) (h2 : x ≤ 18446744073709551615) (h : bit (rotRef x j) 63 = false) : IntKind.u64.wrap (rotRef x j * 2) = rotRef x (j + 1) := by
  have hb := rotRef_bd x j h1 h2
  rw [bit63 _ hb.1 hb.2] at h
  simp at h
  rw [IntKind.wrap_u64]
  have e : rotRef x (j + 1) = ((rs (rot x.toNat j) : Nat) : Int) := rfl
  rw [e]
  unfold rotRef at *
  unfold rs
  generalize rot x.toNat j = r at *
  omega
theorem rotRef_yes (x : Int) (j : Nat) (h1 : 0 ≤ x) (h2 : x ≤ 18446744073709551615) (h : bit (rotRef x j) 63 = true) : IntKind.u64.wrap (IntKind.u64.wrap (rotRef x j * 2) + 1) = rotRef x (j + 1) := by
  have hb := rotRef_bd x j h1 h2
  rw [bit63 _ hb.1 hb.2] at h
  simp at h
  rw [IntKind.wrap_u64, IntKind.wrap_u64]
  have e : rotRef x (j + 1) = ((rs (rot x.toNat j) : Nat) : Int) := rfl
  rw [e]
  unfold rotRef at *
  unfold rs
  generalize rot x.toNat j = r at *
  omega
theorem rotRef_end (x b : Int) (j : Nat) (h1 : 0 ≤ x) (h2 : x ≤ 18446744073709551615) (h : b % 64 = j) : rotRef x j = turn x b := by
  unfold rotRef turn; rw [h]; rfl
end Go.Proofs.Ytchobkabndnhoaa.Bt
