/- Parts of the proof, one behind the other. -/
import Derived.WalkKit
import Derived.Laws.BitsAllLaws
import Derived.BigQuiet
import Derived.Outline
import Derived.Deep.QuietTactic
import Derived.Deep.Slices
import Derived.Deep.Fields
import Derived.ChangeSame
import Derived.Deep.RegionHeld3
import Derived.Test.YtdgmlfpikgjnlaaKBitmapJoinsa
set_option linter.unusedSimpArgs false
set_option linter.unusedVariables false
section
namespace Go.Proofs.Ytdgmlfpikgjnlaa.Bt
open Go

/-! powers, masks -/
theorem pow_int (k : Nat) : ((2 ^ k : Nat) : Int) = (2 : Int) ^ k := by simp
theorem pow_bdN (k : Nat) (h : k < 64) : 1 ≤ 2 ^ k ∧ 2 ^ k ≤ 9223372036854775808 := by
 have a := Nat.one_le_two_pow (n := k)
 have b : (2 : Nat) ^ k ≤ 2 ^ 63 := Nat.pow_le_pow_right (by decide) (by omega)
 omega
/-- so many ones at the right -/
def maskN (k : Int) : Nat := 2 ^ (min k.toNat 64) - 1
def mask (k : Int) : Int := (maskN k : Nat)
theorem testBit_maskN (k : Int) (i : Nat) : (maskN k).testBit i = decide (i < min k.toNat 64) := by
 unfold maskN; exact Nat.testBit_two_pow_sub_one ..

/-! a number by its bits -/
def ofBits (f : Nat → Bool) : Nat → Nat
 | 0 => 0
 | m + 1 => ofBits f m + (if f m then 2 ^ m else 0)
theorem ofBits_lt (f : Nat → Bool) (m : Nat) : ofBits f m < 2 ^ m := by
 induction m with
 | zero => simp [ofBits]
 | succ m ih => unfold ofBits; split <;> (rw [Nat.pow_succ]; omega)
theorem testBit_ofBits (f : Nat → Bool) (m i : Nat) : (ofBits f m).testBit i = (decide (i < m) && f i) := by
 induction m with
 | zero => simp [ofBits]
 | succ m ih =>
  unfold ofBits
  have hl := ofBits_lt f m
  have e : ofBits f m + (if f m then 2 ^ m else 0) = 2 ^ m * (if f m then 1 else 0) + ofBits f m := by split <;> omega
  rw [e, Nat.testBit_two_pow_mul_add _ hl]
  by_cases h : i < m
  ·rw [if_pos h, ih]; simp [h, Nat.lt_succ_of_lt h]
  ·rw [if_neg h]
   by_cases h2 : i = m
   ·subst h2; cases f i <;> simp
   ·have : ¬ i < m + 1 := by omega
    have h3 : i - m ≠ 0 := by omega
    simp only [this, decide_false, Bool.false_and]
    split
    ·obtain ⟨j, hj⟩ := Nat.exists_eq_succ_of_ne_zero h3
     rw [hj, Nat.testBit_succ]; simp
    ·simp
theorem high_bit (x i : Nat) (h : x < 18446744073709551616) (hi : 64 ≤ i) : x.testBit i = false :=
 Nat.testBit_lt_two_pow (Nat.lt_of_lt_of_le h (by have : (2 : Nat) ^ 64 ≤ 2 ^ i := Nat.pow_le_pow_right (by decide) hi; simpa using this))

def putN (x : Nat) (a k : Int) (n : Nat) : Nat :=
 if 0 ≤ a ∧ a < 64 then ofBits (fun i => if a.toNat ≤ i ∧ i < a.toNat + k.toNat then n.testBit (i - a.toNat) else x.testBit i) 64 else x
def put (x a k n : Int) : Int := (putN x.toNat a k n.toNat : Nat)
theorem put_out (x a k n : Int) (hx : 0 ≤ x) (h : a < 0 ∨ 64 ≤ a) : put x a k n = x := by unfold put putN; rw [if_neg (by omega)]; omega
theorem wrap_nat (X : Nat) : IntKind.u64.wrap (X : Int) = ((X % 18446744073709551616 : Nat) : Int) := by rw [IntKind.wrap_u64]; omega
theorem wrap_shl (X : Nat) (s : Nat) : IntKind.u64.wrap ((X : Int) * 2 ^ s) = ((X * 2 ^ s % 18446744073709551616 : Nat) : Int) := by
 rw [← pow_int, ← Int.natCast_mul, wrap_nat]
theorem testBit_shl (X s i : Nat) : (X * 2 ^ s % 18446744073709551616).testBit i = (decide (i < 64) && (decide (s ≤ i) && X.testBit (i - s))) := by
 have e : 18446744073709551616 = 2 ^ 64 := by decide
 rw [e, Nat.testBit_mod_two_pow, Nat.mul_comm, Nat.testBit_two_pow_mul]
theorem put_in (x a k n : Int) (hx : 0 ≤ x) (hx2 : x ≤ 18446744073709551615) (hn : 0 ≤ n) (hn2 : n ≤ 18446744073709551615) (h : ¬ a < 0) (h2 : a < 64) :
  bits .or .u64 (bits .andNot .u64 x (IntKind.u64.wrap (mask k * 2 ^ a.toNat))) (bits .and .u64 (IntKind.u64.wrap (n * 2 ^ a.toNat)) (IntKind.u64.wrap (mask k * 2 ^ a.toNat))) = put x a k n := by
 obtain ⟨X, rfl⟩ := Int.eq_ofNat_of_zero_le hx
 obtain ⟨N, rfl⟩ := Int.eq_ofNat_of_zero_le hn
 unfold mask
 rw [wrap_shl, wrap_shl]
 have hm : maskN k * 2 ^ a.toNat % 18446744073709551616 < 18446744073709551616 := Nat.mod_lt _ (by decide)
 have hN : N * 2 ^ a.toNat % 18446744073709551616 < 18446744073709551616 := Nat.mod_lt _ (by decide)
 have bm := fun i => testBit_shl (maskN k) a.toNat i
 have bN := fun i => testBit_shl N a.toNat i
 generalize maskN k * 2 ^ a.toNat % 18446744073709551616 = M at *
 generalize N * 2 ^ a.toNat % 18446744073709551616 = NN at *
 rw [u64_andNot_nat _ _ (by omega) hm, u64_and_nat _ _ hN hm]
 have l1 : X &&& (18446744073709551615 - M) < 18446744073709551616 := Nat.lt_of_le_of_lt Nat.and_le_left (by omega)
 have l2 : NN &&& M < 18446744073709551616 := Nat.lt_of_le_of_lt Nat.and_le_left hN
 rw [u64_or_nat _ _ l1 l2]
 unfold put putN
 rw [if_pos (by omega)]
 congr 1
 apply Nat.eq_of_testBit_eq
 intro i
 rw [testBit_ofBits, Nat.testBit_or, Nat.testBit_and, Nat.testBit_and]
 have e : 18446744073709551615 - M = 2 ^ 64 - (M + 1) := by omega
 rw [e, Nat.testBit_two_pow_sub_succ (by simpa using hm), bm, bN, testBit_maskN]
 by_cases h64 : i < 64
 ·by_cases ha : a.toNat ≤ i
  ·by_cases hk : i < a.toNat + k.toNat
   ·have h1 : i - a.toNat < min k.toNat 64 := by omega
    simp [h64, ha, hk, h1]
   ·have h1 : ¬ i - a.toNat < min k.toNat 64 := by omega
    simp [h64, ha, hk, h1]
  ·simp [h64, ha]
 ·have hx64 := high_bit X i (by omega) (by omega)
  simp [h64, hx64]

/-! the reference's functions: plain -/
def bit (x i : Int) : Bool := x.toNat.testBit i.toNat
def hf (X j : Nat) : Int := ((X / 2 ^ j : Nat) : Int)
end Go.Proofs.Ytdgmlfpikgjnlaa.Bt
end

section
namespace Go.Proofs.Ytdgmlfpikgjnlaa.Bt
open Go

/-! ## ones -/
def pop (x : Nat) : Nat → Nat
  | 0 => 0
  | m + 1 => x % 2 + pop (x / 2) m
def cnt (f : Nat → Bool) : Nat → Nat
  | 0 => 0
  | m + 1 => cnt f m + (if f m then 1 else 0)
theorem cnt_le (f : Nat → Bool) (m : Nat) : cnt f m ≤ m := by
  induction m with
  | zero => simp [cnt]
  | succ m ih => unfold cnt; split <;> omega
theorem cnt_shift (f : Nat → Bool) (m : Nat) : cnt f (m + 1) = (if f 0 then 1 else 0) + cnt (fun i => f (i + 1)) m := by
  induction m with
  | zero => simp [cnt]
  | succ m ih => rw [cnt, ih]; conv => rhs; rw [cnt]
                 omega
theorem cnt_congr {f g : Nat → Bool} {m : Nat} (h : ∀ i, i < m → f i = g i) : cnt f m = cnt g m := by
  induction m with
  | zero => rfl
  | succ m ih => rw [cnt, cnt, ih (fun i hi => h i (by omega)), h m (by omega)]
theorem pop_cnt (m : Nat) : ∀ x : Nat, pop x m = cnt x.testBit m := by
  induction m with
  | zero => intro x; rfl
  | succ m ih =>
    intro x
    rw [pop, cnt_shift, ih]
    have e : cnt (x / 2).testBit m = cnt (fun i => x.testBit (i + 1)) m := cnt_congr fun i _ => by rw [Nat.testBit_succ]
    rw [e, Nat.testBit_zero]
    rcases Nat.mod_two_eq_zero_or_one x with h | h <;> simp [h]
theorem pop_split (a : Nat) : ∀ (b x : Nat), pop x (a + b) = pop (x % 2 ^ a) a + pop (x / 2 ^ a) b := by
  induction a with
  | zero => intro b x; simp [pop]
  | succ a ih =>
    intro b x
    rw [show a + 1 + b = (a + b) + 1 from by omega, pop, ih, pop]
    have e1 : x % 2 ^ (a + 1) % 2 = x % 2 := by
      rw [Nat.pow_succ, Nat.mul_comm]; exact Nat.mod_mul_right_mod x 2 (2 ^ a)
    have e2 : x % 2 ^ (a + 1) / 2 = x / 2 % 2 ^ a := by
      rw [Nat.pow_succ, Nat.mul_comm]; exact Nat.mod_mul_right_div_self x 2 (2 ^ a)
    have e3 : x / 2 / 2 ^ a = x / 2 ^ (a + 1) := by rw [Nat.div_div_eq_div_mul, Nat.pow_succ, Nat.mul_comm]
    rw [e1, e2, e3]; omega
def count (x : Int) : Int := (pop x.toNat 64 : Nat)
/-! ### the bits of two numbers beside each other -/
theorem land_join (s h l h' l' : Nat) (hl : l < 2 ^ s) (hl' : l' < 2 ^ s) : (2 ^ s * h + l) &&& (2 ^ s * h' + l') = 2 ^ s * (h &&& h') + (l &&& l') := by
  have hx : l &&& l' < 2 ^ s := Nat.and_lt_two_pow _ hl'
  apply Nat.eq_of_testBit_eq
  intro i
  rw [Nat.testBit_and, Nat.testBit_two_pow_mul_add _ hl, Nat.testBit_two_pow_mul_add _ hl', Nat.testBit_two_pow_mul_add _ hx]
  split <;> rw [Nat.testBit_and]
theorem land256 (h l h' l' : Nat) (hl : l < 256) (hl' : l' < 256) : (256 * h + l) &&& (256 * h' + l') = 256 * (h &&& h') + (l &&& l') := land_join 8 h l h' l' hl hl'
def sw1 (x m : Nat) : Nat := x - ((x / 2) &&& m)
def sw2 (y m : Nat) : Nat := (y &&& m) + ((y / 4) &&& m)
def sw3 (z m : Nat) : Nat := (z + z / 16) &&& m
theorem f1 : ∀ b < 2, ∀ l < 128, (128 * b + l) &&& 85 = l &&& 85 := by decide +kernel
theorem f2 : ∀ b < 4, ∀ l < 64, (64 * b + l) &&& 51 = l &&& 51 := by decide +kernel
theorem f3 : ∀ b < 5, ∀ l < 73, (16 * b + l) &&& 15 = l &&& 15 := by decide +kernel
theorem sw1_join (h l m : Nat) (hl : l < 256) : sw1 (256 * h + l) (256 * m + 85) = 256 * sw1 h m + sw1 l 85 := by
  unfold sw1
  have e : (256 * h + l) / 2 = 256 * (h / 2) + (128 * (h % 2) + l / 2) := by omega
  rw [e, land256 _ _ _ _ (by omega) (by decide), f1 _ (by omega) _ (by omega)]
  have h1 : h / 2 &&& m ≤ h / 2 := Nat.and_le_left
  have h2 : l / 2 &&& 85 ≤ l / 2 := Nat.and_le_left
  omega
theorem sw2_join (h l m : Nat) (hl : l < 256) : sw2 (256 * h + l) (256 * m + 51) = 256 * sw2 h m + sw2 l 51 := by
  unfold sw2
  have e : (256 * h + l) / 4 = 256 * (h / 4) + (64 * (h % 4) + l / 4) := by omega
  rw [e, land256 _ _ _ _ hl (by decide), land256 _ _ _ _ (by omega) (by decide), f2 _ (by omega) _ (by omega)]
  omega
theorem sw3_join (h l m : Nat) (hl : l ≤ 68) (hh : h % 16 ≤ 4) : sw3 (256 * h + l) (256 * m + 15) = 256 * sw3 h m + sw3 l 15 := by
  unfold sw3
  have e : 256 * h + l + (256 * h + l) / 16 = 256 * (h + h / 16) + (16 * (h % 16) + (l + l / 16)) := by omega
  rw [e, land256 _ _ _ _ (by omega) (by decide), f3 _ (by omega) _ (by omega)]
theorem byte1 : ∀ b < 256, sw1 b 85 < 256 := by decide +kernel
theorem byte2 : ∀ b < 256, sw2 (sw1 b 85) 51 ≤ 68 ∧ sw2 (sw1 b 85) 51 % 16 ≤ 4 := by decide +kernel
theorem byte3 : ∀ b < 256, sw3 (sw2 (sw1 b 85) 51) 15 = pop b 8 := by decide +kernel
/-- a number of n bytes, and the masks of n bytes -/
def rep (c : Nat) : Nat → Nat
  | 0 => 0
  | n + 1 => 256 * rep c n + c
def sum8 : Nat → Nat → Nat
  | 0, _ => 0
  | n + 1, x => 256 * sum8 n (x / 256) + pop (x % 256) 8
theorem swar (n : Nat) : ∀ x, x < 256 ^ n → sw2 (sw1 x (rep 85 n)) (rep 51 n) % 16 ≤ 4 ∧ sw3 (sw2 (sw1 x (rep 85 n)) (rep 51 n)) (rep 15 n) = sum8 n x := by
  induction n with
  | zero => intro x hx; obtain rfl : x = 0 := by simpa using hx
            decide
  | succ n ih =>
    intro x hx
    have hl : x % 256 < 256 := Nat.mod_lt _ (by decide)
    have hh : x / 256 < 256 ^ n := by rw [Nat.pow_succ] at hx; omega
    have ex : x = 256 * (x / 256) + x % 256 := by omega
    obtain ⟨i1, i2⟩ := ih (x / 256) hh
    have e1 : sw1 x (rep 85 (n + 1)) = 256 * sw1 (x / 256) (rep 85 n) + sw1 (x % 256) 85 := by
      conv => lhs; rw [ex]
      exact sw1_join _ _ _ hl
    have b1 := byte1 _ hl
    have b2 := byte2 _ hl
    have e2 : sw2 (sw1 x (rep 85 (n + 1))) (rep 51 (n + 1)) = 256 * sw2 (sw1 (x / 256) (rep 85 n)) (rep 51 n) + sw2 (sw1 (x % 256) 85) 51 := by
      rw [e1]; exact sw2_join _ _ _ b1
    rw [e2]
    refine ⟨by omega, ?_⟩
    have e3 := sw3_join (sw2 (sw1 (x / 256) (rep 85 n)) (rep 51 n)) (sw2 (sw1 (x % 256) 85) 51) (rep 15 n) b2.1 i1
    rw [show rep 15 (n + 1) = 256 * rep 15 n + 15 from rfl, e3, i2, byte3 _ hl]
    rfl
theorem pop8_le (x : Nat) : pop x 8 ≤ 8 := by rw [pop_cnt]; exact cnt_le _ _
theorem top_byte (J S R : Nat) (hR : R < 72057594037927936) (hS : S < 256) : (18446744073709551616 * J + (72057594037927936 * S + R)) % 18446744073709551616 / 72057594037927936 = S := by omega
theorem pop_bytes (x : Nat) (h : x < 18446744073709551616) : (sum8 8 x * 72340172838076673 % 18446744073709551616) / 72057594037927936 = pop x 64 := by
  have p := fun y => pop8_le y
  have e0 : ∀ y m, pop y (8 + m) = pop (y % 256) 8 + pop (y / 256) m := fun y m => by
    rw [pop_split]
  rw [show (64 : Nat) = 8 + 56 from rfl, e0, show (56 : Nat) = 8 + 48 from rfl, e0, show (48 : Nat) = 8 + 40 from rfl, e0, show (40 : Nat) = 8 + 32 from rfl, e0, show (32 : Nat) = 8 + 24 from rfl, e0, show (24 : Nat) = 8 + 16 from rfl, e0,
    show (16 : Nat) = 8 + 8 from rfl, e0]
  have e8 : pop (x / 256 / 256 / 256 / 256 / 256 / 256 / 256) 8 = pop (x / 256 / 256 / 256 / 256 / 256 / 256 / 256 % 256) 8 := by
    rw [Nat.mod_eq_of_lt (by omega)]
  rw [e8]
  unfold sum8 sum8 sum8 sum8 sum8 sum8 sum8 sum8 sum8
  have p0 := p (x % 256)
  have p1 := p (x / 256 % 256)
  have p2 := p (x / 256 / 256 % 256)
  have p3 := p (x / 256 / 256 / 256 % 256)
  have p4 := p (x / 256 / 256 / 256 / 256 % 256)
  have p5 := p (x / 256 / 256 / 256 / 256 / 256 % 256)
  have p6 := p (x / 256 / 256 / 256 / 256 / 256 / 256 % 256)
  have p7 := p (x / 256 / 256 / 256 / 256 / 256 / 256 / 256 % 256)
  generalize pop (x % 256) 8 = q0 at *
  generalize pop (x / 256 % 256) 8 = q1 at *
  generalize pop (x / 256 / 256 % 256) 8 = q2 at *
  generalize pop (x / 256 / 256 / 256 % 256) 8 = q3 at *
  generalize pop (x / 256 / 256 / 256 / 256 % 256) 8 = q4 at *
  generalize pop (x / 256 / 256 / 256 / 256 / 256 % 256) 8 = q5 at *
  generalize pop (x / 256 / 256 / 256 / 256 / 256 / 256 % 256) 8 = q6 at *
  generalize pop (x / 256 / 256 / 256 / 256 / 256 / 256 / 256 % 256) 8 = q7 at *
  clear e8 e0 p h
  have hP : (256 * (256 * (256 * (256 * (256 * (256 * (256 * (256 * 0 + q7) + q6) + q5) + q4) + q3) + q2) + q1) + q0) * 72340172838076673 = 18446744073709551616 * (q1 * 1 + q2 * 257 + q3 * 65793 + q4 * 16843009 + q5 * 4311810305 + q6 * 1103823438081 + q7 * 282578800148737) + (72057594037927936 * (q0 + q1 + q2 + q3 + q4 + q5 + q6 + q7) + (q0 * 282578800148737 + q1 * 282578800148736 + q2 * 282578800148480 + q3 * 282578800082944 + q4 * 282578783305728 + q5 * 282574488338432 + q6 * 281474976710656)) := by omega
  have hR : q0 * 282578800148737 + q1 * 282578800148736 + q2 * 282578800148480 + q3 * 282578800082944 + q4 * 282578783305728 + q5 * 282574488338432 + q6 * 281474976710656 < 72057594037927936 := by omega
  have hS : q0 + q1 + q2 + q3 + q4 + q5 + q6 + q7 < 256 := by omega
  rw [hP, top_byte _ _ _ hR hS]
  clear hP hR hS
  omega
end Go.Proofs.Ytdgmlfpikgjnlaa.Bt
end

section
namespace Go.Proofs.Ytdgmlfpikgjnlaa.Bt
open Go Go.RowKit
def M5 : Nat := 6148914691236517205
def M3 : Nat := 3689348814741910323
def MF : Nat := 1085102592571150095
theorem M5_rep : M5 = rep 85 8 := by decide
theorem M3_rep : M3 = rep 51 8 := by decide
theorem MF_rep : MF = rep 15 8 := by decide
theorem wrap64_small (n : Int) (h : 0 ≤ n) (h2 : n ≤ 1000000) : wrap64 n = n := by unfold wrap64; omega
theorem count_code (x : Int) (h1 : 0 ≤ x) (h2 : x ≤ 18446744073709551615) :
  wrap64 (IntKind.u64.wrap (bits .and .u64 (IntKind.u64.wrap (IntKind.u64.wrap (bits .and .u64 (IntKind.u64.wrap (x - bits .and .u64 (x / 2) 6148914691236517205)) 3689348814741910323 +
   bits .and .u64 (IntKind.u64.wrap (x - bits .and .u64 (x / 2) 6148914691236517205) / 4) 3689348814741910323) +
   IntKind.u64.wrap (bits .and .u64 (IntKind.u64.wrap (x - bits .and .u64 (x / 2) 6148914691236517205)) 3689348814741910323 +
   bits .and .u64 (IntKind.u64.wrap (x - bits .and .u64 (x / 2) 6148914691236517205) / 4) 3689348814741910323) / 16)) 1085102592571150095 * 72340172838076673) / 72057594037927936) = count x := by
 obtain ⟨X, rfl⟩ := Int.eq_ofNat_of_zero_le h1
 have a1 : bits .and .u64 ((X : Int) / 2) 6148914691236517205 = (((X / 2) &&& M5 : Nat) : Int) := by
  have := u64_and_nat (X / 2) M5 (by omega) (by decide)
  rw [← this]; rfl
 have l1 : X / 2 &&& M5 ≤ X / 2 := Nat.and_le_left
 have c1 : IntKind.u64.wrap ((X : Int) - bits .and .u64 ((X : Int) / 2) 6148914691236517205) = ((sw1 X M5 : Nat) : Int) := by
  rw [a1, IntKind.wrap_u64]; unfold sw1; omega
 have l2 : sw1 X M5 ≤ X := Nat.sub_le _ _
 rw [c1]
 generalize hY : sw1 X M5 = Y at *
 have a2 : bits .and .u64 (Y : Int) 3689348814741910323 = ((Y &&& M3 : Nat) : Int) := by
  have := u64_and_nat Y M3 (by omega) (by decide)
  rw [← this]; rfl
 have a3 : bits .and .u64 ((Y : Int) / 4) 3689348814741910323 = ((Y / 4 &&& M3 : Nat) : Int) := by
  have := u64_and_nat (Y / 4) M3 (by omega) (by decide)
  rw [← this]; rfl
 have m1 : Y &&& M3 ≤ M3 := Nat.and_le_right
 have m2 : Y / 4 &&& M3 ≤ M3 := Nat.and_le_right
 have e3 : M3 = 3689348814741910323 := rfl
 have c2 : IntKind.u64.wrap (bits .and .u64 (Y : Int) 3689348814741910323 + bits .and .u64 ((Y : Int) / 4) 3689348814741910323) = ((sw2 Y M3 : Nat) : Int) := by
  rw [a2, a3, IntKind.wrap_u64]; unfold sw2; omega
 have l3 : sw2 Y M3 ≤ 7378697629483820646 := by unfold sw2; omega
 rw [c2]
 generalize hZ : sw2 Y M3 = Z at *
 have c3 : IntKind.u64.wrap ((Z : Int) + (Z : Int) / 16) = ((Z + Z / 16 : Nat) : Int) := by rw [IntKind.wrap_u64]; omega
 rw [c3]
 have c4 : bits .and .u64 ((Z + Z / 16 : Nat) : Int) 1085102592571150095 = ((sw3 Z MF : Nat) : Int) := by
  have := u64_and_nat (Z + Z / 16) MF (by omega) (by decide)
  rw [show (1085102592571150095 : Int) = ((MF : Nat) : Int) from rfl, this]; rfl
 rw [c4]
 have hs := (swar 8 X (by simp; omega)).2
 rw [← M5_rep, ← M3_rep, ← MF_rep, hY, hZ] at hs
 rw [hs]
 have hp := pop_bytes X (by omega)
 have hp2 := cnt_le X.testBit 64
 rw [← pop_cnt] at hp2
 unfold count
 generalize sum8 8 X = S at *
 have e1 : ((S : Int) * 72340172838076673) = ((S * 72340172838076673 : Nat) : Int) := (Int.natCast_mul S 72340172838076673).symm
 have e2 : (((S * 72340172838076673 % 18446744073709551616 : Nat) : Int) / 72057594037927936) = ((S * 72340172838076673 % 18446744073709551616 / 72057594037927936 : Nat) : Int) := (Int.natCast_ediv _ 72057594037927936).symm
 rw [e1, wrap_nat, e2, hp, wrap64_small _ (by omega) (by omega)]
 rfl

/-! ## the least one -/
def low (x : Nat) : Nat → Nat
 | 0 => 0
 | m + 1 => if x % 2 = 1 then 0 else 1 + low (x / 2) m
def lowest (x : Int) : Int := (low x.toNat 64 : Nat)
theorem low_le (m : Nat) : ∀ x, low x m ≤ m := by
 induction m with
 | zero => intro x; simp [low]
 | succ m ih => intro x; unfold low; have := ih (x / 2); split <;> omega
theorem low_unique (m : Nat) : ∀ (x t : Nat), t ≤ m → (∀ i, i < t → x.testBit i = false) → (t < m → x.testBit t = true) → low x m = t := by
 induction m with
 | zero => intro x t h _ _; simp [low]; omega
 | succ m ih =>
  intro x t h h1 h2
  unfold low
  rcases Nat.eq_zero_or_pos t with rfl | ht
  ·have := h2 (by omega)
   rw [Nat.testBit_zero] at this
   rw [if_pos (by simpa using this)]
  ·have h0 := h1 0 ht
   rw [Nat.testBit_zero] at h0
   rw [if_neg (by simpa using h0), ih (x / 2) (t - 1) (by omega) (fun i hi => by rw [← Nat.testBit_succ]; exact h1 (i + 1) (by omega))
    (fun hlt => by rw [← Nat.testBit_succ, show (t - 1).succ = t from by omega]; exact h2 (by omega))]
   omega
theorem low_spec (m : Nat) : ∀ x, (∀ i, i < low x m → x.testBit i = false) ∧ (low x m < m → x.testBit (low x m) = true) := by
 induction m with
 | zero => intro x; simp [low]
 | succ m ih =>
  intro x
  unfold low
  by_cases h : x % 2 = 1
  ·rw [if_pos h]; refine ⟨by omega, fun _ => by rw [Nat.testBit_zero]; simpa using h⟩
  ·rw [if_neg h]
   obtain ⟨i1, i2⟩ := ih (x / 2)
   refine ⟨fun i hi => ?_, fun hlt => ?_⟩
   ·rcases i with _ | i
    ·rw [Nat.testBit_zero]; simpa using h
    ·rw [Nat.testBit_succ]; exact i1 i (by omega)
   ·rw [Nat.add_comm, Nat.testBit_succ]; exact i2 (by omega)
theorem cnt_below (t : Nat) : ∀ m, cnt (fun i => decide (i < t)) m = min t m := by
 intro m
 induction m with
 | zero => simp [cnt]
 | succ m ih => unfold cnt; rw [ih]; simp only [decide_eq_true_eq]; split <;> omega
theorem count_ones (t : Nat) (h : t ≤ 64) : count (((2 ^ t - 1 : Nat) : Int)) = t := by
 unfold count
 rw [Int.toNat_natCast, pop_cnt]
 have : cnt (2 ^ t - 1).testBit 64 = cnt (fun i => decide (i < t)) 64 := cnt_congr fun i _ => Nat.testBit_two_pow_sub_one ..
 rw [this, cnt_below]
 omega
/-- x & -x is the least one alone -/
theorem and_neg (X t : Nat) (hX : X < 18446744073709551616) (ht : t < 64) (h1 : ∀ i, i < t → X.testBit i = false) (h2 : X.testBit t = true) : X &&& (18446744073709551616 - X) = 2 ^ t := by
 have hpos : 2 ^ t ≤ X := Nat.ge_two_pow_of_testBit h2
 have hp := Nat.one_le_two_pow (n := t)
 obtain ⟨q, hq⟩ : ∃ q, X = 2 ^ t * (2 * q + 1) := by
  have hm : X % 2 ^ t = 0 := by
   apply Nat.eq_of_testBit_eq
   intro i
   rw [Nat.testBit_mod_two_pow]
   by_cases hi : i < t
   ·simp [h1 i hi]
   ·simp [hi]
  have hd : X / 2 ^ t % 2 = 1 := by
   rw [Nat.testBit_eq_decide_div_mod_eq] at h2; simpa using h2
  refine ⟨X / 2 ^ t / 2, ?_⟩
  have e := Nat.div_add_mod X (2 ^ t)
  have e2 := Nat.div_add_mod (X / 2 ^ t) 2
  rw [hd] at e2
  rw [e2]; omega
 have e : 18446744073709551616 - X = 2 ^ 64 - ((X - 1) + 1) := by omega
 apply Nat.eq_of_testBit_eq
 intro i
 rw [e, Nat.testBit_and, Nat.testBit_two_pow_sub_succ (by simp; omega)]
 have ex1 : X = 2 ^ t * (2 * q + 1) + 0 := by omega
 have ex : X - 1 = 2 ^ t * (2 * q) + (2 ^ t - 1) := by
  have : 2 ^ t * (2 * q + 1) = 2 ^ t * (2 * q) + 2 ^ t := by rw [Nat.mul_add, Nat.mul_one]
  omega
 rw [ex, Nat.testBit_two_pow_mul_add _ (by omega), Nat.testBit_two_pow]
 by_cases hi : i < t
 ·rw [h1 i hi]; simp; omega
 ·rw [if_neg hi]
  have b : X.testBit i = (2 * q + 1).testBit (i - t) := by
   rw [ex1, Nat.testBit_two_pow_mul_add _ (by omega), if_neg hi]
  rw [b]
  rcases Nat.eq_zero_or_pos (i - t) with hz | hz
  ·rw [hz]
   have : i = t := by omega
   subst this
   simp [ht]
  ·obtain ⟨j, hj⟩ := Nat.exists_eq_succ_of_ne_zero (Nat.ne_of_gt hz)
   rw [hj, Nat.testBit_succ, Nat.testBit_succ, show (2 * q + 1) / 2 = q from by omega, show 2 * q / 2 = q from by omega]
   have : t ≠ i := by omega
   simp [this]
   intro a b; simp [a]
theorem lowest_code (x : Int) (h1 : 0 ≤ x) (h2 : x ≤ 18446744073709551615) : count (IntKind.u64.wrap (bits .and .u64 x (IntKind.u64.wrap (-x)) - 1)) = lowest x := by
 obtain ⟨X, rfl⟩ := Int.eq_ofNat_of_zero_le h1
 unfold lowest
 obtain ⟨s1, s2⟩ := low_spec 64 X
 have sl := low_le 64 X
 rw [Int.toNat_natCast]
 rcases Nat.eq_zero_or_pos X with rfl | hX
 ·have e : bits .and .u64 ((0 : Nat) : Int) (IntKind.u64.wrap (-((0 : Nat) : Int))) = 0 := by decide
  rw [e, show IntKind.u64.wrap (0 - 1) = ((2 ^ 64 - 1 : Nat) : Int) from by decide, count_ones 64 (by decide)]
  decide
 ·have e : IntKind.u64.wrap (-(X : Int)) = ((18446744073709551616 - X : Nat) : Int) := by rw [IntKind.wrap_u64]; omega
  rw [e, u64_and_nat _ _ (by omega) (by omega)]
  by_cases ht : low X 64 < 64
  ·rw [and_neg X (low X 64) (by omega) ht s1 (s2 ht)]
   have hp := pow_bdN (low X 64) ht
   have e2 : IntKind.u64.wrap (((2 ^ low X 64 : Nat) : Int) - 1) = ((2 ^ low X 64 - 1 : Nat) : Int) := by rw [IntKind.wrap_u64]; omega
   rw [e2, count_ones _ sl]
  ·exfalso
   have : X = 0 := by
    apply Nat.eq_of_testBit_eq
    intro i
    rw [Nat.zero_testBit]
    by_cases hi : i < 64
    ·exact s1 i (by omega)
    ·exact high_bit X i (by omega) (by omega)
   omega
end Go.Proofs.Ytdgmlfpikgjnlaa.Bt
end

section
namespace Go.Proofs.Ytdgmlfpikgjnlaa.Bt
open Go Go.RowKit
/-! ## the greatest one -/
def hb (x : Nat) : Nat := if x = 0 then 0 else Nat.log2 x + 1
/-! ## turning -/
def rs (r : Nat) : Nat := r * 2 % 18446744073709551616 + r / 9223372036854775808
def rot (x : Nat) : Nat → Nat
 | 0 => x
 | k + 1 => rs (rot x k)
def turn (x b : Int) : Int := (rot x.toNat (b % 64).toNat : Nat)
/-! ## pieces -/
def up (n size : Int) : Int := if n ≤ 0 ∨ size ≤ 0 then 0 else (n - 1) / size + 1
theorem up_bd (n size : Int) (h : n ≤ 9223372036854775807) : 0 ≤ up n size ∧ up n size ≤ 9223372036854775807 := by
 unfold up
 split
 ·omega
 ·rename_i h2
  have a : (n - 1) / size ≤ n - 1 := Int.ediv_le_self _ (by omega)
  have b : 0 ≤ (n - 1) / size := Int.ediv_nonneg (by omega) (by omega)
  omega
theorem up_out (n size : Int) (h : n ≤ 0 ∨ size ≤ 0) : up n size = 0 := by unfold up; rw [if_pos h]
theorem up_in (n size : Int) (h : 0 < n) (h2 : 0 < size) (h3 : n ≤ 9223372036854775807) : wrap64 ((n - 1) / size + 1) = up n size := by
 have := up_bd n size h3
 unfold up at *
 rw [if_neg (by omega)] at *
 unfold wrap64
 omega
def noneBelow (x : Int) (j : Nat) : Prop := ∀ i, i < j → x.toNat.testBit i = false
theorem lowest_at (x : Int) (j : Nat) (hj : j ≤ 64) (h : noneBelow x j) (hb : j < 64 → bit x j = true) : lowest x = j := by
 unfold lowest
 rw [low_unique 64 x.toNat j hj h (fun hlt => by simpa [bit] using hb hlt)]
end Go.Proofs.Ytdgmlfpikgjnlaa.Bt
end

section
namespace Go.Proofs.Ytdgmlfpikgjnlaa.Bm
open Go.RowKit
/-- is it in? -/
def at_ (l : List Bool) (i : Nat) : Bool := l.getD i false
theorem at_out {l : List Bool} {i : Nat} (h : l.length ≤ i) : at_ l i = false := by simp [at_, List.getD, List.getElem?_eq_none h]
theorem at_lt {l : List Bool} {i : Nat} (h : at_ l i = true) : i < l.length := by
 rcases Nat.lt_or_ge i l.length with h2 | h2
 ·exact h2
 ·rw [at_out h2] at h; cases h
theorem at_set (l : List Bool) (i j : Nat) (b : Bool) (h : i < l.length) : at_ (l.set i b) j = if i = j then b else at_ l j := by
 simp only [at_, List.getD, List.getElem?_set]
 split
 ·rename_i e; subst e; simp [h]
 ·rfl
def wd (l : List Bool) (i : Nat) : Nat := Bt.ofBits (fun j => at_ l (64 * i + j)) 64
theorem wd_lt (l : List Bool) (i : Nat) : wd l i < 18446744073709551616 := Bt.ofBits_lt _ 64
theorem wd_bit (l : List Bool) (i j : Nat) : (wd l i).testBit j = (decide (j < 64) && at_ l (64 * i + j)) := Bt.testBit_ofBits _ _ _
def nw (l : List Bool) : Nat := (l.length + 63) / 64
def ws (l : List Bool) : List Int := (List.range (nw l)).map fun i => ((wd l i : Nat) : Int)
theorem ws_len (l : List Bool) : (ws l).length = nw l := by simp [ws]
theorem ws_get (l : List Bool) (i : Nat) (h : i < nw l) : (ws l)[i]? = some ((wd l i : Nat) : Int) := by simp [ws, h]
def cnt (l : List Bool) : Nat := l.count true
theorem cnt_le (l : List Bool) : cnt l ≤ l.length := List.count_le_length
theorem cnt_on (l : List Bool) (i : Nat) (h : i < l.length) (h0 : at_ l i = false) : cnt (l.set i true) = cnt l + 1 := by
 have h1 : l[i] = false := by simpa [at_, List.getD, h] using h0
 unfold cnt
 rw [List.count_set h, h1]; simp
theorem cnt_off (l : List Bool) (i : Nat) (h0 : at_ l i = true) : cnt (l.set i false) + 1 = cnt l := by
 have h := at_lt h0
 have h1 : l[i] = true := by simpa [at_, List.getD, h] using h0
 unfold cnt
 rw [List.count_set h, h1]
 have : 0 < l.count true := List.count_pos_iff.2 (h1 ▸ List.getElem_mem h)
 simp; omega
/-! one word changes -/
theorem on_wd (l : List Bool) (a : Nat) (h : a < l.length) : wd l (a / 64) ||| 2 ^ (a % 64) = wd (l.set a true) (a / 64) := by
 apply Nat.eq_of_testBit_eq
 intro j
 rw [Nat.testBit_or, wd_bit, wd_bit, at_set _ _ _ _ h, Nat.testBit_two_pow]
 by_cases hj : j < 64
 ·by_cases e : a % 64 = j
  ·have : a = 64 * (a / 64) + j := by omega
   simp [hj, e, ← this]
  ·have : ¬ a = 64 * (a / 64) + j := by omega
   simp [hj, e, this]
 ·have : ¬ a % 64 = j := by omega
  simp [hj, this]
theorem off_wd (l : List Bool) (a : Nat) (h : a < l.length) : wd l (a / 64) &&& (18446744073709551615 - 2 ^ (a % 64)) = wd (l.set a false) (a / 64) := by
 apply Nat.eq_of_testBit_eq
 intro j
 have hp : (2 : Nat) ^ (a % 64) < 2 ^ 64 := Nat.pow_lt_pow_right (by decide) (by omega)
 have e : 18446744073709551615 - 2 ^ (a % 64) = 2 ^ 64 - (2 ^ (a % 64) + 1) := by omega
 rw [Nat.testBit_and, e, Nat.testBit_two_pow_sub_succ hp, wd_bit, wd_bit, at_set _ _ _ _ h, Nat.testBit_two_pow]
 by_cases hj : j < 64
 ·by_cases e : a % 64 = j
  ·have : a = 64 * (a / 64) + j := by omega
   simp [hj, e, ← this]
  ·have : ¬ a = 64 * (a / 64) + j := by omega
   simp [hj, e, this]
 ·simp [hj]
theorem set_ws (l : List Bool) (a : Nat) (b : Bool) (h : a < l.length) : (ws l).set (a / 64) ((wd (l.set a b) (a / 64) : Nat) : Int) = ws (l.set a b) := by
 have hn : nw (l.set a b) = nw l := by simp [nw]
 apply List.ext_getElem?
 intro i
 rw [List.getElem?_set, ws_len]
 by_cases hi : i < nw l
 ·have e1 := ws_get (l.set a b) i (by omega)
  have e2 := ws_get l i hi
  rw [e1]
  by_cases e : a / 64 = i
  ·rw [if_pos e, if_pos (by omega), e]
  ·rw [if_neg e, e2]
   congr 2
   apply Nat.eq_of_testBit_eq
   intro j
   rw [wd_bit, wd_bit, at_set _ _ _ _ h]
   by_cases hj : j < 64
   ·have : ¬ a = 64 * i + j := by omega
    simp [hj, this]
   ·simp [hj]
 ·rw [List.getElem?_eq_none (by rw [ws_len]; omega), List.getElem?_eq_none (by rw [ws_len]; omega)]
  split
  ·rw [if_neg (by omega)]
  ·rfl
theorem bit1 (X j : Nat) (h : X < 18446744073709551616) : bits .and .u64 (((X / 2 ^ j : Nat)) : Int) 1 = if X.testBit j then 1 else 0 := by
 have h2 : X / 2 ^ j ≤ X := Nat.div_le_self _ _
 have := u64_and_nat (X / 2 ^ j) 1 (by omega) (by decide)
 rw [show ((1 : Nat) : Int) = 1 from rfl] at this
 rw [this, Nat.and_one_is_mod, Nat.testBit_eq_decide_div_mod_eq]
 split <;> rename_i e <;> simp at e <;> omega
/-! the rest of a word -/
def tl (X s : Nat) : Nat := Bt.ofBits (fun j => decide (s ≤ j) && X.testBit j) 64
theorem tl_bit (X s j : Nat) : (tl X s).testBit j = (decide (j < 64) && (decide (s ≤ j) && X.testBit j)) := Bt.testBit_ofBits _ _ _
theorem tl_lt (X s : Nat) : tl X s < 18446744073709551616 := Bt.ofBits_lt _ 64
theorem tl_code (X s : Nat) (h : X < 18446744073709551616) : IntKind.u64.wrap (((X / 2 ^ s : Nat) : Int) * 2 ^ s) = ((tl X s : Nat) : Int) := by
 rw [Bt.wrap_shl]
 congr 1
 apply Nat.eq_of_testBit_eq
 intro j
 rw [Bt.testBit_shl, tl_bit]
 by_cases hj : j < 64
 ·by_cases hs : s ≤ j
  ·rw [Nat.testBit_div_two_pow, show j - s + s = j by omega]
  ·simp [hj, hs]
 ·simp [hj]
/-! the next one -/
def IsNext (l : List Bool) (a : Nat) (r : Int) (ok : Bool) : Prop :=
 (ok = false ∧ r = 0 ∧ ∀ j, a ≤ j → at_ l j = false) ∨ (ok = true ∧ ∃ j : Nat, r = j ∧ a ≤ j ∧ at_ l j = true ∧ ∀ i, a ≤ i → i < j → at_ l i = false)
theorem next_here (l : List Bool) (a i : Nat) (W : Nat) (hW : ∀ j, j < 64 → W.testBit j = (decide (a ≤ 64 * i + j) && at_ l (64 * i + j))) (hl : W < 18446744073709551616) (h0 : W ≠ 0) (hb : ∀ j, a ≤ j → j < 64 * i → at_ l j = false) : ∃ j : Nat, j < 64 ∧ Bt.lowest (W : Int) = j ∧ IsNext l a ((64 * i + j : Nat) : Int) true := by
 have hex : ∃ j, j < 64 ∧ W.testBit j = true := by
  refine Classical.byContradiction fun hn => h0 (Nat.eq_of_testBit_eq fun j => ?_)
  rw [Nat.zero_testBit]
  by_cases hj : j < 64
  ·cases hw : W.testBit j
   ·rfl
   ·exact absurd ⟨j, hj, hw⟩ hn
  ·exact Bt.high_bit W j hl (by omega)
 obtain ⟨j, ⟨hj, hw⟩, hmin⟩ := least_of hex
 have hlow : Bt.lowest (W : Int) = j := by
  refine Bt.lowest_at _ j (by omega) (fun k hk => ?_) (fun _ => by simpa [Bt.bit] using hw)
  cases hw2 : (W : Int).toNat.testBit k
  ·rfl
  ·have := hmin k ⟨by omega, by simpa using hw2⟩; omega
 refine ⟨j, hj, hlow, .inr ⟨rfl, _, rfl, ?_⟩⟩
 have hw' := hw
 rw [hW j hj, Bool.and_eq_true, decide_eq_true_eq] at hw'
 refine ⟨hw'.1, hw'.2, fun k hk hlt => ?_⟩
 by_cases hki : k < 64 * i
 ·exact hb k hk hki
 ·have h1 := hW (k - 64 * i) (by omega)
  rw [show 64 * i + (k - 64 * i) = k by omega] at h1
  cases hat : at_ l k
  ·rfl
  ·rw [hat, decide_eq_true hk] at h1
   have := hmin (k - 64 * i) ⟨by omega, by simpa using h1⟩; omega
where
 least_of {p : Nat → Prop} (h : ∃ m, p m) : ∃ m, p m ∧ ∀ k, p k → m ≤ k := by
  classical
  obtain ⟨m, hm⟩ := h
  induction m using Nat.strongRecOn with
  | _ m ih =>
   by_cases h2 : ∃ k, k < m ∧ p k
   ·obtain ⟨k, hk, hp⟩ := h2; exact ih k hk hp
   ·exact ⟨m, hm, fun k hk => Nat.le_of_not_lt fun hlt => h2 ⟨k, hlt, hk⟩⟩
theorem none_here (l : List Bool) (a i : Nat) (hW : ∀ j, j < 64 → (0 : Nat).testBit j = (decide (a ≤ 64 * i + j) && at_ l (64 * i + j))) (hb : ∀ j, a ≤ j → j < 64 * i → at_ l j = false) : ∀ j, a ≤ j → j < 64 * (i + 1) → at_ l j = false := by
 intro j hj hlt
 by_cases h : j < 64 * i
 ·exact hb j hj h
 ·have := hW (j - 64 * i) (by omega)
  rw [show 64 * i + (j - 64 * i) = j by omega, decide_eq_true hj] at this
  simpa using this.symm
/-! all, in turn -/
def upto (l : List Bool) (k : Nat) : List Int := ((List.range k).filter (at_ l)).map fun (i : Nat) => (i : Int)
def elems (l : List Bool) : List Int := upto l l.length
theorem upto_succ (l : List Bool) (k : Nat) : upto l (k + 1) = upto l k ++ if at_ l k then [(k : Int)] else [] := by
 unfold upto
 rw [List.range_succ, List.filter_append, List.map_append]
 congr 1
 cases h : at_ l k <;> simp [h]
theorem upto_skip (l : List Bool) (k m : Nat) (h : k ≤ m) (hz : ∀ i, k ≤ i → i < m → at_ l i = false) : upto l m = upto l k := by
 obtain ⟨d, rfl⟩ := Nat.exists_eq_add_of_le h
 induction d with
 | zero => rfl
 | succ d ih => rw [← Nat.add_assoc, upto_succ, hz _ (by omega) (by omega), ih (by omega) (fun i h1 h2 => hz i h1 (by omega))]; simp
theorem upto_next (l : List Bool) (k : Nat) (r : Int) (h : IsNext l k r true) : ∃ j : Nat, r = j ∧ k ≤ j ∧ j < l.length ∧ upto l (j + 1) = upto l k ++ [r] := by
 rcases h with ⟨h, _⟩ | ⟨_, j, rfl, hk, hj, hz⟩
 ·cases h
 ·refine ⟨j, rfl, hk, at_lt hj, ?_⟩
  rw [upto_succ, hj, upto_skip l k j hk hz]; simp
theorem upto_big (l : List Bool) (k : Nat) (h : l.length ≤ k) : upto l k = elems l := upto_skip l _ _ h fun i h1 _ => at_out h1
theorem upto_none (l : List Bool) (k : Nat) (h : ∀ j, k ≤ j → at_ l j = false) : upto l k = elems l := by
 rcases Nat.le_total k l.length with h1 | h1
 ·exact (upto_skip l k _ h1 fun i h2 _ => h i h2).symm
 ·exact upto_big l k h1
theorem upto_pre (l : List Bool) (k m : Nat) (h : k ≤ m) : upto l k <+: upto l m := by
 obtain ⟨d, rfl⟩ := Nat.exists_eq_add_of_le h
 induction d with
 | zero => exact List.prefix_refl _
 | succ d ih => exact (ih (by omega)).trans (by rw [← Nat.add_assoc, upto_succ]; exact List.prefix_append _ _)
theorem upto_pre_all (l : List Bool) (k : Nat) : upto l k <+: elems l := by
 rcases Nat.le_total k l.length with h | h
 ·exact upto_pre l k _ h
 ·rw [upto_big l k h]; exact List.prefix_refl _
theorem elems_len (l : List Bool) : (elems l).length ≤ l.length := by
 unfold elems upto
 rw [List.length_map]
 exact Nat.le_trans (List.length_filter_le _ _) (by simp)
theorem cnt_eq (l : List Bool) : cnt l = (elems l).length := by
 have key : ∀ k, k ≤ l.length → (upto l k).length = (l.take k).count true := by
  intro k
  induction k with
  | zero => intro _; simp [upto]
  | succ k ih =>
   intro hk
   rw [upto_succ, List.length_append, ih (by omega), List.take_add_one, List.getElem?_eq_getElem (by omega)]
   have : at_ l k = l[k] := by simp [at_, List.getD, show k < l.length by omega]
   rw [this]
   cases l[k] <;> simp
 have := key l.length (Nat.le_refl _)
 rw [List.take_length] at this
 exact this.symm
/-! from one to another one -/
def list (l : List Bool) (f t : Int) : List Int := (upto l l.length).filter fun x => decide (f ≤ x) && decide (x < t)
def listTo (l : List Bool) (f t : Int) (k : Nat) : List Int := (upto l k).filter fun x => decide (f ≤ x) && decide (x < t)
theorem listTo_succ (l : List Bool) (f t : Int) (k : Nat) : listTo l f t (k + 1) = listTo l f t k ++ if at_ l k ∧ f ≤ (k : Int) ∧ (k : Int) < t then [(k : Int)] else [] := by
 unfold listTo
 rw [upto_succ, List.filter_append]
 congr 1
 cases h : at_ l k <;> by_cases h1 : f ≤ (k : Int) <;> by_cases h2 : (k : Int) < t <;> simp [h1, h2]
theorem list_all (l : List Bool) : list l 0 l.length = elems l := by
 unfold list
 rw [List.filter_eq_self.2]
 ·rfl
 ·intro x hx
  unfold upto at hx
  obtain ⟨i, hi, rfl⟩ := List.mem_map.1 hx
  have := (List.mem_filter.1 hi).1
  simp at this
  simp [this]
theorem listTo_len (l : List Bool) (f t : Int) (k : Nat) : (listTo l f t k).length ≤ k := by
 unfold listTo upto
 exact Nat.le_trans (List.length_filter_le _ _) (by rw [List.length_map]; exact Nat.le_trans (List.length_filter_le _ _) (by simp))
theorem listTo_big (l : List Bool) (f t : Int) (k : Nat) (h : l.length ≤ k) : listTo l f t k = list l f t := by unfold listTo list; rw [upto_big l k h]; rfl
theorem listTo_mem (l : List Bool) (f t : Int) (k : Nat) {x : Int} (h : x ∈ listTo l f t k) : 0 ≤ x ∧ x < k ∧ x < l.length := by
 unfold listTo upto at h
 obtain ⟨h1, _⟩ := List.mem_filter.1 h
 obtain ⟨i, hi, rfl⟩ := List.mem_map.1 h1
 obtain ⟨h2, h3⟩ := List.mem_filter.1 hi
 have := at_lt h3
 simp at h2; omega
/-! one is put in, or out -/
def put (l : List Bool) (x : Int) (b : Bool) : List Bool := if 0 ≤ x ∧ x < l.length then l.set x.toNat b else l
theorem put_in {l : List Bool} {i : Nat} (b : Bool) (h : i < l.length) : put l i b = l.set i b := by unfold put; rw [if_pos (by omega)]; rfl
theorem put_out {l : List Bool} {x : Int} (b : Bool) (h : ¬ (0 ≤ x ∧ x < l.length)) : put l x b = l := by unfold put; rw [if_neg h]
theorem put_len (l : List Bool) (x : Int) (b : Bool) : (put l x b).length = l.length := by unfold put; split <;> simp
theorem set_self {l : List Bool} {i : Nat} {b : Bool} (h : i < l.length) (h2 : at_ l i = b) : l.set i b = l := by
 have : l[i] = b := by simpa [at_, List.getD, h] using h2
 rw [← this]; exact List.set_getElem_self h
def has (l : List Bool) (x : Int) : Bool := decide (0 ≤ x) && at_ l x.toNat
theorem has_in {l : List Bool} (i : Nat) : has l i = at_ l i := by simp [has]
theorem has_out {l : List Bool} {x : Int} (h : ¬ (0 ≤ x ∧ x < l.length)) : has l x = false := by
 unfold has
 by_cases h0 : 0 ≤ x
 ·rw [at_out (by omega)]; simp
 ·simp [h0]
theorem has_put (l : List Bool) (x y : Int) (b : Bool) (h : 0 ≤ x ∧ x < l.length) : has (put l x b) y = if x = y then b else has l y := by
 obtain ⟨i, rfl⟩ := Int.eq_ofNat_of_zero_le h.1
 rw [put_in b (by omega)]
 unfold has
 by_cases h0 : 0 ≤ y
 ·obtain ⟨j, rfl⟩ := Int.eq_ofNat_of_zero_le h0
  rw [Int.toNat_natCast, at_set _ _ _ _ (by omega)]
  by_cases e : i = j
  ·subst e; simp
  ·have : ¬ (i : Int) = (j : Int) := by omega
   simp [e, this]
 ·have : ¬ (i : Int) = y := by omega
  simp [h0, this]
def puts (l : List Bool) (xs : List Int) : List Bool := xs.foldl (fun l x => put l x true) l
theorem puts_len (xs : List Int) : ∀ l, (puts l xs).length = l.length := by
 induction xs with
 | nil => intro l; rfl
 | cons x xs ih => intro l; show (puts (put l x true) xs).length = _; rw [ih, put_len]
theorem puts_snoc (l : List Bool) (xs : List Int) (x : Int) : puts l (xs ++ [x]) = put (puts l xs) x true := by simp [puts]
theorem puts_nw (l : List Bool) (xs : List Int) : nw (puts l xs) = nw l := by unfold nw; rw [puts_len]
/-! none -/
theorem at_new (n i : Nat) : at_ (List.replicate n false) i = false := by
 unfold at_; rw [List.getD, List.getElem?_replicate]; split <;> rfl
theorem ws_new (n : Nat) : ws (List.replicate n false) = List.replicate ((n + 63) / 64) 0 := by
 have e : nw (List.replicate n false) = (n + 63) / 64 := by simp [nw]
 unfold ws
 rw [e]
 apply List.ext_getElem?
 intro i
 rw [List.getElem?_map, List.getElem?_replicate]
 split
 ·rename_i h
  have : wd (List.replicate n false) i = 0 := by
   apply Nat.eq_of_testBit_eq
   intro j
   rw [wd_bit, at_new]; simp
  rw [List.getElem?_range h, Option.map_some, this]; rfl
 ·rw [List.getElem?_eq_none (by simp; omega)]; rfl
theorem cnt_new (n : Nat) : cnt (List.replicate n false) = 0 := by simp [cnt, List.count_replicate]
theorem up_nw (n : Nat) : Bt.up n 64 = (((n + 63) / 64 : Nat) : Int) := by
 unfold Bt.up
 split <;> omega
end Go.Proofs.Ytdgmlfpikgjnlaa.Bm
end

section
namespace Go.Proofs.Ytdgmlfpikgjnlaa
open Go.RowKit
set_option maxHeartbeats 400000
end Go.Proofs.Ytdgmlfpikgjnlaa
end

section
namespace Go.Proofs.Ytdgmlfpikgjnlaa
open Go.RowKit
set_option maxHeartbeats 400000
end Go.Proofs.Ytdgmlfpikgjnlaa
end

section
namespace Go.Proofs.Ytdgmlfpikgjnlaa
open Go.RowKit
set_option maxHeartbeats 400000
theorem count_any (x : Int) (w : World) (x1 : 0 ≤ x) (x2 : x ≤ 18446744073709551615) :
  Calls Try.prog 83 #[.int .u64 x] w fun e w' => e = .returned (.int .i64 (Bt.count x)) ∧ w = w' := by
 go_enter Try.func83, Try.ntmps83
 go_wp2_with fail
 go_ret
 exact ⟨ret_int (Bt.count_code x x1 x2), rfl⟩
theorem up_any (n b : Int) (w : World) (x1 : -9223372036854775808 ≤ n) (x2 : n ≤ 9223372036854775807) (a1 : -9223372036854775808 ≤ b) (a2 : b ≤ 9223372036854775807) :
  Calls Try.prog 82 #[.int .i64 n, .int .i64 b] w fun e w' => e = .returned (.int .i64 (Bt.up n b)) ∧ w = w' := by
 by_cases h1 : n ≤ 0
 ·go_enter Try.func82, Try.ntmps82
  go_wp2_with fail
  go_ret
  exact ⟨ret_int (Bt.up_out n b (.inl h1)).symm, rfl⟩
 ·by_cases h2 : b ≤ 0
  ·go_enter Try.func82, Try.ntmps82
   go_wp2_with fail
   go_ret
   exact ⟨ret_int (Bt.up_out n b (.inr h2)).symm, rfl⟩
  ·go_enter Try.func82, Try.ntmps82
   go_wp2_with fail
   go_ret
   exact ⟨ret_int (Bt.up_in n b (by omega) (by omega) x2), rfl⟩
theorem lowest_any (x : Int) (w : World) (x1 : 0 ≤ x) (x2 : x ≤ 18446744073709551615) :
  Calls Try.prog 77 #[.int .u64 x] w fun e w' => e = .returned (.int .i64 (Bt.lowest x)) ∧ w = w' := by
 have fin := Lib.hid (Bt.lowest_code x x1 x2)
 go_enter Try.func77, Try.ntmps77
 go_wp2_with fail
 refine (count_any _ _ (by rw [IntKind.wrap_u64]; omega) (by rw [IntKind.wrap_u64]; omega)).mono ?_
 rintro e w' ⟨rfl, rfl⟩
 go_wp2_with fail
 go_ret
 exact ⟨ret_int fin.out, rfl⟩
end Go.Proofs.Ytdgmlfpikgjnlaa
end

section
namespace Go.Proofs.Ytdgmlfpikgjnlaa
open Go.RowKit
set_option maxRecDepth 100000
section
variable {P : Program} {n : Sz} {f : Nat → Value} {W : World} {dst : Option Tmp} {ty : TypeId} {pos : String} {af : Array Edge} {g : Option (Nat × Bool)} {x y : Operand} {k k2 : IntKind} {a b c : Int} {t t2 : TypeId}
theorem r_shr {s : Nat} (hx : ev n f x = .int k a) (hy : ev n f y = .int k2 b) (hb : b = (s : Int)) (hs : s ≤ k.bits) (hr : a.fdiv (2 ^ s) = c) : (execOp (ev n f) ⟨dst, .binOp .shr t x y t2, ty, pos, af, g⟩).run P W = .ok (.value (.int k c)) W := by
 subst hb
 have h1 : min s k.bits = s := Nat.min_eq_left hs
 have h2 : ¬ (s : Int) < 0 := by omega
 simp [execOp, hx, hy, eqGuard, binOp, Op.shift, h1, h2, hr]
theorem r_shl {s : Nat} (hx : ev n f x = .int k a) (hy : ev n f y = .int k2 b) (hb : b = (s : Int)) (hs : s ≤ k.bits) (hr : k.wrap (a * 2 ^ s) = c) : (execOp (ev n f) ⟨dst, .binOp .shl t x y t2, ty, pos, af, g⟩).run P W = .ok (.value (.int k c)) W := by
 subst hb
 have h1 : min s k.bits = s := Nat.min_eq_left hs
 have h2 : ¬ (s : Int) < 0 := by omega
 simp [execOp, hx, hy, eqGuard, binOp, Op.shift, h1, h2, hr]
theorem fdiv_pow (X s : Nat) : ((X : Int)).fdiv (2 ^ s) = ((X / 2 ^ s : Nat) : Int) := by
 rw [← Bt.pow_int, Int.fdiv_eq_ediv_of_nonneg _ (Int.natCast_nonneg _)]; exact (Int.natCast_ediv ..).symm
theorem r_and (hx : ev n f x = .int k a) (hy : ev n f y = .int k b) (hr : bits .and k a b = c) : (execOp (ev n f) ⟨dst, .binOp .and t x y t2, ty, pos, af, g⟩).run P W = .ok (.value (.int k c)) W := by
 simp [execOp, hx, hy, eqGuard, binOp, intBits_and, hr]
theorem r_or (hx : ev n f x = .int k a) (hy : ev n f y = .int k b) (hr : bits .or k a b = c) : (execOp (ev n f) ⟨dst, .binOp .or t x y t2, ty, pos, af, g⟩).run P W = .ok (.value (.int k c)) W := by
 simp [execOp, hx, hy, eqGuard, binOp, intBits_or, hr]
theorem r_xor (hx : ev n f x = .int k a) (hy : ev n f y = .int k b) (hr : bits .xor k a b = c) : (execOp (ev n f) ⟨dst, .binOp .xor t x y t2, ty, pos, af, g⟩).run P W = .ok (.value (.int k c)) W := by
 simp [execOp, hx, hy, eqGuard, binOp, intBits_xor, hr]
theorem r_andNot (hx : ev n f x = .int k a) (hy : ev n f y = .int k b) (hr : bits .andNot k a b = c) : (execOp (ev n f) ⟨dst, .binOp .andNot t x y t2, ty, pos, af, g⟩).run P W = .ok (.value (.int k c)) W := by
 simp [execOp, hx, hy, eqGuard, binOp, intBits_andNot, hr]
end
/-- a set: its words, in a row; its limit; how many are in it -/
def setE (p b : Nat) (A : Option Addr) (c : Nat) (l : List Bool) : List Ent := [blk p [.slice A (Bm.nw l) c, .int .i64 l.length, .int .i64 (Bm.cnt l)] 98, vec (Value.int .u64) b (Bm.ws l) 78]
structure SetOk (b : Nat) (A : Option Addr) (c : Nat) (l : List Bool) : Prop where
 row : Bm.nw l ≠ 0 → A = some ⟨b, 0, none⟩
 len : l.length ≤ 255
theorem setE_cel (p b : Nat) (A : Option Addr) (c : Nat) (l : List Bool) : ∀ E ∈ setE p b A c l, Cel E := cl_cons (cl_blk _ _ _) (cl_cons (cl_vec _ _ _ _) cl_nil)
abbrev pt (b : Nat) : Value := .pointer (some ⟨b, 0, none⟩)
section
variable {p b : Nat} {A : Option Addr} {c : Nat} {l : List Bool} (hk : SetOk b A c l) (w : World) (hE : Ents (setE p b A c l) w)
include hE
theorem bIn (x : Int) : Calls Try.prog 76 [pt p, .int .i64 x].toArray w fun e w' => e = .returned (.bool (decide (0 ≤ x ∧ x < l.length))) ∧ Only [] w w' := by
 have HR := Heap.start hE
 have H := Heap.nil w
 unfold setE at HR
 by_cases h1 : 0 ≤ x
 ·by_cases h2 : x < l.length
  ·rw [decide_eq_true ⟨h1, h2⟩]
   refine k_in (N := 15) Try.func76 rfl rfl rfl ?_
   refine k_sg ?_
   refine s_run rfl rfl (rab rfl) ?_
   refine k_nc ?_
   refine k_sg ?_
   refine s_run rfl rfl (rmi rfl) ?_
   refine s_run rfl rfl (r_geqT rfl rfl (by omega)) ?_
   refine s_run rfl rfl (rmb rfl) ?_
   refine s_run rfl (g_on 7 (by kernel_rfl) rfl) (rmi rfl) ?_
   refine s_run rfl (g_on 7 (by kernel_rfl) rfl) (rmp rfl) ?_
   refine s_run rfl (g_on 7 (by kernel_rfl) rfl) (r_nc rfl) ?_
   refine s_run rfl (g_on 7 (by kernel_rfl) rfl) (r_fa0 rfl fo98_1) ?_
   refine s_run rfl (g_on 7 (by kernel_rfl) rfl) (r_lo (HR.same H.only) 0 rfl rfl rfl ag3) ?_
   refine s_run rfl (g_on 7 (by kernel_rfl) rfl) (r_lssT rfl rfl (by omega)) ?_
   refine s_run rfl rfl (r_pkT (v := .bool _) rfl rfl) ?_
   refine s_run rfl rfl (rab rfl) ?_
   refine k_nc ?_
   refine k_ret ?_
   refine fin1r (v := .bool _) rfl rfl ?_
   exact ⟨rfl, H.only⟩
  ·rw [decide_eq_false (fun h => h2 h.2)]
   refine k_in (N := 15) Try.func76 rfl rfl rfl ?_
   refine k_sg ?_
   refine s_run rfl rfl (rab rfl) ?_
   refine k_nc ?_
   refine k_sg ?_
   refine s_run rfl rfl (rmi rfl) ?_
   refine s_run rfl rfl (r_geqT rfl rfl (by omega)) ?_
   refine s_run rfl rfl (rmb rfl) ?_
   refine s_run rfl (g_on 7 (by kernel_rfl) rfl) (rmi rfl) ?_
   refine s_run rfl (g_on 7 (by kernel_rfl) rfl) (rmp rfl) ?_
   refine s_run rfl (g_on 7 (by kernel_rfl) rfl) (r_nc rfl) ?_
   refine s_run rfl (g_on 7 (by kernel_rfl) rfl) (r_fa0 rfl fo98_1) ?_
   refine s_run rfl (g_on 7 (by kernel_rfl) rfl) (r_lo (HR.same H.only) 0 rfl rfl rfl ag3) ?_
   refine s_run rfl (g_on 7 (by kernel_rfl) rfl) (r_lssF rfl rfl (by omega)) ?_
   refine s_run rfl rfl (r_pkT (v := .bool _) rfl rfl) ?_
   refine s_run rfl rfl (rab rfl) ?_
   refine k_nc ?_
   refine k_ret ?_
   refine fin1r (v := .bool _) rfl rfl ?_
   exact ⟨rfl, H.only⟩
 ·rw [decide_eq_false (fun h => h1 h.1)]
  refine k_in (N := 15) Try.func76 rfl rfl rfl ?_
  refine k_sg ?_
  refine s_run rfl rfl (rab rfl) ?_
  refine k_nc ?_
  refine k_sg ?_
  refine s_run rfl rfl (rmi rfl) ?_
  refine s_run rfl rfl (r_geqF rfl rfl (by omega)) ?_
  refine s_run rfl rfl (rmb rfl) ?_
  refine s_off rfl (g_off 7 (by kernel_rfl) rfl rfl) ?_
  refine s_off rfl (g_off 7 (by kernel_rfl) rfl rfl) ?_
  refine s_off rfl (g_off 7 (by kernel_rfl) rfl rfl) ?_
  refine s_off rfl (g_off 7 (by kernel_rfl) rfl rfl) ?_
  refine s_off rfl (g_off 7 (by kernel_rfl) rfl rfl) ?_
  refine s_off rfl (g_off 7 (by kernel_rfl) rfl rfl) ?_
  refine s_run rfl rfl (r_pkF (v := .bool _) rfl rfl) ?_
  refine s_run rfl rfl (rab rfl) ?_
  refine k_nc ?_
  refine k_ret ?_
  refine fin1r (v := .bool _) rfl rfl ?_
  exact ⟨rfl, H.only⟩
theorem bLen : Calls Try.prog 73 [pt p].toArray w fun e w' => e = .returned (.int .i64 (Bm.cnt l)) ∧ Only [] w w' := by
 have HR := Heap.start hE
 have H := Heap.nil w
 unfold setE at HR
 refine k_in (N := 7) Try.func73 rfl rfl rfl ?_
 refine k_sg ?_
 refine s_run rfl rfl (rai rfl) ?_
 refine k_nc ?_
 refine k_sg ?_
 refine s_run rfl rfl (rmp rfl) ?_
 refine s_run rfl rfl (r_nc rfl) ?_
 refine s_run rfl rfl (r_fa0 rfl fo98_2) ?_
 refine s_run rfl rfl (r_lo (HR.same H.only) 0 rfl rfl rfl ag3) ?_
 refine s_run rfl rfl (rai rfl) ?_
 refine k_nc ?_
 refine k_ret ?_
 refine fin1r (v := .int _ _) rfl rfl ?_
 exact ⟨rfl, H.only⟩
theorem bLimit : Calls Try.prog 75 [pt p].toArray w fun e w' => e = .returned (.int .i64 l.length) ∧ Only [] w w' := by
 have HR := Heap.start hE
 have H := Heap.nil w
 unfold setE at HR
 refine k_in (N := 7) Try.func75 rfl rfl rfl ?_
 refine k_sg ?_
 refine s_run rfl rfl (rai rfl) ?_
 refine k_nc ?_
 refine k_sg ?_
 refine s_run rfl rfl (rmp rfl) ?_
 refine s_run rfl rfl (r_nc rfl) ?_
 refine s_run rfl rfl (r_fa0 rfl fo98_1) ?_
 refine s_run rfl rfl (r_lo (HR.same H.only) 0 rfl rfl rfl ag3) ?_
 refine s_run rfl rfl (rai rfl) ?_
 refine k_nc ?_
 refine k_ret ?_
 refine fin1r (v := .int _ _) rfl rfl ?_
 exact ⟨rfl, H.only⟩
include hk
theorem bHas (x : Int) : Calls Try.prog 38 [pt p, .int .i64 x].toArray w fun e w' => e = .returned (.bool (decide (0 ≤ x) && Bm.at_ l x.toNat)) ∧ Only [] w w' := by
 have HR := Heap.start hE
 have H := Heap.nil w
 have hI := fun w' (H : Heap w [] [] w') => bIn w' (HR.same H.only).ents x
 have hlen := hk.len
 by_cases hin : 0 ≤ x ∧ x < l.length
 ·rw [decide_eq_true hin] at hI
  obtain ⟨i, rfl⟩ := Int.eq_ofNat_of_zero_le hin.1
  have hi : i < l.length := by omega
  obtain rfl := hk.row (by unfold Bm.nw; omega)
  have hnw : i / 64 < Bm.nw l := by unfold Bm.nw; omega
  rw [decide_eq_true hin.1, Bool.true_and, Int.toNat_natCast]
  have hb := Bm.bit1 (Bm.wd l (i / 64)) (i % 64) (Bm.wd_lt _ _)
  have hbit := Bm.wd_bit l (i / 64) (i % 64)
  rw [show 64 * (i / 64) + i % 64 = i by omega, decide_eq_true (show i % 64 < 64 by omega), Bool.true_and] at hbit
  rw [hbit] at hb
  unfold setE at HR
  cases hat : Bm.at_ l i with
  | true =>
   rw [hat, if_pos rfl] at hb
   refine k_in (N := 24) Try.func38 rfl rfl rfl ?_
   refine k_sg ?_
   refine s_run rfl rfl (rab rfl) ?_
   refine k_nc ?_
   refine k_sg ?_
   refine s_run rfl rfl (rmp rfl) ?_
   refine s_run rfl rfl (rmi rfl) ?_
   refine s_call rfl (hI _ H) (ca76 rfl) ?_
   rintro e W1 ⟨rfl, H'⟩
   refine ⟨_, rfl, ?_⟩
   have H := H.same H'; clear H'
   refine s_run rfl rfl (rmb rfl) ?_
   refine s_run rfl (g_on 8 (by kernel_rfl) rfl) (rmp rfl) ?_
   refine s_run rfl (g_on 8 (by kernel_rfl) rfl) (r_nc rfl) ?_
   refine s_run rfl (g_on 8 (by kernel_rfl) rfl) (r_fa0 rfl fo98_0) ?_
   refine s_run rfl (g_on 8 (by kernel_rfl) rfl) (r_lo (HR.same H.only) 0 rfl rfl rfl ag37) ?_
   refine s_run rfl (g_on 8 (by kernel_rfl) rfl) (rmi rfl) ?_
   refine s_run rfl (g_on 8 (by kernel_rfl) rfl) (r_quo rfl rfl (by omega) (wI (by omega))) ?_
   refine s_run rfl (g_on 8 (by kernel_rfl) rfl) (r_ix1 (i := i / 64) rfl rfl (by omega) (by omega) Try.underlying37 sz78) ?_
   refine s_run rfl (g_on 8 (by kernel_rfl) rfl) (r_lv (HR.same H.only) 1 rfl rfl (Bm.ws_get l _ hnw) ag78) ?_
   refine s_run rfl (g_on 8 (by kernel_rfl) rfl) (rmi rfl) ?_
   refine s_run rfl (g_on 8 (by kernel_rfl) rfl) (r_rem rfl rfl (by omega)) ?_
   refine s_run rfl (g_on 8 (by kernel_rfl) rfl) (r_cv rfl (by kernel_rfl) Try.underlying99 (wU (by omega))) ?_
   refine s_run rfl (g_on 8 (by kernel_rfl) rfl) (r_shr (s := i % 64) rfl rfl (by omega) (by show i % 64 ≤ 64; omega) (fdiv_pow _ _)) ?_
   refine s_run rfl (g_on 8 (by kernel_rfl) rfl) (r_and rfl rfl hb) ?_
   refine s_run rfl (g_on 8 (by kernel_rfl) rfl) (r_eqlT rfl rfl (by omega)) ?_
   refine s_run rfl rfl (r_pkT (v := .bool _) rfl rfl) ?_
   refine s_run rfl rfl (rab rfl) ?_
   refine k_nc ?_
   refine k_ret ?_
   refine fin1r (v := .bool _) rfl rfl ?_
   exact ⟨rfl, H.only⟩
  | false =>
   rw [hat, if_neg (by simp)] at hb
   refine k_in (N := 24) Try.func38 rfl rfl rfl ?_
   refine k_sg ?_
   refine s_run rfl rfl (rab rfl) ?_
   refine k_nc ?_
   refine k_sg ?_
   refine s_run rfl rfl (rmp rfl) ?_
   refine s_run rfl rfl (rmi rfl) ?_
   refine s_call rfl (hI _ H) (ca76 rfl) ?_
   rintro e W1 ⟨rfl, H'⟩
   refine ⟨_, rfl, ?_⟩
   have H := H.same H'; clear H'
   refine s_run rfl rfl (rmb rfl) ?_
   refine s_run rfl (g_on 8 (by kernel_rfl) rfl) (rmp rfl) ?_
   refine s_run rfl (g_on 8 (by kernel_rfl) rfl) (r_nc rfl) ?_
   refine s_run rfl (g_on 8 (by kernel_rfl) rfl) (r_fa0 rfl fo98_0) ?_
   refine s_run rfl (g_on 8 (by kernel_rfl) rfl) (r_lo (HR.same H.only) 0 rfl rfl rfl ag37) ?_
   refine s_run rfl (g_on 8 (by kernel_rfl) rfl) (rmi rfl) ?_
   refine s_run rfl (g_on 8 (by kernel_rfl) rfl) (r_quo rfl rfl (by omega) (wI (by omega))) ?_
   refine s_run rfl (g_on 8 (by kernel_rfl) rfl) (r_ix1 (i := i / 64) rfl rfl (by omega) (by omega) Try.underlying37 sz78) ?_
   refine s_run rfl (g_on 8 (by kernel_rfl) rfl) (r_lv (HR.same H.only) 1 rfl rfl (Bm.ws_get l _ hnw) ag78) ?_
   refine s_run rfl (g_on 8 (by kernel_rfl) rfl) (rmi rfl) ?_
   refine s_run rfl (g_on 8 (by kernel_rfl) rfl) (r_rem rfl rfl (by omega)) ?_
   refine s_run rfl (g_on 8 (by kernel_rfl) rfl) (r_cv rfl (by kernel_rfl) Try.underlying99 (wU (by omega))) ?_
   refine s_run rfl (g_on 8 (by kernel_rfl) rfl) (r_shr (s := i % 64) rfl rfl (by omega) (by show i % 64 ≤ 64; omega) (fdiv_pow _ _)) ?_
   refine s_run rfl (g_on 8 (by kernel_rfl) rfl) (r_and rfl rfl hb) ?_
   refine s_run rfl (g_on 8 (by kernel_rfl) rfl) (r_eqlF rfl rfl (by omega)) ?_
   refine s_run rfl rfl (r_pkT (v := .bool _) rfl rfl) ?_
   refine s_run rfl rfl (rab rfl) ?_
   refine k_nc ?_
   refine k_ret ?_
   refine fin1r (v := .bool _) rfl rfl ?_
   exact ⟨rfl, H.only⟩
 ·have hz : (decide (0 ≤ x) && Bm.at_ l x.toNat) = false := by
   by_cases h0 : 0 ≤ x
   ·rw [Bm.at_out (by omega)]; simp
   ·simp [h0]
  rw [hz]
  rw [decide_eq_false hin] at hI
  unfold setE at HR
  refine k_in (N := 24) Try.func38 rfl rfl rfl ?_
  refine k_sg ?_
  refine s_run rfl rfl (rab rfl) ?_
  refine k_nc ?_
  refine k_sg ?_
  refine s_run rfl rfl (rmp rfl) ?_
  refine s_run rfl rfl (rmi rfl) ?_
  refine s_call rfl (hI _ H) (ca76 rfl) ?_
  rintro e W1 ⟨rfl, H'⟩
  refine ⟨_, rfl, ?_⟩
  have H := H.same H'; clear H'
  refine s_run rfl rfl (rmb rfl) ?_
  refine s_off rfl (g_off 8 (by kernel_rfl) rfl rfl) ?_
  refine s_off rfl (g_off 8 (by kernel_rfl) rfl rfl) ?_
  refine s_off rfl (g_off 8 (by kernel_rfl) rfl rfl) ?_
  refine s_off rfl (g_off 8 (by kernel_rfl) rfl rfl) ?_
  refine s_off rfl (g_off 8 (by kernel_rfl) rfl rfl) ?_
  refine s_off rfl (g_off 8 (by kernel_rfl) rfl rfl) ?_
  refine s_off rfl (g_off 8 (by kernel_rfl) rfl rfl) ?_
  refine s_off rfl (g_off 8 (by kernel_rfl) rfl rfl) ?_
  refine s_off rfl (g_off 8 (by kernel_rfl) rfl rfl) ?_
  refine s_off rfl (g_off 8 (by kernel_rfl) rfl rfl) ?_
  refine s_off rfl (g_off 8 (by kernel_rfl) rfl rfl) ?_
  refine s_off rfl (g_off 8 (by kernel_rfl) rfl rfl) ?_
  refine s_off rfl (g_off 8 (by kernel_rfl) rfl rfl) ?_
  refine s_off rfl (g_off 8 (by kernel_rfl) rfl rfl) ?_
  refine s_run rfl rfl (r_pkF (v := .bool _) rfl rfl) ?_
  refine s_run rfl rfl (rab rfl) ?_
  refine k_nc ?_
  refine k_ret ?_
  refine fin1r (v := .bool _) rfl rfl ?_
  exact ⟨rfl, H.only⟩
end
end Go.Proofs.Ytdgmlfpikgjnlaa
end

section
namespace Go.Proofs.Ytdgmlfpikgjnlaa
open Go.RowKit
set_option maxRecDepth 100000
section
variable {P : Program} {ops : Array Oper} {rest : List Oper} {n : Sz} {k : Nat} {f : Nat → Value} {W W' w0 : World} {F : List Nat} {L : List Ent} {Q : Exit → Act → World → Prop} {ty : TypeId} {pos : String} {af : Array Edge} {g : Option (Nat × Bool)} {x : Operand} {v : Value} {t e : TypeId} {o : Oper}
theorem s_dov (hd : o.dst = none) (hw : Region.wanted o (yl n f ops) = true) (hr : (execOp (ev n f) o).run P W = .ok (.value v) W') (h : SL P ops Q rest n f W') : SL P ops Q (o :: rest) n f W := by
 have hy : yielded ops (Fn n f).tmps = yl n f ops := funext (yl_eq n f ops)
 have hr' : (execOp (Fn n f).eval o).run P W = .ok (.value v) W' := by rw [Fn_eval]; exact hr
 refine ⟨?_, fun l0 m => ?_⟩
 ·unfold wpList
  rw [hy, if_pos hw]
  refine .inl ?_
  unfold Oper.wp
  rw [hr', Oper.upon_value, hd]
  exact h.out
 ·unfold wpListIn
  rw [hy, if_pos hw]
  refine inr_step hr' (fun d => by intro e; cases e) ?_
  rw [Oper.uponIn_value, hd]
  exact h.inr l0 m
/-- clear(s) -/
theorem s_clear {α : Type} {enc : α → Value} {z : α} {p l c bytes : Nat} {xs : List α} {T : TypeId} (H : Heap w0 F L W) (j : Nat) (hw : Region.wanted ⟨none, .call ⟨.builtin .clear, #[x], #[t]⟩, ty, pos, af, g⟩ (yl n f ops) = true)
  (hx : ev n f x = .slice (some ⟨p, 0, none⟩) l c) (hj : L[j]? = some (vec enc p xs T)) (hl : xs.length = l) (h0 : l ≠ 0) (ht : P.underlying t = some (.slice e)) (hi : Inf P e (enc z) 1 bytes) (h1 : (enc z).oneCell' = true)
  (h : ∀ W', Heap w0 F (L.set j (vec enc p (List.replicate l z) T)) W' → SL P ops Q rest n f W') : SL P ops Q (⟨none, .call ⟨.builtin .clear, #[x], #[t]⟩, ty, pos, af, g⟩ :: rest) n f W := by
 subst hl
 obtain ⟨rs, hr⟩ := H.vec_get j hj h0
 obtain ⟨i, hi0, hz0, hsz, _⟩ := hi.ex
 have hrep : List.replicate xs.length (enc z) = (List.replicate xs.length z).map enc := by simp
 have hst := run_storeCells_at P p 0 T (List.replicate xs.length (enc z)) 0 _ W hr (by simp) (fun v hv => by rw [(List.mem_replicate.1 hv).2]; exact h1)
 have H2 := H.vec_cp j hj (o := 0) (ys := List.replicate xs.length z) h0 (by simp) hr
 rw [← hrep] at H2
 simp only [List.take_zero, List.nil_append, Nat.zero_add, List.length_replicate, List.drop_length, List.append_nil, Nat.add_zero] at hst H2
 have hrun : (Builtin.clear_ #[t] ty #[.slice (some ⟨p, 0, none⟩) xs.length c]).run P W = .ok (.tuple #[]) (W.setRow p (List.replicate xs.length (enc z) ++ (xs.map enc ++ rs).drop xs.length).toArray) := by
  have hz1 : (zeroValue e).run P W = .ok (enc z) W := by simp [zeroValue, typeInfo, hi0, hz0]
  obtain ⟨m, hm⟩ := Nat.exists_eq_succ_of_ne_zero h0
  rw [hm] at hst ⊢
  simp [Builtin.clear_, run_underlying ht, hz1, zeroCells_one _ _ (one_cells h1), hst]
 exact s_dov (v := .tuple #[]) rfl hw (by simp only [execOp, resolve, invoke, builtin, List.map_toArray, List.map_cons, List.map_nil, hx, Sem.run_bind, Sem.run_pure, Result.andThen_ok, hrun]) (h _ H2)
theorem s_clear0 {A : Option Addr} {c : Nat} (H : Heap w0 F L W) (hw : Region.wanted ⟨none, .call ⟨.builtin .clear, #[x], #[t]⟩, ty, pos, af, g⟩ (yl n f ops) = true)
  (hx : ev n f x = .slice A 0 c) (ht : P.underlying t = some (.slice e))
  (h : ∀ W', Heap w0 F L W' → SL P ops Q rest n f W') : SL P ops Q (⟨none, .call ⟨.builtin .clear, #[x], #[t]⟩, ty, pos, af, g⟩ :: rest) n f W := by
 have hrun : (Builtin.clear_ #[t] ty #[.slice A 0 c]).run P W = .ok (.tuple #[]) W := by
  cases A <;> simp [Builtin.clear_, run_underlying ht]
 exact s_dov (v := .tuple #[]) rfl hw (by simp only [execOp, resolve, invoke, builtin, List.map_toArray, List.map_cons, List.map_nil, hx, Sem.run_bind, Sem.run_pure, Result.andThen_ok, hrun]) (h _ H)
end
theorem wrapN (Y : Nat) (h : Y < 18446744073709551616) : IntKind.u64.wrap (Y : Int) = Y := wU (by omega)
theorem setE_put {p b : Nat} {A : Option Addr} {c : Nat} {l : List Bool} {i : Nat} {v : Bool} {w W : World} {F : List Nat} {L : List Ent} (h : i < l.length) (n : Int) (hn : n = Bm.cnt (l.set i v)) (X : Int) (hX : X = ((Bm.wd (l.set i v) (i / 64) : Nat) : Int))
  (H : Heap w F (blk p [.slice A (Bm.nw l) c, .int .i64 l.length, .int .i64 n] 98 :: vec (Value.int .u64) b ((Bm.ws l).set (i / 64) X) 78 :: L) W) : Heap w F (setE p b A c (Bm.put l i v) ++ L) W := by
 subst hn; subst hX
 rw [Bm.put_in v h]
 rw [Bm.set_ws l i v h] at H
 unfold setE
 have e1 : Bm.nw (l.set i v) = Bm.nw l := by simp [Bm.nw]
 have e2 : (l.set i v).length = l.length := by simp
 rw [e1, e2]; exact H
section
variable {p b : Nat} {A : Option Addr} {c : Nat} {l : List Bool} (hk : SetOk b A c l) (w : World) (hE : Ents (setE p b A c l) w)
include hE hk
theorem bAdd (x : Int) : Calls Try.prog 67 [pt p, .int .i64 x].toArray w fun e w' => e = .returned (.bool (decide (0 ≤ x ∧ x < l.length) && !Bm.has l x)) ∧ Heap w (ids (setE p b A c l)) (setE p b A c (Bm.put l x true)) w' := by
 have H := Heap.start hE
 generalize ids (setE p b A c l) = F at *
 have hI := fun w' (H : Heap w F (setE p b A c l) w') => bIn w' H.ents x
 have hH := fun w' (H : Heap w F (setE p b A c l) w') => bHas hk w' H.ents x
 have hlen := hk.len
 have hcn := Bm.cnt_le l
 by_cases hin : 0 ≤ x ∧ x < l.length
 ·rw [decide_eq_true hin] at hI
  obtain ⟨i, rfl⟩ := Int.eq_ofNat_of_zero_le hin.1
  have hi : i < l.length := by omega
  have hA := hk.row (by unfold Bm.nw; omega)
  have hnw : i / 64 < Bm.nw l := by unfold Bm.nw; omega
  rw [decide_eq_true hin, Bool.true_and, Bm.has_in]
  rw [decide_eq_true hin.1, Bool.true_and, Int.toNat_natCast] at hH
  cases hat : Bm.at_ l i with
  | true =>
   rw [hat] at hH
   rw [Bm.put_in true hi, Bm.set_self hi hat]
   refine k_in (N := 35) Try.func67 rfl rfl rfl ?_
   refine k_sg ?_
   refine s_run rfl rfl (rab rfl) ?_
   refine k_nc ?_
   refine k_seq ?_
   refine k_sg ?_
   refine s_run rfl rfl (rmp rfl) ?_
   refine s_run rfl rfl (rmi rfl) ?_
   refine s_call rfl (hI _ H) (ca76 rfl) ?_
   rintro e W1 ⟨rfl, H'⟩
   refine ⟨_, rfl, ?_⟩
   have H := H.same H'; clear H'
   refine s_run rfl rfl (r_notT rfl) ?_
   refine s_run rfl rfl (rmb rfl) ?_
   refine s_run rfl (g_on 9 (by kernel_rfl) rfl) (rmp rfl) ?_
   refine s_run rfl (g_on 9 (by kernel_rfl) rfl) (rmi rfl) ?_
   refine s_call (g_on 9 (by kernel_rfl) rfl) (hH _ H) (ca38 rfl) ?_
   rintro e W1 ⟨rfl, H'⟩
   refine ⟨_, rfl, ?_⟩
   have H := H.same H'; clear H'
   refine s_run rfl rfl (r_pkF (v := .bool _) rfl rfl) ?_
   refine k_nc ?_
   refine k_t rfl ?_
   refine k_sg ?_
   refine s_run rfl rfl (rab rfl) ?_
   refine k_nc ?_
   refine k_ret ?_
   refine c_ret ?_
   refine fin1r (v := .bool _) rfl rfl ?_
   exact ⟨rfl, H⟩
  | false =>
   rw [hat] at hH
   have hon := Bm.on_wd l i hi
   have hp2 : (2 : Nat) ^ (i % 64) < 18446744073709551616 := by have := (Bt.pow_bdN (i % 64) (by omega)).2; omega
   have hor := u64_or_nat (Bm.wd l (i / 64)) (2 ^ (i % 64)) (Bm.wd_lt _ _) hp2
   rw [hon] at hor
   have hcnt := Bm.cnt_on l i hi hat
   have hpw : IntKind.u64.wrap (1 * 2 ^ (i % 64)) = ((2 ^ (i % 64) : Nat) : Int) := by
    rw [Int.one_mul, ← Bt.pow_int]; exact wrapN _ hp2
   have hgz := Bm.ws_get l _ hnw
   have hwl : (Bm.ws l).length = Bm.nw l := Bm.ws_len l
   rw [hA] at H hI hH ⊢
   refine k_in (N := 35) Try.func67 rfl rfl rfl ?_
   refine k_sg ?_
   refine s_run rfl rfl (rab rfl) ?_
   refine k_nc ?_
   refine k_seq ?_
   refine k_sg ?_
   refine s_run rfl rfl (rmp rfl) ?_
   refine s_run rfl rfl (rmi rfl) ?_
   refine s_call rfl (hI _ H) (ca76 rfl) ?_
   rintro e W1 ⟨rfl, H'⟩
   refine ⟨_, rfl, ?_⟩
   have H := H.same H'; clear H'
   refine s_run rfl rfl (r_notT rfl) ?_
   refine s_run rfl rfl (rmb rfl) ?_
   refine s_run rfl (g_on 9 (by kernel_rfl) rfl) (rmp rfl) ?_
   refine s_run rfl (g_on 9 (by kernel_rfl) rfl) (rmi rfl) ?_
   refine s_call (g_on 9 (by kernel_rfl) rfl) (hH _ H) (ca38 rfl) ?_
   rintro e W1 ⟨rfl, H'⟩
   refine ⟨_, rfl, ?_⟩
   have H := H.same H'; clear H'; unfold setE at H
   refine s_run rfl rfl (r_pkF (v := .bool _) rfl rfl) ?_
   refine k_nc ?_
   refine k_f rfl ?_
   refine k_skip ?_
   refine c_norm ?_
   refine k_sg ?_
   refine s_run rfl rfl (rmp rfl) ?_
   refine s_run rfl rfl (r_nc rfl) ?_
   refine s_run rfl rfl (r_fa0 rfl fo98_0) ?_
   refine s_run rfl rfl (r_lo H 0 rfl rfl rfl ag37) ?_
   refine s_run rfl rfl (rmi rfl) ?_
   refine s_run rfl rfl (r_quo rfl rfl (by omega) (wI (by omega))) ?_
   refine s_run rfl rfl (r_ix1 (i := i / 64) rfl rfl (by omega) (by omega) Try.underlying37 sz78) ?_
   refine s_run rfl rfl (r_lv H 1 rfl rfl hgz ag78) ?_
   refine s_run rfl rfl (rmi rfl) ?_
   refine s_run rfl rfl (r_rem rfl rfl (by omega)) ?_
   refine s_run rfl rfl (r_cv rfl (by kernel_rfl) Try.underlying99 (wU (by omega))) ?_
   refine s_run rfl rfl (r_shl (s := i % 64) rfl rfl (by omega) (by show i % 64 ≤ 64; omega) hpw) ?_
   refine s_run rfl rfl (r_or rfl rfl hor) ?_
   refine s_run rfl rfl (r_ix1 (i := i / 64) rfl rfl (by omega) (by omega) Try.underlying37 sz78) ?_
   refine s_sv (u := .int _ _) H 1 rfl rfl rfl rfl rfl (by omega) (fun _ => rfl) sz78 ?_
   clear H; intro _ H; simp only [jA, jB, jC, jD, jE, jF, jG, jH, jI, jJ, jK, Nat.reduceAdd] at H
   refine k_nc ?_
   refine k_sg ?_
   refine s_run rfl rfl (rmp rfl) ?_
   refine s_run rfl rfl (r_nc rfl) ?_
   refine s_run rfl rfl (r_fa0 rfl fo98_2) ?_
   refine s_run rfl rfl (r_lo H 0 rfl rfl rfl ag3) ?_
   refine s_run rfl rfl (r_add rfl rfl (wI (by omega))) ?_
   refine s_run rfl rfl (r_nc rfl) ?_
   refine s_run rfl rfl (r_fa0 rfl fo98_2) ?_
   refine s_st (u := .int _ _) H 0 rfl rfl rfl rfl rfl rfl sz3 ?_
   clear H; intro _ H; simp only [jA, jB, jC, jD, jE, jF, jG, jH, jI, jJ, jK, Nat.reduceAdd] at H
   refine k_nc ?_
   refine k_sg ?_
   refine s_run rfl rfl (rab rfl) ?_
   refine k_nc ?_
   refine k_ret ?_
   refine fin1r (v := .bool _) rfl rfl ?_
   refine ⟨rfl, ?_⟩
   have := setE_put (v := true) (L := []) hi _ (by rw [hcnt]; rfl) _ rfl H
   simpa using this
 ·rw [decide_eq_false hin] at hI
  rw [Bm.put_out true hin, decide_eq_false hin, Bool.false_and]
  refine k_in (N := 35) Try.func67 rfl rfl rfl ?_
  refine k_sg ?_
  refine s_run rfl rfl (rab rfl) ?_
  refine k_nc ?_
  refine k_seq ?_
  refine k_sg ?_
  refine s_run rfl rfl (rmp rfl) ?_
  refine s_run rfl rfl (rmi rfl) ?_
  refine s_call rfl (hI _ H) (ca76 rfl) ?_
  rintro e W1 ⟨rfl, H'⟩
  refine ⟨_, rfl, ?_⟩
  have H := H.same H'; clear H'
  refine s_run rfl rfl (r_notF rfl) ?_
  refine s_run rfl rfl (rmb rfl) ?_
  refine s_off rfl (g_off 9 (by kernel_rfl) rfl rfl) ?_
  refine s_off rfl (g_off 9 (by kernel_rfl) rfl rfl) ?_
  refine s_off rfl (g_off 9 (by kernel_rfl) rfl rfl) ?_
  refine s_run rfl rfl (r_pkT (v := .bool _) rfl rfl) ?_
  refine k_nc ?_
  refine k_t rfl ?_
  refine k_sg ?_
  refine s_run rfl rfl (rab rfl) ?_
  refine k_nc ?_
  refine k_ret ?_
  refine c_ret ?_
  refine fin1r (v := .bool _) rfl rfl ?_
  exact ⟨rfl, H⟩
theorem bDrop (x : Int) : Calls Try.prog 70 [pt p, .int .i64 x].toArray w fun e w' => e = .returned (.bool (Bm.has l x)) ∧ Heap w (ids (setE p b A c l)) (setE p b A c (Bm.put l x false)) w' := by
 have H := Heap.start hE
 generalize ids (setE p b A c l) = F at *
 have hH := fun w' (H : Heap w F (setE p b A c l) w') => bHas hk w' H.ents x
 have hlen := hk.len
 have hcn := Bm.cnt_le l
 have hhas : (decide (0 ≤ x) && Bm.at_ l x.toNat) = Bm.has l x := rfl
 rw [hhas] at hH
 cases hat : Bm.has l x with
 | true =>
  rw [hat] at hH
  have hin : 0 ≤ x ∧ x < l.length := by
   refine Classical.byContradiction fun hn => ?_
   rw [Bm.has_out hn] at hat; cases hat
  obtain ⟨i, rfl⟩ := Int.eq_ofNat_of_zero_le hin.1
  rw [Bm.has_in] at hat
  have hi : i < l.length := by omega
  have hA := hk.row (by unfold Bm.nw; omega)
  have hnw : i / 64 < Bm.nw l := by unfold Bm.nw; omega
  have hon := Bm.off_wd l i hi
  have hp2 : (2 : Nat) ^ (i % 64) < 18446744073709551616 := by have := (Bt.pow_bdN (i % 64) (by omega)).2; omega
  have hor := u64_andNot_nat (Bm.wd l (i / 64)) (2 ^ (i % 64)) (Bm.wd_lt _ _) hp2
  rw [hon] at hor
  have hcnt := Bm.cnt_off l i hat
  have hpw : IntKind.u64.wrap (1 * 2 ^ (i % 64)) = ((2 ^ (i % 64) : Nat) : Int) := by
   rw [Int.one_mul, ← Bt.pow_int]; exact wrapN _ hp2
  have hgz := Bm.ws_get l _ hnw
  have hwl : (Bm.ws l).length = Bm.nw l := Bm.ws_len l
  rw [hA] at H hH ⊢
  refine k_in (N := 30) Try.func70 rfl rfl rfl ?_
  refine k_sg ?_
  refine s_run rfl rfl (rab rfl) ?_
  refine k_nc ?_
  refine k_seq ?_
  refine k_sg ?_
  refine s_run rfl rfl (rmp rfl) ?_
  refine s_run rfl rfl (rmi rfl) ?_
  refine s_call rfl (hH _ H) (ca38 rfl) ?_
  rintro e W1 ⟨rfl, H'⟩
  refine ⟨_, rfl, ?_⟩
  have H := H.same H'; clear H'; unfold setE at H
  refine s_run rfl rfl (r_notT rfl) ?_
  refine k_nc ?_
  refine k_f rfl ?_
  refine k_skip ?_
  refine c_norm ?_
  refine k_sg ?_
  refine s_run rfl rfl (rmp rfl) ?_
  refine s_run rfl rfl (r_nc rfl) ?_
  refine s_run rfl rfl (r_fa0 rfl fo98_0) ?_
  refine s_run rfl rfl (r_lo H 0 rfl rfl rfl ag37) ?_
  refine s_run rfl rfl (rmi rfl) ?_
  refine s_run rfl rfl (r_quo rfl rfl (by omega) (wI (by omega))) ?_
  refine s_run rfl rfl (r_ix1 (i := i / 64) rfl rfl (by omega) (by omega) Try.underlying37 sz78) ?_
  refine s_run rfl rfl (r_lv H 1 rfl rfl hgz ag78) ?_
  refine s_run rfl rfl (rmi rfl) ?_
  refine s_run rfl rfl (r_rem rfl rfl (by omega)) ?_
  refine s_run rfl rfl (r_cv rfl (by kernel_rfl) Try.underlying99 (wU (by omega))) ?_
  refine s_run rfl rfl (r_shl (s := i % 64) rfl rfl (by omega) (by show i % 64 ≤ 64; omega) hpw) ?_
  refine s_run rfl rfl (r_andNot rfl rfl hor) ?_
  refine s_run rfl rfl (r_ix1 (i := i / 64) rfl rfl (by omega) (by omega) Try.underlying37 sz78) ?_
  refine s_sv (u := .int _ _) H 1 rfl rfl rfl rfl rfl (by omega) (fun _ => rfl) sz78 ?_
  clear H; intro _ H; simp only [jA, jB, jC, jD, jE, jF, jG, jH, jI, jJ, jK, Nat.reduceAdd] at H
  refine k_nc ?_
  refine k_sg ?_
  refine s_run rfl rfl (rmp rfl) ?_
  refine s_run rfl rfl (r_nc rfl) ?_
  refine s_run rfl rfl (r_fa0 rfl fo98_2) ?_
  refine s_run rfl rfl (r_lo H 0 rfl rfl rfl ag3) ?_
  refine s_run rfl rfl (r_sub rfl rfl (wI (by omega))) ?_
  refine s_run rfl rfl (r_nc rfl) ?_
  refine s_run rfl rfl (r_fa0 rfl fo98_2) ?_
  refine s_st (u := .int _ _) H 0 rfl rfl rfl rfl rfl rfl sz3 ?_
  clear H; intro _ H; simp only [jA, jB, jC, jD, jE, jF, jG, jH, jI, jJ, jK, Nat.reduceAdd] at H
  refine k_nc ?_
  refine k_sg ?_
  refine s_run rfl rfl (rab rfl) ?_
  refine k_nc ?_
  refine k_ret ?_
  refine fin1r (v := .bool _) rfl rfl ?_
  refine ⟨rfl, ?_⟩
  have := setE_put (v := false) (L := []) hi _ (by omega) _ rfl H
  simpa using this
 | false =>
  rw [hat] at hH
  have hput : Bm.put l x false = l := by
   by_cases hin : 0 ≤ x ∧ x < l.length
   ·obtain ⟨i, rfl⟩ := Int.eq_ofNat_of_zero_le hin.1
    rw [Bm.has_in] at hat
    rw [Bm.put_in false (by omega), Bm.set_self (by omega) hat]
   ·exact Bm.put_out false hin
  rw [hput]
  refine k_in (N := 30) Try.func70 rfl rfl rfl ?_
  refine k_sg ?_
  refine s_run rfl rfl (rab rfl) ?_
  refine k_nc ?_
  refine k_seq ?_
  refine k_sg ?_
  refine s_run rfl rfl (rmp rfl) ?_
  refine s_run rfl rfl (rmi rfl) ?_
  refine s_call rfl (hH _ H) (ca38 rfl) ?_
  rintro e W1 ⟨rfl, H'⟩
  refine ⟨_, rfl, ?_⟩
  have H := H.same H'; clear H'
  refine s_run rfl rfl (r_notF rfl) ?_
  refine k_nc ?_
  refine k_t rfl ?_
  refine k_sg ?_
  refine s_run rfl rfl (rab rfl) ?_
  refine k_nc ?_
  refine k_ret ?_
  refine c_ret ?_
  refine fin1r (v := .bool _) rfl rfl ?_
  exact ⟨rfl, H⟩
theorem bClear : Calls Try.prog 71 [pt p].toArray w fun e w' => e = .returned (.tuple #[]) ∧ Heap w (ids (setE p b A c l)) (setE p b A c (List.replicate l.length false)) w' := by
 have H := Heap.start hE
 generalize ids (setE p b A c l) = F at *
 have e1 : Bm.nw (List.replicate l.length false) = Bm.nw l := by simp [Bm.nw]
 have e2 := Bm.ws_new l.length
 have e3 : (l.length + 63) / 64 = Bm.nw l := rfl
 rw [e3] at e2
 unfold setE at *
 rw [e1, e2, Bm.cnt_new, List.length_replicate]
 by_cases h0 : Bm.nw l = 0
 ·rw [h0] at H ⊢
  have e4 : Bm.ws l = [] := by apply List.eq_nil_of_length_eq_zero; rw [Bm.ws_len, h0]
  rw [e4] at H
  refine k_in (N := 9) Try.func71 rfl rfl rfl ?_
  refine k_sg ?_
  refine s_run rfl rfl (rmp rfl) ?_
  refine s_run rfl rfl (r_nc rfl) ?_
  refine s_run rfl rfl (r_fa0 rfl fo98_0) ?_
  refine s_run rfl rfl (r_lo H 0 rfl rfl rfl ag37) ?_
  refine s_clear0 H rfl rfl Try.underlying37 ?_
  intro _ H'; try (simp only [List.set_cons_zero, List.set_cons_succ, List.take_succ_cons, List.take_zero, List.drop_succ_cons, List.drop_zero, List.cons_append, List.nil_append, List.append_nil, List.length_cons, List.length_nil, Nat.reduceAdd] at H')
  clear H; have H := H'; clear H'
  refine k_nc ?_
  refine k_rg ?_
  refine s_run rfl rfl (rmp rfl) ?_
  refine s_run rfl rfl (r_nc rfl) ?_
  refine s_run rfl rfl (r_fa0 rfl fo98_2) ?_
  refine s_st (u := .int _ _) H 0 rfl rfl rfl rfl rfl rfl sz3 ?_
  clear H; intro _ H; simp only [jA, jB, jC, jD, jE, jF, jG, jH, jI, jJ, jK, Nat.reduceAdd] at H
  refine k_nil ?_
  refine fin0  rfl ?_
  exact ⟨rfl, H⟩
 ·obtain rfl := hk.row h0
  refine k_in (N := 9) Try.func71 rfl rfl rfl ?_
  refine k_sg ?_
  refine s_run rfl rfl (rmp rfl) ?_
  refine s_run rfl rfl (r_nc rfl) ?_
  refine s_run rfl rfl (r_fa0 rfl fo98_0) ?_
  refine s_run rfl rfl (r_lo H 0 rfl rfl rfl ag37) ?_
  refine s_clear H 1 rfl rfl rfl (Bm.ws_len l) h0 Try.underlying37 inf78 rfl ?_
  intro _ H'; try (simp only [List.set_cons_zero, List.set_cons_succ, List.take_succ_cons, List.take_zero, List.drop_succ_cons, List.drop_zero, List.cons_append, List.nil_append, List.append_nil, List.length_cons, List.length_nil, Nat.reduceAdd] at H')
  clear H; have H := H'; clear H'
  refine k_nc ?_
  refine k_rg ?_
  refine s_run rfl rfl (rmp rfl) ?_
  refine s_run rfl rfl (r_nc rfl) ?_
  refine s_run rfl rfl (r_fa0 rfl fo98_2) ?_
  refine s_st (u := .int _ _) H 0 rfl rfl rfl rfl rfl rfl sz3 ?_
  clear H; intro _ H; simp only [jA, jB, jC, jD, jE, jF, jG, jH, jI, jJ, jK, Nat.reduceAdd] at H
  refine k_nil ?_
  refine fin0  rfl ?_
  exact ⟨rfl, H⟩
theorem bClone : Calls Try.prog 72 [pt p].toArray w fun e w' => ∃ q b' A' c', e = .returned (pt q) ∧ SetOk b' A' c' l ∧ Heap w [] (setE q b' A' c' l) w' := by
 have HQ := Heap.start hE
 have H := Heap.nil w
 have hlen := hk.len
 have hcn := Bm.cnt_le l
 have hnl : Bm.nw l ≤ 4 := by unfold Bm.nw; omega
 unfold setE at HQ
 have hS : Sees (Value.int .u64) w [] A (Bm.ws l) := fun h0 => ⟨b, 0, hk.row (by rw [Bm.ws_len] at h0; exact h0), by simp, HQ.reads0 1 rfl⟩
 refine k_in (N := 19) Try.func72 rfl rfl rfl ?_
 refine k_sg ?_
 refine s_run rfl rfl (rap rfl) ?_
 refine k_nc ?_
 refine k_seq ?_
 have HR := H; clear H; have H := HR.tree; refine k_tr mixed ?_
 refine tqh 1 rfl rfl rfl (fun _ hS => r_mv (v := .pointer _) rfl) H.only ?_
 refine tqh 2 rfl rfl rfl (fun _ hS => r_nc rfl) H.only ?_
 refine tqh 3 rfl rfl rfl (fun _ hS => r_fa0 rfl fo98_0) H.only ?_
 refine tqh 4 rfl rfl rfl (fun _ hS => r_lo (HQ.same hS) 0 rfl rfl rfl ag37) H.only ?_
 refine tqh 6 rfl rfl rfl (fun _ hS => r_mv (v := .pointer _) rfl) H.only ?_
 refine tqh 7 rfl rfl rfl (fun _ hS => r_nc rfl) H.only ?_
 refine tqh 8 rfl rfl rfl (fun _ hS => r_fa0 rfl fo98_1) H.only ?_
 refine tqh 9 rfl rfl rfl (fun _ hS => r_lo (HQ.same hS) 0 rfl rfl rfl ag3) H.only ?_
 refine tqh 10 rfl rfl rfl (fun _ hS => r_mv (v := .pointer _) rfl) H.only ?_
 refine tqh 11 rfl rfl rfl (fun _ hS => r_nc rfl) H.only ?_
 refine tqh 12 rfl rfl rfl (fun _ hS => r_fa0 rfl fo98_2) H.only ?_
 refine tqh 13 rfl rfl rfl (fun _ hS => r_lo (HQ.same hS) 0 rfl rfl rfl ag3) H.only ?_
 refine t_up1 0 (by kernel_rfl) ?_
 refine up_mk rfl ?_
 refine s_bs0 1 (by omega) H rfl Try.underlying37 inf78 ?_
 intro _ _ H'; clear H; have H := H'; clear H'
 refine k_nil ?_
 refine t_on H.only ?_
 refine t_up1 5 (by kernel_rfl) ?_
 refine up_mk rfl ?_
 refine s_apps (enc := (Value.int .u64)) (xs := []) H 0 rfl rfl rfl rfl (hS) (Bm.ws_len l) (fun _ => rfl) (by omega) Try.underlying37 inf78 rfl ?_
 intro A1 c1 W1 hA1 H'; simp only [List.set_cons_zero, List.set_cons_succ, List.take_succ_cons, List.take_zero, List.drop_succ_cons, List.drop_zero, List.cons_append, List.nil_append, List.append_nil, List.length_cons, List.length_nil, Nat.reduceAdd] at H'; clear H; have H := H'; clear H'
 refine k_nil ?_
 refine t_on H.only ?_
 refine tqh 14 rfl rfl rfl (fun _ hS => r_bd (bd98_0_1_2 _ _ _ _ _) rfl) H.only ?_
 refine t_up1 15 (by kernel_rfl) ?_
 refine up_mk rfl ?_
 refine s_box H rfl rfl ?_
 intro p18 _ H'; clear H; have H := H'; clear H'
 refine k_nil ?_
 refine t_on H.only ?_
 refine tqh 16 rfl rfl rfl (fun _ hS => r_as (v := .pointer _) rfl) H.only ?_
 refine t_done (by kernel_rfl) ?_
 have H := HR.more H; clear HR; simp only [List.cons_append, List.nil_append] at H
 refine c_norm ?_
 refine k_ret ?_
 refine fin1r (v := .pointer _) rfl rfl ?_
 rw [Nat.zero_add] at H
 replace H := H.order [1, 0] rfl rfl
 obtain ⟨b', hb', H⟩ := own_vec0 (enc := Value.int .u64) H
 replace H := H.order [1, 0] rfl rfl
 exact ⟨_, b', A1, c1, rfl, ⟨hb', hlen⟩, H⟩
end
theorem bNew (n : Nat) (w : World) (hn : n ≤ 255) : Calls Try.prog 66 [.int .i64 n].toArray w fun e w' => ∃ q b' A' c', e = .returned (pt q) ∧ SetOk b' A' c' (List.replicate n false) ∧ Heap w [] (setE q b' A' c' (List.replicate n false)) w' := by
 have H := Heap.nil w
 have hU := fun w => up_any n 64 w (by omega) (by omega) (by omega) (by omega)
 rw [Bm.up_nw] at hU
 have e1 : Bm.nw (List.replicate n false) = (n + 63) / 64 := by simp [Bm.nw]
 have e2 := Bm.ws_new n
 generalize hm : (n + 63) / 64 = m at *
 refine k_in (N := 11) Try.func66 rfl rfl rfl ?_
 refine k_sg ?_
 refine s_run rfl rfl (rap rfl) ?_
 refine k_nc ?_
 refine k_sg ?_
 refine s_run rfl rfl (rmi rfl) ?_
 refine s_run rfl rfl (r_max (c := (n : Int)) rfl rfl (by split <;> omega)) ?_
 refine s_run rfl rfl (rai rfl) ?_
 refine k_nc ?_
 refine k_sg ?_
 refine s_run rfl rfl (rmi rfl) ?_
 refine s_call rfl (hU _) (ca82 rfl) ?_
 rintro e W1 ⟨rfl, rfl⟩
 refine ⟨_, rfl, ?_⟩
 skip
 refine s_mk (Value.int .u64) 0 (m := m) H rfl rfl rfl (by omega) (by omega) (by omega) Try.underlying37 inf78 rfl ?_
 intro b _ H'; clear H; have H := H'; clear H'
 refine s_run rfl rfl (rmi rfl) ?_
 refine s_run rfl rfl (r_bd (bd98_0_1 _ _ _ _) rfl) ?_
 refine s_box H rfl rfl ?_
 intro p10 _ H'; clear H; have H := H'; clear H'
 refine s_run rfl rfl (rap rfl) ?_
 refine k_nc ?_
 refine k_ret ?_
 refine fin1r (v := .pointer _) rfl rfl ?_
 refine ⟨_, b, _, m, rfl, ⟨fun _ => rfl, by simpa using hn⟩, ?_⟩
 unfold setE
 rw [e1, e2, Bm.cnt_new, List.length_replicate]
 exact H
end Go.Proofs.Ytdgmlfpikgjnlaa
end

section
namespace Go.Proofs.Ytdgmlfpikgjnlaa
open Go.RowKit
set_option maxRecDepth 100000
section
variable {p b : Nat} {A : Option Addr} {c : Nat} {l : List Bool} (hk : SetOk b A c l) (w : World) (hE : Ents (setE p b A c l) w)
include hE hk
theorem bNext (x : Int) : Calls Try.prog 40 [pt p, .int .i64 x].toArray w fun e w' => (∃ r ok, e = .returned (.tuple [.int .i64 r, .bool ok].toArray) ∧ Bm.IsNext l x.toNat r ok) ∧ Only [] w w' := by
 have HR := Heap.start hE
 have H := Heap.nil w
 have hlen := hk.len
 unfold setE at HR
 obtain ⟨a, ha⟩ : ∃ a : Nat, x.toNat = a := ⟨_, rfl⟩
 have hmax : (if x < 0 then 0 else x) = (a : Int) := by split <;> omega
 rw [ha]
 by_cases hin : a < l.length
 ·obtain rfl := hk.row (by unfold Bm.nw; omega)
  have hnw : a / 64 < Bm.nw l := by unfold Bm.nw; omega
  have hnl : Bm.nw l ≤ 4 := by unfold Bm.nw; omega
  have hgz := Bm.ws_get l _ hnw
  have htl := Bm.tl_code (Bm.wd l (a / 64)) (a % 64) (Bm.wd_lt _ _)
  refine k_in (N := 56) Try.func40 rfl rfl rfl ?_
  refine k_sg ?_
  refine s_run rfl rfl (rai rfl) ?_
  refine s_run rfl rfl (rab rfl) ?_
  refine k_nc ?_
  refine k_sg ?_
  refine s_run rfl rfl (rmi rfl) ?_
  refine s_run rfl rfl (r_max (c := (a : Int)) rfl rfl hmax) ?_
  refine s_run rfl rfl (rai rfl) ?_
  refine k_nc ?_
  refine k_seq ?_
  refine k_sg ?_
  refine s_run rfl rfl (rmi rfl) ?_
  refine s_run rfl rfl (rmp rfl) ?_
  refine s_run rfl rfl (r_nc rfl) ?_
  refine s_run rfl rfl (r_fa0 rfl fo98_1) ?_
  refine s_run rfl rfl (r_lo (HR.same H.only) 0 rfl rfl rfl ag3) ?_
  refine s_run rfl rfl (r_geqF rfl rfl (by omega)) ?_
  refine k_nc ?_
  refine k_f rfl ?_
  refine k_skip ?_
  refine c_norm ?_
  refine k_sg ?_
  refine s_run rfl rfl (rmi rfl) ?_
  refine s_run rfl rfl (r_quo rfl rfl (by omega) (wI (by omega))) ?_
  refine s_run rfl rfl (rai rfl) ?_
  refine k_nc ?_
  refine k_sg ?_
  refine s_run rfl rfl (rmp rfl) ?_
  refine s_run rfl rfl (r_nc rfl) ?_
  refine s_run rfl rfl (r_fa0 rfl fo98_0) ?_
  refine s_run rfl rfl (r_lo (HR.same H.only) 0 rfl rfl rfl ag37) ?_
  refine s_run rfl rfl (rmi rfl) ?_
  refine s_run rfl rfl (r_ix1 (i := a / 64) rfl rfl (by omega) (by omega) Try.underlying37 sz78) ?_
  refine s_run rfl rfl (r_lv (HR.same H.only) 1 rfl rfl hgz ag78) ?_
  refine s_run rfl rfl (rmi rfl) ?_
  refine s_run rfl rfl (r_rem rfl rfl (by omega)) ?_
  refine s_run rfl rfl (r_cv rfl (by kernel_rfl) Try.underlying99 (wU (by omega))) ?_
  refine s_run rfl rfl (r_shr (s := a % 64) rfl rfl (by omega) (by show a % 64 ≤ 64; omega) (fdiv_pow _ _)) ?_
  refine s_run rfl rfl (rmi rfl) ?_
  refine s_run rfl rfl (r_rem rfl rfl (by omega)) ?_
  refine s_run rfl rfl (r_cv rfl (by kernel_rfl) Try.underlying99 (wU (by omega))) ?_
  refine s_run rfl rfl (r_shl (s := a % 64) rfl rfl (by omega) (by show a % 64 ≤ 64; omega) htl) ?_
  refine s_run rfl rfl (rai rfl) ?_
  refine k_nc ?_
  refine k_seq ?_
  refine k_b ?_
  refine k_loop (fun z f W => ∃ (i X : Nat), z = Bm.nw l - i ∧ a / 64 ≤ i ∧ i < Bm.nw l ∧ X < 18446744073709551616 ∧ (∀ j, j < 64 → X.testBit j = (decide (a ≤ 64 * i + j) && Bm.at_ l (64 * i + j))) ∧ (∀ j, a ≤ j → j < 64 * i → Bm.at_ l j = false) ∧ f 0 = pt p ∧ f 6 = .int .i64 i ∧ f 7 = .int .u64 (X : Int) ∧ Heap w [] [] W) (Bm.nw l - a / 64)
   ⟨a / 64, Bm.tl (Bm.wd l (a / 64)) (a % 64), rfl, Nat.le_refl _, hnw, Bm.tl_lt _ _, fun j hj => ?_, fun j h1 h2 => by omega, rfl, by simp only [upd]; rfl, rfl, H⟩ ?_
  ·rw [Bm.tl_bit, Bm.wd_bit, decide_eq_true hj]
   have : (a % 64 ≤ j) = (a ≤ 64 * (a / 64) + j) := by apply propext; omega
   simp [this]
  clear H
  rintro z f W ⟨i, X, rfl, hai, hi, hX, hb, hz, f0, f6, f7, H⟩
  obtain ⟨f, rfl⟩ := live3 f0 f6 f7
  clear f0 f6 f7
  by_cases h0 : X = 0
  ·subst h0
   have hz2 := Bm.none_here l a i hb hz
   by_cases hi2 : i + 1 < Bm.nw l
   ·have hg2 := Bm.ws_get l _ hi2
    refine k_seq ?_
    refine k_sg ?_
    refine s_run rfl rfl (rmi rfl) ?_
    refine s_run rfl rfl (r_eqlT rfl rfl (by omega)) ?_
    refine k_nc ?_
    refine k_t rfl ?_
    refine k_skip ?_
    refine c_norm ?_
    refine k_b ?_
    refine k_sg ?_
    refine s_run rfl rfl (rmi rfl) ?_
    refine s_run rfl rfl (r_add rfl rfl (wI (by omega))) ?_
    refine s_run rfl rfl (rai rfl) ?_
    refine k_nc ?_
    refine k_seq ?_
    refine k_sg ?_
    refine s_run rfl rfl (rmi rfl) ?_
    refine s_run rfl rfl (rmp rfl) ?_
    refine s_run rfl rfl (r_nc rfl) ?_
    refine s_run rfl rfl (r_fa0 rfl fo98_0) ?_
    refine s_run rfl rfl (r_lo (HR.same H.only) 0 rfl rfl rfl ag37) ?_
    refine s_run rfl rfl (r_len rfl Try.underlying37) ?_
    refine s_run rfl rfl (r_geqF rfl rfl (by omega)) ?_
    refine k_nc ?_
    refine k_f rfl ?_
    refine k_skip ?_
    refine c_norm ?_
    refine k_rg ?_
    refine s_run rfl rfl (rmp rfl) ?_
    refine s_run rfl rfl (r_nc rfl) ?_
    refine s_run rfl rfl (r_fa0 rfl fo98_0) ?_
    refine s_run rfl rfl (r_lo (HR.same H.only) 0 rfl rfl rfl ag37) ?_
    refine s_run rfl rfl (rmi rfl) ?_
    refine s_run rfl rfl (r_ix1 (i := i + 1) rfl rfl (by omega) (by omega) Try.underlying37 sz78) ?_
    refine s_run rfl rfl (r_lv (HR.same H.only) 1 rfl rfl hg2 ag78) ?_
    refine s_run rfl rfl (rai rfl) ?_
    refine k_nil ?_
    refine b_norm ?_
    refine c_round ?_
    refine ⟨_, _, ?_, rfl, i + 1, Bm.wd l (i + 1), rfl, by omega, hi2, Bm.wd_lt _ _, fun j hj => ?_, hz2, rfl, rfl, rfl, H⟩
    ·omega
    ·rw [Bm.wd_bit, decide_eq_true hj, decide_eq_true (by omega)]
   ·refine k_seq ?_
    refine k_sg ?_
    refine s_run rfl rfl (rmi rfl) ?_
    refine s_run rfl rfl (r_eqlT rfl rfl (by omega)) ?_
    refine k_nc ?_
    refine k_t rfl ?_
    refine k_skip ?_
    refine c_norm ?_
    refine k_b ?_
    refine k_sg ?_
    refine s_run rfl rfl (rmi rfl) ?_
    refine s_run rfl rfl (r_add rfl rfl (wI (by omega))) ?_
    refine s_run rfl rfl (rai rfl) ?_
    refine k_nc ?_
    refine k_seq ?_
    refine k_sg ?_
    refine s_run rfl rfl (rmi rfl) ?_
    refine s_run rfl rfl (rmp rfl) ?_
    refine s_run rfl rfl (r_nc rfl) ?_
    refine s_run rfl rfl (r_fa0 rfl fo98_0) ?_
    refine s_run rfl rfl (r_lo (HR.same H.only) 0 rfl rfl rfl ag37) ?_
    refine s_run rfl rfl (r_len rfl Try.underlying37) ?_
    refine s_run rfl rfl (r_geqT rfl rfl (by omega)) ?_
    refine k_nc ?_
    refine k_t rfl ?_
    refine k_sg ?_
    refine s_run rfl rfl (rai rfl) ?_
    refine s_run rfl rfl (rab rfl) ?_
    refine k_nc ?_
    refine k_ret ?_
    refine c_ret ?_
    refine b_ret ?_
    refine c_ret ?_
    refine b_ret ?_
    refine c_ret ?_
    refine fin2r (v := .int _ _) (v2 := .bool _) rfl rfl rfl ?_
    exact ⟨⟨0, false, rfl, .inl ⟨rfl, rfl, fun j hj => by
     rcases Nat.lt_or_ge j (64 * (i + 1)) with h | h
     ·exact hz2 j hj h
     ·exact Bm.at_out (by unfold Bm.nw at *; omega)⟩⟩, H.only⟩
  ·obtain ⟨j, hj, hlow, hnx⟩ := Bm.next_here l a i X hb hX h0 hz
   have hL := fun w => lowest_any (X : Int) w (by omega) (by omega)
   rw [hlow] at hL
   refine k_seq ?_
   refine k_sg ?_
   refine s_run rfl rfl (rmi rfl) ?_
   refine s_run rfl rfl (r_eqlF rfl rfl (by omega)) ?_
   refine k_nc ?_
   refine k_f rfl ?_
   refine k_exit ?_
   refine c_exit ?_
   refine c_exit ?_
   refine b_hit ?_
   refine c_norm ?_
   refine k_sg ?_
   refine s_run rfl rfl (rmi rfl) ?_
   refine s_run rfl rfl (r_mul rfl rfl (wI (by omega))) ?_
   refine s_run rfl rfl (rmi rfl) ?_
   refine s_call rfl (hL _) (ca77 rfl) ?_
   rintro e W1 ⟨rfl, rfl⟩
   refine ⟨_, rfl, ?_⟩
   skip
   refine s_run rfl rfl (r_add (c := ((64 * i + j : Nat) : Int)) rfl rfl (by rw [wI (by omega)]; omega)) ?_
   refine s_run rfl rfl (rai rfl) ?_
   refine s_run rfl rfl (rab rfl) ?_
   refine k_nc ?_
   refine k_ret ?_
   refine fin2r (v := .int _ _) (v2 := .bool _) rfl rfl rfl ?_
   exact ⟨⟨_, true, rfl, hnx⟩, H.only⟩
 ·refine k_in (N := 56) Try.func40 rfl rfl rfl ?_
  refine k_sg ?_
  refine s_run rfl rfl (rai rfl) ?_
  refine s_run rfl rfl (rab rfl) ?_
  refine k_nc ?_
  refine k_sg ?_
  refine s_run rfl rfl (rmi rfl) ?_
  refine s_run rfl rfl (r_max (c := (a : Int)) rfl rfl hmax) ?_
  refine s_run rfl rfl (rai rfl) ?_
  refine k_nc ?_
  refine k_seq ?_
  refine k_sg ?_
  refine s_run rfl rfl (rmi rfl) ?_
  refine s_run rfl rfl (rmp rfl) ?_
  refine s_run rfl rfl (r_nc rfl) ?_
  refine s_run rfl rfl (r_fa0 rfl fo98_1) ?_
  refine s_run rfl rfl (r_lo (HR.same H.only) 0 rfl rfl rfl ag3) ?_
  refine s_run rfl rfl (r_geqT rfl rfl (by omega)) ?_
  refine k_nc ?_
  refine k_t rfl ?_
  refine k_sg ?_
  refine s_run rfl rfl (rai rfl) ?_
  refine s_run rfl rfl (rab rfl) ?_
  refine k_nc ?_
  refine k_ret ?_
  refine c_ret ?_
  refine fin2r (v := .int _ _) (v2 := .bool _) rfl rfl rfl ?_
  exact ⟨⟨0, false, rfl, .inl ⟨rfl, rfl, fun j hj => Bm.at_out (by omega)⟩⟩, H.only⟩
end
end Go.Proofs.Ytdgmlfpikgjnlaa
end

section
namespace Go.Proofs.Ytdgmlfpikgjnlaa
open Go.RowKit
set_option maxRecDepth 100000
theorem bAll (p : Nat) (w : World) : Calls Try.prog 43 [pt p].toArray w fun e w' => ∃ q, e = .returned (.func (.func 78) #[] [pt q].toArray) ∧ Heap w [] [blk q [pt p] 59] w' := by
 have H := Heap.nil w
 refine k_in (N := 4) Try.func43 rfl rfl rfl ?_
 refine k_sg ?_
 refine s_box1 H rfl rfl rfl ?_
 intro p1 _ H'; clear H; have H := H'; clear H'
 refine s_run rfl rfl (r_as (v := .nilFunc) rfl) ?_
 refine k_nc ?_
 refine k_sg ?_
 refine s_run rfl rfl (r_mkf rfl) ?_
 refine s_run rfl rfl (r_as (v := .func _ _ _) rfl) ?_
 refine k_nc ?_
 refine k_ret ?_
 refine fin1r (v := .func _ _ _) rfl rfl ?_
 exact ⟨_, rfl, H⟩
def itE (q p b : Nat) (A : Option Addr) (c : Nat) (l : List Bool) : List Ent := [blk q [pt p] 59, grp (setE p b A c l)]
theorem itE_cel (q p b : Nat) (A : Option Addr) (c : Nat) (l : List Bool) : ∀ E ∈ itE q p b A c l, Cel E := cl_cons (cl_blk _ _ _) (cl_cons (cl_grp (setE_cel _ _ _ _ _)) cl_nil)
theorem bSeq {q p b : Nat} {A : Option Addr} {c : Nat} {l : List Bool} (hk : SetOk b A c l) (W : World) (hE : Ents (itE q p b A c l) W) :
  SeqStopsK Fence.wide 4 Try.prog 78 [pt q].toArray (fun x : Int => #[.int .i64 x]) (Kp (ids (itE q p b A c l))) (fun xs => xs = Bm.elems l) (fun pre => pre <+: Bm.elems l) (Bm.elems l).length W := by
 intro y J Jx W1 hB hJ hJx hY hJ0
 refine (callsIn_wide (n := 4)).2 ?_
 have hE1 : Ents (itE q p b A c l) W1 := ((Heap.start hE).same (Only.of_below hB [])).ents
 clear hE hB
 have hlen := hk.len
 have H := Heap.start hE1
 clear hE1
 rw [seq_args]
 have hN := fun (W : World) (H : Heap W1 (ids (itE q p b A c l)) (itE q p b A c l) W) => bNext hk W (H.grp_ents 1 rfl) 0
 refine k_in (N := 22) Try.func78 rfl rfl rfl ?_
 refine k_sg ?_
 refine s_run rfl rfl (r_lo H 0 rfl rfl rfl ag59) ?_
 refine s_call rfl (hN _ H) (ca40 rfl) ?_
 rintro e W1 ⟨⟨r, ok, rfl, hnx⟩, HO⟩
 refine ⟨_, rfl, ?_⟩
 have H := H.same HO; replace hJ0 := abide hJ hJ0 HO; clear HO
 refine s_run rfl rfl (rmt rfl) ?_
 refine s_run rfl rfl (r_ext (v := .int _ _) rfl rfl) ?_
 refine s_run rfl rfl (r_ext (v := .bool _) rfl rfl) ?_
 refine s_run rfl rfl (rai rfl) ?_
 refine s_run rfl rfl (rab rfl) ?_
 refine k_nc ?_
 refine k_b ?_
 have hH := H.ents
 clear H hN
 refine k_loop (fun z f W => ∃ (k : Nat) (r : Int) (ok : Bool), k ≤ l.length ∧ z = l.length - k ∧ Bm.IsNext l k r ok ∧ f 0 = .func (.yield y) #[] #[] ∧ f 1 = pt q ∧ f 3 = .int .i64 r ∧ f 4 = .bool ok ∧ J (Bm.upto l k) W ∧ Ents (itE q p b A c l) W) l.length ⟨0, r, ok, Nat.zero_le _, rfl, hnx, rfl, rfl, rfl, rfl, hJ0, hH⟩ ?_
 clear hJ0 hH hnx
 rintro z f W ⟨k, r, ok, hkl, rfl, hnx, f0, f1, f3, f4, hJ0, hE⟩
 obtain ⟨f, rfl⟩ := live4 f0 f1 f3 f4
 clear f0 f1 f3 f4
 have H := Heap.start hE
 cases ok with
 | true =>
  obtain ⟨j, rfl, hkj, hjl, hup⟩ := Bm.upto_next l k _ hnx
  have hpre := Bm.upto_pre_all l (j + 1)
  have hpl := hpre.length_le
  rw [hup, List.length_append, List.length_singleton] at hpl
  refine k_seq ?_
  refine k_sg ?_
  refine s_run rfl rfl (rmb rfl) ?_
  refine k_nc ?_
  refine k_t rfl ?_
  refine k_skip ?_
  refine c_norm ?_
  refine k_seq ?_
  refine k_b ?_
  refine k_seq ?_
  refine k_rgY (by kernel_rfl) ?_
  refine y_run rfl rfl (r_mv (v := .func _ _ _) rfl) ?_
  refine y_run rfl rfl (rmi rfl) ?_
  refine y_yield rfl rfl rfl (hY _ (j : Int) _ hJ0 (by omega)) ?_
  rintro e W2 (⟨rfl, hJ1, hk1⟩ | ⟨rfl, hJ1⟩)
  ·refine ⟨_, rfl, ?_⟩
   have hE2 := hk1.ents H.ents
   have H := Heap.start hE2
   have hN := fun (W : World) (H : Heap W2 (ids (itE q p b A c l)) (itE q p b A c l) W) => bNext hk W (H.grp_ents 1 rfl) ((j : Int) + 1)
   rw [show ((j : Int) + 1).toNat = j + 1 by omega] at hN
   rw [← hup] at hJ1
   refine y_run rfl rfl (r_notT rfl) ?_
   refine y_nil ?_
   refine c_norm ?_
   refine k_f rfl ?_
   refine k_skip ?_
   refine b_norm ?_
   refine c_norm ?_
   refine k_rg ?_
   refine s_run rfl rfl (r_lo H 0 rfl rfl rfl ag59) ?_
   refine s_run rfl rfl (rmi rfl) ?_
   refine s_run rfl rfl (r_add rfl rfl (wI (by omega))) ?_
   refine s_call rfl (hN _ H) (ca40 rfl) ?_
   rintro e W1 ⟨⟨r, ok, rfl, hnx⟩, HO⟩
   refine ⟨_, rfl, ?_⟩
   have H := H.same HO; replace hJ1 := abide hJ hJ1 HO; clear HO
   refine s_run rfl rfl (rmt rfl) ?_
   refine s_run rfl rfl (r_ext (v := .int _ _) rfl rfl) ?_
   refine s_run rfl rfl (r_ext (v := .bool _) rfl rfl) ?_
   refine s_run rfl rfl (rai rfl) ?_
   refine s_run rfl rfl (rab rfl) ?_
   refine k_nil ?_
   refine c_round ?_
   exact ⟨_, _, by omega, rfl, j + 1, r, ok, by omega, rfl, hnx, rfl, rfl, rfl, rfl, hJ1, H.ents⟩
  ·refine ⟨_, rfl, ?_⟩
   refine y_run rfl rfl (r_notF rfl) ?_
   refine y_nil ?_
   refine c_norm ?_
   refine k_t rfl ?_
   refine k_ret ?_
   refine b_ret ?_
   refine c_ret ?_
   refine c_ret ?_
   refine b_ret ?_
   refine fin0r  rfl ?_
   exact ⟨⟨_, rfl⟩, .inr ⟨_, by rw [← hup]; exact hpre, hJ1⟩⟩
 | false =>
  have hz : ∀ j, k ≤ j → Bm.at_ l j = false := by
   rcases hnx with ⟨_, _, h⟩ | ⟨h, _⟩
   ·exact h
   ·cases h
  rw [Bm.upto_none l k hz] at hJ0
  refine k_seq ?_
  refine k_sg ?_
  refine s_run rfl rfl (rmb rfl) ?_
  refine k_nc ?_
  refine k_f rfl ?_
  refine k_exit ?_
  refine c_exit ?_
  refine c_exit ?_
  refine b_hit ?_
  refine fin0  rfl ?_
  exact ⟨⟨_, rfl⟩, .inl ⟨_, rfl, hJ0⟩⟩
end Go.Proofs.Ytdgmlfpikgjnlaa
end

section
namespace Go.Proofs.Ytdgmlfpikgjnlaa
open Go.RowKit
set_option maxRecDepth 100000
section
variable {p b : Nat} {A : Option Addr} {c : Nat} {l : List Bool} (hk : SetOk b A c l) (w : World) (hE : Ents (setE p b A c l) w)
include hE hk
theorem bList : Calls Try.prog 74 [pt p].toArray w fun e w' => ∃ B d, e = .returned (.slice B (Bm.elems l).length d) ∧ Heap w [] [ownN 1 (.slice B (Bm.elems l).length d) (Bm.elems l).length ((Bm.elems l).map (Value.int .i64)) 3] w' := by
 have H := Heap.nil w
 have hlen := hk.len
 have hel := Bm.elems_len l
 refine k_inM (N := 13) Try.func74 rfl rfl rfl ?_
 refine k_sg ?_
 refine s_run rfl rfl (ras rfl) ?_
 refine k_nc ?_
 refine k_sg ?_
 refine s_al1 H rfl inf22 rfl ?_
 intro p3 _ H'; clear H; have H := H'; clear H'
 refine k_nc ?_
 refine k_seq ?_
 refine k_sg ?_
 refine s_run rfl rfl (rmp rfl) ?_
 refine s_call rfl (bAll p _) (ca43 rfl) ?_
 rintro e W1 ⟨q, rfl, H'⟩
 refine ⟨_, rfl, ?_⟩
 have H := H.more H'; clear H'
 refine k_nc ?_
 refine k_b ?_
 replace H := H.own_nil 1 3
 have hO := H.only
 have H2 := heap_none (grp_start hE).ents H
 replace H2 : Heap w _ ([blk p3 [.slice none 0 0] 22, ownN 1 (.slice none 0 0) 0 (([] : List Int).map (Value.int .i64)) 3] ++ itE q p b A c l) _ := H2.order [2, 0, 1, 3] rfl rfl
 have HK : Ents (itE q p b A c l) _ := (H2.order [2, 3, 0, 1] rfl rfl : Heap w _ (itE q p b A c l ++ _) _).part
 refine k_rf (N := (Bm.elems l).length) [blk p3 [.slice none 0 0] 22, ownN 1 (.slice none 0 0) 0 (([] : List Int).map (Value.int .i64)) 3] (itE q p b A c l) H2 (itE_cel _ _ _ _ _ _) rfl Try.func78 (by kernel_rfl) (by kernel_rfl)
  (bSeq hk _ HK) (fun _ => rfl) (by kernel_rfl)
  (fun pre L => ∃ B d, L = [blk p3 [.slice B pre.length d] 22, ownN 1 (.slice B pre.length d) pre.length (pre.map (Value.int .i64)) 3])
  (fun q pre L => False)
  (by rintro pre L ⟨_, _, rfl⟩; exact cl_cons (cl_blk _ _ _) (cl_cons (cl_own _ _ _ _ _) cl_nil)) (by rintro q pre L ⟨⟩) ⟨none, 0, rfl⟩ (fun x => [(7, .int .i64 x)]) (fun x => [(4, .int .i64 x)]) (fun _ => by simp) ?assign ?body ?done ?stop
 case assign =>
  intro x W
  refine k_rg ?_
  refine s_run rfl rfl (rai rfl) ?_
  refine k_nil ?_
  exact asg_end rfl
 case body =>
  rintro pre x L W ⟨B, d, rfl⟩ hlen HO H
  clear HO H2
  refine k_b ?_
  refine k_rg ?_
  refine s_run rfl rfl (r_lo H 0 rfl rfl rfl ag22) ?_
  refine s_run rfl rfl (rmi rfl) ?_
  refine s_app1 (enc := (Value.int .i64)) H 1 rfl rfl rfl rfl rfl rfl rfl (by omega) Try.underlying22 inf3 rfl ?_
  intro _ An cn _ H'; simp only [List.set_cons_zero, List.set_cons_succ, List.take_succ_cons, List.take_zero, List.drop_succ_cons, List.drop_zero, List.cons_append, List.nil_append, List.append_nil, List.length_cons, List.length_nil, Nat.reduceAdd] at H'; clear H; have H := H'; clear H'
  refine s_st (u := .slice _ _ _) H 0 rfl rfl rfl rfl rfl rfl sz22 ?_
  clear H; intro _ H; simp only [jA, jB, jC, jD, jE, jF, jG, jH, jI, jJ, jK, Nat.reduceAdd] at H
  refine k_nil ?_
  refine b_norm ?_
  refine rq_go ?_
  refine ⟨_, ⟨An, cn, rfl⟩, ?_⟩
  rw [List.length_append]; exact H
 case done =>
  rintro D xs L W rfl ⟨B, d, rfl⟩ H hK
  clear H2
  replace H : Heap w [] _ W := Heap.calm (L := [dfd D, blk p3 [.slice B (Bm.elems l).length d] 22, ownN 1 (.slice B (Bm.elems l).length d) (Bm.elems l).length ((Bm.elems l).map (Value.int .i64)) 3]) (M := itE q p b A c l) H hO hK (fun i hi => by
   have : i ∈ ids (itE q p b A c l) := by unfold itE; rw [ids_cons]; exact List.mem_append_right _ hi
   exact .inr ⟨this, this⟩)
  refine b_norm ?_
  refine c_norm ?_
  refine k_sg ?_
  refine s_run rfl rfl (r_lo H 1 rfl rfl rfl ag22) ?_
  refine s_run rfl rfl (ras rfl) ?_
  refine k_nc ?_
  refine k_ret ?_
  refine fin_r ?_
  refine fin_D H 0 rfl ?_
  intro _ H'; simp only [List.eraseIdx_cons_zero, List.eraseIdx_cons_succ] at H'; clear H; have H := H'; clear H'
  refine fm1 rfl (rv_t (v := .slice _ _ _) rfl) ?_
  refine ⟨_, _, rfl, H.drop⟩
 case stop =>
  rintro D q pre L W hS ⟨⟩ H hK
end
section
variable {p b : Nat} {A : Option Addr} {c : Nat} {l : List Bool} (hk : SetOk b A c l) {pB bB : Nat} {AB : Option Addr} {cB : Nat} {lB : List Bool} (hkB : SetOk bB AB cB lB) (w : World) (hE : Ents [grp (setE p b A c l), grp (setE pB bB AB cB lB)] w)
include hE hk hkB
/-- s.Join(other) -/
theorem bJoin : Calls Try.prog 46 [pt p, pt pB].toArray w fun e w' => e = .returned (.tuple #[]) ∧ Heap w (ids (setE p b A c l)) [grp (setE p b A c (Bm.puts l (Bm.elems lB)))] w' := by
 have H := Heap.nil w
 refine k_inM (N := 11) Try.func46 rfl rfl rfl ?_
 refine k_sg ?_
 refine s_box1 H rfl rfl rfl ?_
 intro p2 _ H'; clear H; have H := H'; clear H'
 refine k_nc ?_
 refine k_sg ?_
 refine s_run rfl rfl (rmp rfl) ?_
 refine s_call rfl (bAll pB _) (ca43 rfl) ?_
 rintro e W1 ⟨q, rfl, H'⟩
 refine ⟨_, rfl, ?_⟩
 have H := H.more H'; clear H'
 refine k_nc ?_
 refine k_b ?_
 have hO := H.only
 have H2 := heap_none hE H
 replace H2 : Heap w _ ([blk p2 [pt p] 59, grp (setE p b A c l)] ++ itE q pB bB AB cB lB) _ := H2.order [1, 2, 0, 3] rfl rfl
 have HK : Ents (itE q pB bB AB cB lB) _ := (H2.order [2, 3, 0, 1] rfl rfl : Heap w _ (itE q pB bB AB cB lB ++ _) _).part
 refine k_rf (N := (Bm.elems lB).length) [blk p2 [pt p] 59, grp (setE p b A c l)] (itE q pB bB AB cB lB) H2 (itE_cel _ _ _ _ _ _) rfl Try.func78 (by kernel_rfl) (by kernel_rfl)
  (bSeq hkB _ HK) (fun _ => rfl) (by kernel_rfl)
  (fun pre L => L = [blk p2 [pt p] 59, grp (setE p b A c (Bm.puts l pre))])
  (fun q pre L => False)
  (by rintro pre L rfl; exact cl_cons (cl_blk _ _ _) (cl_cons (cl_grp (setE_cel _ _ _ _ _)) cl_nil)) (by rintro q pre L ⟨⟩) rfl (fun x => [(7, .int .i64 x)]) (fun x => [(4, .int .i64 x)]) (fun _ => by simp) ?assign ?body ?done ?stop
 case assign =>
  intro x W
  refine k_rg ?_
  refine s_run rfl rfl (rai rfl) ?_
  refine k_nil ?_
  exact asg_end rfl
 case body =>
  rintro pre x L W rfl hlen HO H
  clear HO H2
  have hkp : SetOk b A c (Bm.puts l pre) := ⟨by rw [Bm.puts_nw]; exact hk.row, by rw [Bm.puts_len]; exact hk.len⟩
  refine k_b ?_
  refine k_rg ?_
  refine s_run rfl rfl (r_lo H 0 rfl rfl rfl ag59) ?_
  refine s_run rfl rfl (rmi rfl) ?_
  refine s_call rfl (bAdd hkp _ (H.grp_ents 1 rfl) x) (ca67 rfl) ?_
  rintro e W1 ⟨rfl, H'⟩
  refine ⟨_, rfl, ?_⟩
  have H := H.grp_at 1 rfl H'; clear H'
  refine k_nil ?_
  refine b_norm ?_
  refine rq_go ?_
  exact ⟨_, by rw [Bm.puts_snoc]; rfl, H⟩
 case done =>
  rintro D xs L W rfl rfl H hK
  clear H2
  replace H : Heap w (ids (setE p b A c l)) _ W := Heap.calm (L := [dfd D, blk p2 [pt p] 59, grp (setE p b A c (Bm.puts l (Bm.elems lB)))]) (M := itE q pB bB AB cB lB) H (hO.mono (by simp)) hK (fun i hi => by
   rw [ids_cons] at hi
   rcases List.mem_append.1 hi with h | h
   ·exact .inl h
   ·have : i ∈ ids (itE q pB bB AB cB lB) := by unfold itE; rw [ids_cons]; exact List.mem_append_right _ h
    exact .inr ⟨this, this⟩)
  refine b_norm ?_
  refine fin_n ?_
  refine fin_D H 0 rfl ?_
  intro _ H'; simp only [List.eraseIdx_cons_zero, List.eraseIdx_cons_succ] at H'; clear H; have H := H'; clear H'
  refine fm0 rfl  ?_
  exact ⟨rfl, H.drop⟩
 case stop =>
  rintro D q pre L W hS ⟨⟩ H hK
/-- s.Within(other) -/
theorem bWithin : Calls Try.prog 44 [pt p, pt pB].toArray w fun e w' => e = .returned (.bool (decide (∀ x ∈ Bm.elems l, Bm.has lB x = true))) ∧ Only [] w w' := by
 have H := Heap.nil w
 refine k_inM (N := 13) Try.func44 rfl rfl rfl ?_
 refine k_sg ?_
 refine s_box1 H rfl rfl rfl ?_
 intro p3 _ H'; clear H; have H := H'; clear H'
 refine s_al1 H rfl inf4 rfl ?_
 intro p4 _ H'; clear H; have H := H'; clear H'
 refine k_nc ?_
 refine k_seq ?_
 refine k_sg ?_
 refine s_run rfl rfl (rmp rfl) ?_
 refine s_call rfl (bAll p _) (ca43 rfl) ?_
 rintro e W1 ⟨q, rfl, H'⟩
 refine ⟨_, rfl, ?_⟩
 have H := H.more H'; clear H'
 refine k_nc ?_
 refine k_b ?_
 have hO := H.only
 have H2 := heap_none hE H
 replace H2 : Heap w _ ([blk p4 [.bool false] 4, blk p3 [pt pB] 59] ++ (itE q p b A c l ++ [grp (setE pB bB AB cB lB)])) _ := H2.order [1, 2, 0, 3, 4] rfl rfl
 have HK : Ents (itE q p b A c l) _ := (H2.order [2, 3, 0, 1, 4] rfl rfl : Heap w _ (itE q p b A c l ++ _) _).part
 have hF : ∀ i ∈ ids [grp (setE p b A c l), grp (setE pB bB AB cB lB)], i ∈ ids (itE q p b A c l ++ [grp (setE pB bB AB cB lB)]) := fun i hi => by
  rw [ids_cons] at hi
  rw [ids_append]
  rcases List.mem_append.1 hi with h | h
  ·exact List.mem_append_left _ (by unfold itE; rw [ids_cons]; exact List.mem_append_right _ (by rw [ids_cons]; exact List.mem_append_left _ h))
  ·exact List.mem_append_right _ h
 refine k_rf (N := (Bm.elems l).length) [blk p4 [.bool false] 4, blk p3 [pt pB] 59] (itE q p b A c l ++ [grp (setE pB bB AB cB lB)]) H2 (fun E hE => by
   rcases List.mem_append.1 hE with h | h
   ·exact itE_cel _ _ _ _ _ _ E h
   ·rw [List.mem_singleton.1 h]; exact cl_grp (setE_cel _ _ _ _ _)) rfl Try.func78 (by kernel_rfl) (by kernel_rfl)
  (seq_more (bSeq hk _ HK) (fun i hi => by rw [ids_append]; exact List.mem_append_left _ hi)) (fun _ => rfl) (by kernel_rfl)
  (fun pre L => L = [blk p4 [.bool false] 4, blk p3 [pt pB] 59] ∧ ∀ x ∈ pre, Bm.has lB x = true)
  (fun q pre L => L = [blk p4 [.bool false] 4, blk p3 [pt pB] 59] ∧ q = .ret ∧ ∃ x ∈ pre, Bm.has lB x = false)
  (by rintro pre L ⟨rfl, _⟩; exact cl_cons (cl_blk _ _ _) (cl_cons (cl_blk _ _ _) cl_nil)) (by rintro q pre L ⟨rfl, _⟩; exact cl_cons (cl_blk _ _ _) (cl_cons (cl_blk _ _ _) cl_nil)) ⟨rfl, by simp⟩ (fun x => [(8, .int .i64 x)]) (fun x => [(5, .int .i64 x)]) (fun _ => by simp) ?assign ?body ?done ?stop
 case assign =>
  intro x W
  refine k_rg ?_
  refine s_run rfl rfl (rai rfl) ?_
  refine k_nil ?_
  exact asg_end rfl
 case body =>
  rintro pre x L W ⟨rfl, hp⟩ hlen HO H
  clear H2
  have hH := bHas hkB W (HO.grp_ents 4 rfl) x
  clear HO
  cases hat : Bm.has lB x with
  | true =>
   rw [show (decide (0 ≤ x) && Bm.at_ lB x.toNat) = Bm.has lB x from rfl, hat] at hH
   refine k_b ?_
   refine k_sg ?_
   refine s_run rfl rfl (r_lo H 1 rfl rfl rfl ag59) ?_
   refine s_run rfl rfl (rmi rfl) ?_
   refine s_call rfl (hH) (ca38 rfl) ?_
   rintro e W1 ⟨rfl, H'⟩
   refine ⟨_, rfl, ?_⟩
   have H := H.same H'; clear H'
   refine s_run rfl rfl (r_notT rfl) ?_
   refine k_nc ?_
   refine k_f rfl ?_
   refine k_skip ?_
   refine b_norm ?_
   refine rq_go ?_
   refine ⟨_, ⟨rfl, fun y hy => ?_⟩, H⟩
   rcases List.mem_append.1 hy with h | h
   ·exact hp y h
   ·rw [List.mem_singleton.1 h]; exact hat
  | false =>
   rw [show (decide (0 ≤ x) && Bm.at_ lB x.toNat) = Bm.has lB x from rfl, hat] at hH
   refine k_b ?_
   refine k_sg ?_
   refine s_run rfl rfl (r_lo H 1 rfl rfl rfl ag59) ?_
   refine s_run rfl rfl (rmi rfl) ?_
   refine s_call rfl (hH) (ca38 rfl) ?_
   rintro e W1 ⟨rfl, H'⟩
   refine ⟨_, rfl, ?_⟩
   have H := H.same H'; clear H'
   refine s_run rfl rfl (r_notF rfl) ?_
   refine k_nc ?_
   refine k_t rfl ?_
   refine k_sg ?_
   refine s_st (u := .bool _) H 0 rfl rfl rfl rfl rfl rfl sz4 ?_
   clear H; intro _ H; simp only [jA, jB, jC, jD, jE, jF, jG, jH, jI, jJ, jK, Nat.reduceAdd] at H
   refine k_nc ?_
   refine k_ret ?_
   refine b_ret ?_
   refine rq_ret ?_
   exact ⟨_, ⟨rfl, rfl, x, by simp, hat⟩, H⟩
 case done =>
  rintro D xs L W rfl ⟨rfl, hp⟩ H hK
  clear H2
  replace H : Heap w [] _ W := Heap.calm (L := [dfd D, blk p4 [.bool false] 4, blk p3 [pt pB] 59]) H hO hK (fun i hi => .inr ⟨hF i hi, hF i hi⟩)
  rw [decide_eq_true hp]
  refine b_norm ?_
  refine c_norm ?_
  refine k_sg ?_
  refine s_st (u := .bool _) H 1 rfl rfl rfl rfl rfl rfl sz4 ?_
  clear H; intro _ H; simp only [jA, jB, jC, jD, jE, jF, jG, jH, jI, jJ, jK, Nat.reduceAdd] at H
  refine k_nc ?_
  refine k_ret ?_
  refine fin_r ?_
  refine fin_D H 0 rfl ?_
  intro _ H'; simp only [List.eraseIdx_cons_zero, List.eraseIdx_cons_succ] at H'; clear H; have H := H'; clear H'
  refine fm1 rfl (rv_c H 0 rfl rfl ag4) ?_
  exact ⟨rfl, H.only⟩
 case stop =>
  rintro D q pre L W hS ⟨rfl, rfl, x, hx, hx2⟩ H hK
  clear H2
  replace H : Heap w [] _ W := Heap.calm (L := [dfd D, blk p4 [.bool false] 4, blk p3 [pt pB] 59]) H hO hK (fun i hi => .inr ⟨hF i hi, hF i hi⟩)
  rw [decide_eq_false (fun h => by rw [h x (hS.subset hx)] at hx2; cases hx2)]
  refine k_ret ?_
  refine b_ret ?_
  refine c_ret ?_
  refine fin_r ?_
  refine fin_D H 0 rfl ?_
  intro _ H'; simp only [List.eraseIdx_cons_zero, List.eraseIdx_cons_succ] at H'; clear H; have H := H'; clear H'
  refine fm1 rfl (rv_c H 0 rfl rfl ag4) ?_
  exact ⟨rfl, H.only⟩
theorem bSame : Calls Try.prog 45 [pt p, pt pB].toArray w fun e w' => e = .returned (.bool (decide (Bm.cnt l = Bm.cnt lB) && decide (∀ x ∈ Bm.elems l, Bm.has lB x = true))) ∧ Only [] w w' := by
 have HR := Heap.start hE
 have HA : Heap w _ (setE p b A c l) w := Heap.start (HR.grp_ents 0 rfl)
 have HB : Heap w _ (setE pB bB AB cB lB) w := Heap.start (HR.grp_ents 1 rfl)
 have H := Heap.nil w
 have hW := fun (W : World) (h : Heap w [] [] W) => bWithin hk hkB W (HR.same h.only).ents
 unfold setE at HA HB
 by_cases h : Bm.cnt l = Bm.cnt lB
 ·rw [decide_eq_true h, Bool.true_and]
  cases hd : decide (∀ x ∈ Bm.elems l, Bm.has lB x = true) with
  | true =>
   rw [hd] at hW
   refine k_in (N := 19) Try.func45 rfl rfl rfl ?_
   refine k_sg ?_
   refine s_run rfl rfl (rab rfl) ?_
   refine k_nc ?_
   refine k_seq ?_
   refine k_q mixed (by kernel_rfl) H ?_
   refine q_run rfl rfl (fun _ H => r_mv (v := .pointer _) rfl) ?_
   refine q_run rfl rfl (fun _ H => r_nc rfl) ?_
   refine q_run rfl rfl (fun _ H => r_fa0 rfl fo98_2) ?_
   refine q_run rfl rfl (fun _ H => r_lo (HA.same H.only) 0 rfl rfl rfl ag3) ?_
   refine q_run rfl rfl (fun _ H => r_mv (v := .pointer _) rfl) ?_
   refine q_run rfl rfl (fun _ H => r_nc rfl) ?_
   refine q_run rfl rfl (fun _ H => r_fa0 rfl fo98_2) ?_
   refine q_run rfl rfl (fun _ H => r_lo (HB.same H.only) 0 rfl rfl rfl ag3) ?_
   refine q_run rfl rfl (fun _ H => r_eqlT rfl rfl (by omega)) ?_
   refine q_run rfl rfl (fun _ H => r_mv (v := .bool _) rfl) ?_
   refine q_run rfl (g_on 14 (by kernel_rfl) rfl) (fun _ H => r_mv (v := .pointer _) rfl) ?_
   refine q_run rfl (g_on 14 (by kernel_rfl) rfl) (fun _ H => r_mv (v := .pointer _) rfl) ?_
   refine q_call rfl (g_on 14 (by kernel_rfl) rfl) (fun _ H => hW _ H) (ca44 rfl) ?_
   refine q_run rfl rfl (fun _ H => r_pkT (v := .bool _) rfl rfl) ?_
   refine q_run rfl rfl (fun _ H => r_as (v := .bool _) rfl) ?_
   refine q_nil ?_
   intro _ H'; clear H; have H := H'; clear H'
   refine c_norm ?_
   refine k_ret ?_
   refine fin1r (v := .bool _) rfl rfl ?_
   exact ⟨rfl, H.only⟩
  | false =>
   rw [hd] at hW
   refine k_in (N := 19) Try.func45 rfl rfl rfl ?_
   refine k_sg ?_
   refine s_run rfl rfl (rab rfl) ?_
   refine k_nc ?_
   refine k_seq ?_
   refine k_q mixed (by kernel_rfl) H ?_
   refine q_run rfl rfl (fun _ H => r_mv (v := .pointer _) rfl) ?_
   refine q_run rfl rfl (fun _ H => r_nc rfl) ?_
   refine q_run rfl rfl (fun _ H => r_fa0 rfl fo98_2) ?_
   refine q_run rfl rfl (fun _ H => r_lo (HA.same H.only) 0 rfl rfl rfl ag3) ?_
   refine q_run rfl rfl (fun _ H => r_mv (v := .pointer _) rfl) ?_
   refine q_run rfl rfl (fun _ H => r_nc rfl) ?_
   refine q_run rfl rfl (fun _ H => r_fa0 rfl fo98_2) ?_
   refine q_run rfl rfl (fun _ H => r_lo (HB.same H.only) 0 rfl rfl rfl ag3) ?_
   refine q_run rfl rfl (fun _ H => r_eqlT rfl rfl (by omega)) ?_
   refine q_run rfl rfl (fun _ H => r_mv (v := .bool _) rfl) ?_
   refine q_run rfl (g_on 14 (by kernel_rfl) rfl) (fun _ H => r_mv (v := .pointer _) rfl) ?_
   refine q_run rfl (g_on 14 (by kernel_rfl) rfl) (fun _ H => r_mv (v := .pointer _) rfl) ?_
   refine q_call rfl (g_on 14 (by kernel_rfl) rfl) (fun _ H => hW _ H) (ca44 rfl) ?_
   refine q_run rfl rfl (fun _ H => r_pkT (v := .bool _) rfl rfl) ?_
   refine q_run rfl rfl (fun _ H => r_as (v := .bool _) rfl) ?_
   refine q_nil ?_
   intro _ H'; clear H; have H := H'; clear H'
   refine c_norm ?_
   refine k_ret ?_
   refine fin1r (v := .bool _) rfl rfl ?_
   exact ⟨rfl, H.only⟩
 ·rw [decide_eq_false h, Bool.false_and]
  refine k_in (N := 19) Try.func45 rfl rfl rfl ?_
  refine k_sg ?_
  refine s_run rfl rfl (rab rfl) ?_
  refine k_nc ?_
  refine k_seq ?_
  refine k_q mixed (by kernel_rfl) H ?_
  refine q_run rfl rfl (fun _ H => r_mv (v := .pointer _) rfl) ?_
  refine q_run rfl rfl (fun _ H => r_nc rfl) ?_
  refine q_run rfl rfl (fun _ H => r_fa0 rfl fo98_2) ?_
  refine q_run rfl rfl (fun _ H => r_lo (HA.same H.only) 0 rfl rfl rfl ag3) ?_
  refine q_run rfl rfl (fun _ H => r_mv (v := .pointer _) rfl) ?_
  refine q_run rfl rfl (fun _ H => r_nc rfl) ?_
  refine q_run rfl rfl (fun _ H => r_fa0 rfl fo98_2) ?_
  refine q_run rfl rfl (fun _ H => r_lo (HB.same H.only) 0 rfl rfl rfl ag3) ?_
  refine q_run rfl rfl (fun _ H => r_eqlF rfl rfl (by omega)) ?_
  refine q_run rfl rfl (fun _ H => r_mv (v := .bool _) rfl) ?_
  refine q_off rfl (g_off 14 (by kernel_rfl) rfl rfl) ?_
  refine q_off rfl (g_off 14 (by kernel_rfl) rfl rfl) ?_
  refine q_off rfl (g_off 14 (by kernel_rfl) rfl rfl) ?_
  refine q_run rfl rfl (fun _ H => r_pkF (v := .bool _) rfl rfl) ?_
  refine q_run rfl rfl (fun _ H => r_as (v := .bool _) rfl) ?_
  refine q_nil ?_
  intro _ H'; clear H; have H := H'; clear H'
  refine c_norm ?_
  refine k_ret ?_
  refine fin1r (v := .bool _) rfl rfl ?_
  exact ⟨rfl, H.only⟩
end
end Go.Proofs.Ytdgmlfpikgjnlaa
end

section
namespace Go.Proofs.Ytdgmlfpikgjnlaa
open Go.RowKit
set_option maxRecDepth 100000
section
variable {p b : Nat} {A : Option Addr} {c : Nat} {l : List Bool} (hk : SetOk b A c l) (w : World) (hE : Ents (setE p b A c l) w)
include hE hk
end
/-! the document's rows -/
section
variable {B : Option Addr} {d : Nat} {l : List Bool} (w : World) (hS : Sees Value.bool w [] B l) (hl : l.length ≤ 255)
include hS hl
theorem dHas (x : Int) : Calls Try.prog 39 [.slice B l.length d, .int .i64 x].toArray w fun e w' => e = .returned (.bool (Bm.has l x)) ∧ Only [] w w' := by
 have H := Heap.nil w
 have hl' := hl
 by_cases h0 : 0 ≤ x
 ·obtain ⟨i, rfl⟩ := Int.eq_ofNat_of_zero_le h0
  rw [Bm.has_in]
  by_cases hi : i < l.length
  ·obtain ⟨b, o, rfl, _, hr⟩ := hS (by omega)
   have hc := hr i _ (List.getElem?_eq_getElem hi)
   have he : Bm.at_ l i = l[i] := by simp [Bm.at_, List.getD, hi]
   rw [he]
   refine k_in (N := 19) Try.func39 rfl rfl rfl ?_
   refine k_sg ?_
   refine s_run rfl rfl (rab rfl) ?_
   refine k_nc ?_
   refine k_sg ?_
   refine s_run rfl rfl (rmi rfl) ?_
   refine s_run rfl rfl (r_geqT rfl rfl (by omega)) ?_
   refine s_run rfl rfl (rmb rfl) ?_
   refine s_run rfl (g_on 7 (by kernel_rfl) rfl) (rmi rfl) ?_
   refine s_run rfl (g_on 7 (by kernel_rfl) rfl) (rms rfl) ?_
   refine s_run rfl (g_on 7 (by kernel_rfl) rfl) (r_len rfl Try.underlying60) ?_
   refine s_run rfl (g_on 7 (by kernel_rfl) rfl) (r_lssT rfl rfl (by omega)) ?_
   refine s_run rfl rfl (r_pkT (v := .bool _) rfl rfl) ?_
   refine s_run rfl rfl (rmb rfl) ?_
   refine s_run rfl (g_on 13 (by kernel_rfl) rfl) (rms rfl) ?_
   refine s_run rfl (g_on 13 (by kernel_rfl) rfl) (rmi rfl) ?_
   refine s_run rfl (g_on 13 (by kernel_rfl) rfl) (r_ix1o (i := i) rfl rfl (by omega) (by omega) Try.underlying60 sz4) ?_
   refine s_run rfl (g_on 13 (by kernel_rfl) rfl) (r_lr H rfl hc (by simp) ag4) ?_
   refine s_run rfl rfl (r_pkT (v := .bool _) rfl rfl) ?_
   refine s_run rfl rfl (rab rfl) ?_
   refine k_nc ?_
   refine k_ret ?_
   refine fin1r (v := .bool _) rfl rfl ?_
   exact ⟨rfl, H.only⟩
  ·rw [Bm.at_out (by omega)]
   refine k_in (N := 19) Try.func39 rfl rfl rfl ?_
   refine k_sg ?_
   refine s_run rfl rfl (rab rfl) ?_
   refine k_nc ?_
   refine k_sg ?_
   refine s_run rfl rfl (rmi rfl) ?_
   refine s_run rfl rfl (r_geqT rfl rfl (by omega)) ?_
   refine s_run rfl rfl (rmb rfl) ?_
   refine s_run rfl (g_on 7 (by kernel_rfl) rfl) (rmi rfl) ?_
   refine s_run rfl (g_on 7 (by kernel_rfl) rfl) (rms rfl) ?_
   refine s_run rfl (g_on 7 (by kernel_rfl) rfl) (r_len rfl Try.underlying60) ?_
   refine s_run rfl (g_on 7 (by kernel_rfl) rfl) (r_lssF rfl rfl (by omega)) ?_
   refine s_run rfl rfl (r_pkT (v := .bool _) rfl rfl) ?_
   refine s_run rfl rfl (rmb rfl) ?_
   refine s_off rfl (g_off 13 (by kernel_rfl) rfl rfl) ?_
   refine s_off rfl (g_off 13 (by kernel_rfl) rfl rfl) ?_
   refine s_off rfl (g_off 13 (by kernel_rfl) rfl rfl) ?_
   refine s_off rfl (g_off 13 (by kernel_rfl) rfl rfl) ?_
   refine s_run rfl rfl (r_pkF (v := .bool _) rfl rfl) ?_
   refine s_run rfl rfl (rab rfl) ?_
   refine k_nc ?_
   refine k_ret ?_
   refine fin1r (v := .bool _) rfl rfl ?_
   exact ⟨rfl, H.only⟩
 ·rw [Bm.has_out (by omega)]
  refine k_in (N := 19) Try.func39 rfl rfl rfl ?_
  refine k_sg ?_
  refine s_run rfl rfl (rab rfl) ?_
  refine k_nc ?_
  refine k_sg ?_
  refine s_run rfl rfl (rmi rfl) ?_
  refine s_run rfl rfl (r_geqF rfl rfl (by omega)) ?_
  refine s_run rfl rfl (rmb rfl) ?_
  refine s_off rfl (g_off 7 (by kernel_rfl) rfl rfl) ?_
  refine s_off rfl (g_off 7 (by kernel_rfl) rfl rfl) ?_
  refine s_off rfl (g_off 7 (by kernel_rfl) rfl rfl) ?_
  refine s_off rfl (g_off 7 (by kernel_rfl) rfl rfl) ?_
  refine s_run rfl rfl (r_pkF (v := .bool _) rfl rfl) ?_
  refine s_run rfl rfl (rmb rfl) ?_
  refine s_off rfl (g_off 13 (by kernel_rfl) rfl rfl) ?_
  refine s_off rfl (g_off 13 (by kernel_rfl) rfl rfl) ?_
  refine s_off rfl (g_off 13 (by kernel_rfl) rfl rfl) ?_
  refine s_off rfl (g_off 13 (by kernel_rfl) rfl rfl) ?_
  refine s_run rfl rfl (r_pkF (v := .bool _) rfl rfl) ?_
  refine s_run rfl rfl (rab rfl) ?_
  refine k_nc ?_
  refine k_ret ?_
  refine fin1r (v := .bool _) rfl rfl ?_
  exact ⟨rfl, H.only⟩
theorem dList (x t : Int) : Calls Try.prog 41 [.slice B l.length d, .int .i64 x, .int .i64 t].toArray w fun e w' => ∃ B2 d2, e = .returned (.slice B2 (Bm.list l x t).length d2) ∧ Heap w [] [ownN 1 (.slice B2 (Bm.list l x t).length d2) (Bm.list l x t).length ((Bm.list l x t).map (Value.int .i64)) 3] w' := by
 have H := (Heap.nil w).own_nil 1 3
 refine k_in (N := 34) Try.func41 rfl rfl rfl ?_
 refine k_sg ?_
 refine s_run rfl rfl (ras rfl) ?_
 refine k_nc ?_
 refine k_sg ?_
 refine s_run rfl rfl (ras rfl) ?_
 refine k_nc ?_
 refine k_seq ?_
 refine k_sg ?_
 refine s_run rfl rfl (rai rfl) ?_
 refine k_nc ?_
 refine k_b ?_
 refine k_loop (fun z f W => ∃ (k : Nat) (B2 : Option Addr) (d2 : Nat), k ≤ l.length ∧ z = l.length - k ∧ f 0 = .slice B l.length d ∧ f 1 = .int .i64 x ∧ f 2 = .int .i64 t ∧ f 7 = .slice B2 (Bm.listTo l x t k).length d2 ∧ f 8 = .int .i64 k ∧ Heap w [] [ownN 1 (.slice B2 (Bm.listTo l x t k).length d2) (Bm.listTo l x t k).length ((Bm.listTo l x t k).map (Value.int .i64)) 3] W) l.length ⟨0, none, 0, Nat.zero_le _, rfl, rfl, rfl, rfl, rfl, rfl, H⟩ ?_
 clear H
 rintro z f W ⟨k, B2, d2, hk, rfl, f0, f1, f2, f7, f8, H⟩
 obtain ⟨f, rfl⟩ := live5 f0 f1 f2 f7 f8
 clear f0 f1 f2 f7 f8
 have hll := Bm.listTo_len l x t k
 by_cases hlt : k < l.length
 ·obtain ⟨b, o, rfl, _, hr⟩ := hS (by omega)
  have hc := hr k _ (List.getElem?_eq_getElem hlt)
  have he : Bm.at_ l k = l[k] := by simp [Bm.at_, List.getD, hlt]
  rw [← he] at hc
  have hsu := Bm.listTo_succ l x t k
  generalize Bm.at_ l k = v at *
  by_cases hall : v = true ∧ x ≤ (k : Int) ∧ (k : Int) < t
  ·rw [if_pos hall] at hsu
   obtain ⟨rfl, h1, h2⟩ := hall
   refine k_seq ?_
   refine k_sg ?_
   refine s_run rfl rfl (rmi rfl) ?_
   refine s_run rfl rfl (rms rfl) ?_
   refine s_run rfl rfl (r_len rfl Try.underlying60) ?_
   refine s_run rfl rfl (r_lssT rfl rfl (by omega)) ?_
   refine k_nc ?_
   refine k_t rfl ?_
   refine k_skip ?_
   refine c_norm ?_
   refine k_seq ?_
   refine k_b ?_
   refine k_sg ?_
   refine s_run rfl rfl (rms rfl) ?_
   refine s_run rfl rfl (rmi rfl) ?_
   refine s_run rfl rfl (r_ix1o (i := k) rfl rfl (by omega) (by omega) Try.underlying60 sz4) ?_
   refine s_run rfl rfl (r_lr H rfl hc (by simp) ag4) ?_
   refine s_run rfl rfl (rmb rfl) ?_
   refine s_run rfl (g_on 19 (by kernel_rfl) rfl) (rmi rfl) ?_
   refine s_run rfl (g_on 19 (by kernel_rfl) rfl) (rmi rfl) ?_
   refine s_run rfl (g_on 19 (by kernel_rfl) rfl) (r_geqT rfl rfl (by omega)) ?_
   refine s_run rfl rfl (r_pkT (v := .bool _) rfl rfl) ?_
   refine s_run rfl rfl (rmb rfl) ?_
   refine s_run rfl (g_on 24 (by kernel_rfl) rfl) (rmi rfl) ?_
   refine s_run rfl (g_on 24 (by kernel_rfl) rfl) (rmi rfl) ?_
   refine s_run rfl (g_on 24 (by kernel_rfl) rfl) (r_lssT rfl rfl (by omega)) ?_
   refine s_run rfl rfl (r_pkT (v := .bool _) rfl rfl) ?_
   refine k_nc ?_
   refine k_t rfl ?_
   refine k_rg ?_
   refine s_run rfl rfl (rms rfl) ?_
   refine s_run rfl rfl (rmi rfl) ?_
   refine s_app1 (enc := (Value.int .i64)) H 0 rfl rfl rfl rfl rfl rfl rfl (by omega) Try.underlying22 inf3 rfl ?_
   intro _ An cn _ H'; simp only [List.set_cons_zero, List.set_cons_succ, List.take_succ_cons, List.take_zero, List.drop_succ_cons, List.drop_zero, List.cons_append, List.nil_append, List.append_nil, List.length_cons, List.length_nil, Nat.reduceAdd] at H'; clear H; have H := H'; clear H'
   refine s_run rfl rfl (ras rfl) ?_
   refine k_nil ?_
   refine b_norm ?_
   refine c_norm ?_
   refine k_rg ?_
   refine s_run rfl rfl (rmi rfl) ?_
   refine s_run rfl rfl (r_add rfl rfl (wI (by omega))) ?_
   refine s_run rfl rfl (rai rfl) ?_
   refine k_nil ?_
   refine c_round ?_
   refine ⟨_, _, ?_, rfl, k + 1, An, cn, by omega, rfl, rfl, rfl, rfl, ?_, rfl, ?_⟩
   ·omega
   ·rw [hsu, List.length_append]; rfl
   ·rw [hsu, List.length_append]; exact H
  ·rw [if_neg hall, List.append_nil] at hsu
   have done : ∀ f' : Nat → Value, f' 0 = .slice (some ⟨b, o, none⟩) l.length d → f' 1 = .int .i64 x → f' 2 = .int .i64 t → f' 7 = .slice B2 (Bm.listTo l x t k).length d2 → f' 8 = .int .i64 ((k : Int) + 1) → ∃ m' f'', m' < l.length - k ∧ Fn ⟨34, []⟩ f' = Fn ⟨34, []⟩ f'' ∧ ∃ (k : Nat) (B2 : Option Addr) (d2 : Nat), k ≤ l.length ∧ m' = l.length - k ∧ f'' 0 = .slice (some ⟨b, o, none⟩) l.length d ∧ f'' 1 = .int .i64 x ∧ f'' 2 = .int .i64 t ∧ f'' 7 = .slice B2 (Bm.listTo l x t k).length d2 ∧ f'' 8 = .int .i64 k ∧ Heap w [] [ownN 1 (.slice B2 (Bm.listTo l x t k).length d2) (Bm.listTo l x t k).length ((Bm.listTo l x t k).map (Value.int .i64)) 3] W := by
    intro f' g0 g1 g2 g7 g8
    refine ⟨_, f', ?_, rfl, k + 1, B2, d2, by omega, rfl, g0, g1, g2, by rw [hsu]; exact g7, by rw [g8]; rfl, by rw [hsu]; exact H⟩
    omega
   cases v with
   | false =>
    refine k_seq ?_
    refine k_sg ?_
    refine s_run rfl rfl (rmi rfl) ?_
    refine s_run rfl rfl (rms rfl) ?_
    refine s_run rfl rfl (r_len rfl Try.underlying60) ?_
    refine s_run rfl rfl (r_lssT rfl rfl (by omega)) ?_
    refine k_nc ?_
    refine k_t rfl ?_
    refine k_skip ?_
    refine c_norm ?_
    refine k_seq ?_
    refine k_b ?_
    refine k_sg ?_
    refine s_run rfl rfl (rms rfl) ?_
    refine s_run rfl rfl (rmi rfl) ?_
    refine s_run rfl rfl (r_ix1o (i := k) rfl rfl (by omega) (by omega) Try.underlying60 sz4) ?_
    refine s_run rfl rfl (r_lr H rfl hc (by simp) ag4) ?_
    refine s_run rfl rfl (rmb rfl) ?_
    refine s_off rfl (g_off 19 (by kernel_rfl) rfl rfl) ?_
    refine s_off rfl (g_off 19 (by kernel_rfl) rfl rfl) ?_
    refine s_off rfl (g_off 19 (by kernel_rfl) rfl rfl) ?_
    refine s_run rfl rfl (r_pkF (v := .bool _) rfl rfl) ?_
    refine s_run rfl rfl (rmb rfl) ?_
    refine s_off rfl (g_off 24 (by kernel_rfl) rfl rfl) ?_
    refine s_off rfl (g_off 24 (by kernel_rfl) rfl rfl) ?_
    refine s_off rfl (g_off 24 (by kernel_rfl) rfl rfl) ?_
    refine s_run rfl rfl (r_pkF (v := .bool _) rfl rfl) ?_
    refine k_nc ?_
    refine k_f rfl ?_
    refine k_skip ?_
    refine b_norm ?_
    refine c_norm ?_
    refine k_rg ?_
    refine s_run rfl rfl (rmi rfl) ?_
    refine s_run rfl rfl (r_add rfl rfl (wI (by omega))) ?_
    refine s_run rfl rfl (rai rfl) ?_
    refine k_nil ?_
    refine c_round ?_
    exact done _ rfl rfl rfl rfl rfl
   | true =>
    by_cases h1 : x ≤ (k : Int)
    ·have h2 : ¬ (k : Int) < t := fun h => hall ⟨rfl, h1, h⟩
     refine k_seq ?_
     refine k_sg ?_
     refine s_run rfl rfl (rmi rfl) ?_
     refine s_run rfl rfl (rms rfl) ?_
     refine s_run rfl rfl (r_len rfl Try.underlying60) ?_
     refine s_run rfl rfl (r_lssT rfl rfl (by omega)) ?_
     refine k_nc ?_
     refine k_t rfl ?_
     refine k_skip ?_
     refine c_norm ?_
     refine k_seq ?_
     refine k_b ?_
     refine k_sg ?_
     refine s_run rfl rfl (rms rfl) ?_
     refine s_run rfl rfl (rmi rfl) ?_
     refine s_run rfl rfl (r_ix1o (i := k) rfl rfl (by omega) (by omega) Try.underlying60 sz4) ?_
     refine s_run rfl rfl (r_lr H rfl hc (by simp) ag4) ?_
     refine s_run rfl rfl (rmb rfl) ?_
     refine s_run rfl (g_on 19 (by kernel_rfl) rfl) (rmi rfl) ?_
     refine s_run rfl (g_on 19 (by kernel_rfl) rfl) (rmi rfl) ?_
     refine s_run rfl (g_on 19 (by kernel_rfl) rfl) (r_geqT rfl rfl (by omega)) ?_
     refine s_run rfl rfl (r_pkT (v := .bool _) rfl rfl) ?_
     refine s_run rfl rfl (rmb rfl) ?_
     refine s_run rfl (g_on 24 (by kernel_rfl) rfl) (rmi rfl) ?_
     refine s_run rfl (g_on 24 (by kernel_rfl) rfl) (rmi rfl) ?_
     refine s_run rfl (g_on 24 (by kernel_rfl) rfl) (r_lssF rfl rfl (by omega)) ?_
     refine s_run rfl rfl (r_pkT (v := .bool _) rfl rfl) ?_
     refine k_nc ?_
     refine k_f rfl ?_
     refine k_skip ?_
     refine b_norm ?_
     refine c_norm ?_
     refine k_rg ?_
     refine s_run rfl rfl (rmi rfl) ?_
     refine s_run rfl rfl (r_add rfl rfl (wI (by omega))) ?_
     refine s_run rfl rfl (rai rfl) ?_
     refine k_nil ?_
     refine c_round ?_
     exact done _ rfl rfl rfl rfl rfl
    ·refine k_seq ?_
     refine k_sg ?_
     refine s_run rfl rfl (rmi rfl) ?_
     refine s_run rfl rfl (rms rfl) ?_
     refine s_run rfl rfl (r_len rfl Try.underlying60) ?_
     refine s_run rfl rfl (r_lssT rfl rfl (by omega)) ?_
     refine k_nc ?_
     refine k_t rfl ?_
     refine k_skip ?_
     refine c_norm ?_
     refine k_seq ?_
     refine k_b ?_
     refine k_sg ?_
     refine s_run rfl rfl (rms rfl) ?_
     refine s_run rfl rfl (rmi rfl) ?_
     refine s_run rfl rfl (r_ix1o (i := k) rfl rfl (by omega) (by omega) Try.underlying60 sz4) ?_
     refine s_run rfl rfl (r_lr H rfl hc (by simp) ag4) ?_
     refine s_run rfl rfl (rmb rfl) ?_
     refine s_run rfl (g_on 19 (by kernel_rfl) rfl) (rmi rfl) ?_
     refine s_run rfl (g_on 19 (by kernel_rfl) rfl) (rmi rfl) ?_
     refine s_run rfl (g_on 19 (by kernel_rfl) rfl) (r_geqF rfl rfl (by omega)) ?_
     refine s_run rfl rfl (r_pkT (v := .bool _) rfl rfl) ?_
     refine s_run rfl rfl (rmb rfl) ?_
     refine s_off rfl (g_off 24 (by kernel_rfl) rfl rfl) ?_
     refine s_off rfl (g_off 24 (by kernel_rfl) rfl rfl) ?_
     refine s_off rfl (g_off 24 (by kernel_rfl) rfl rfl) ?_
     refine s_run rfl rfl (r_pkF (v := .bool _) rfl rfl) ?_
     refine k_nc ?_
     refine k_f rfl ?_
     refine k_skip ?_
     refine b_norm ?_
     refine c_norm ?_
     refine k_rg ?_
     refine s_run rfl rfl (rmi rfl) ?_
     refine s_run rfl rfl (r_add rfl rfl (wI (by omega))) ?_
     refine s_run rfl rfl (rai rfl) ?_
     refine k_nil ?_
     refine c_round ?_
     exact done _ rfl rfl rfl rfl rfl
 ·obtain rfl : k = l.length := by omega
  rw [Bm.listTo_big l x t _ (Nat.le_refl _)] at H
  have he := Bm.listTo_big l x t _ (Nat.le_refl _)
  refine k_seq ?_
  refine k_sg ?_
  refine s_run rfl rfl (rmi rfl) ?_
  refine s_run rfl rfl (rms rfl) ?_
  refine s_run rfl rfl (r_len rfl Try.underlying60) ?_
  refine s_run rfl rfl (r_lssF rfl rfl (by omega)) ?_
  refine k_nc ?_
  refine k_f rfl ?_
  refine k_exit ?_
  refine c_exit ?_
  refine c_exit ?_
  refine b_hit ?_
  refine c_norm ?_
  refine k_sg ?_
  refine s_run rfl rfl (rms rfl) ?_
  refine s_run rfl rfl (ras rfl) ?_
  refine k_nc ?_
  refine k_ret ?_
  refine fin1r (v := .slice _ _ _) rfl rfl ?_
  exact ⟨B2, d2, by rw [he], H⟩
/-- a row of truths -/
theorem dSet (x : Int) (v : Bool) : Calls Try.prog 69 [.slice B l.length d, .int .i64 x, .bool v].toArray w fun e w' => ∃ B2 b2 d2, e = .returned (.slice B2 l.length d2) ∧ (l.length ≠ 0 → B2 = some ⟨b2, 0, none⟩) ∧ Heap w [] [vec Value.bool b2 (Bm.put l x v) 4] w' := by
 have H := Heap.nil w
 by_cases hin : 0 ≤ x ∧ x < l.length
 ·obtain ⟨i, rfl⟩ := Int.eq_ofNat_of_zero_le hin.1
  rw [Bm.put_in v (by omega)]
  refine k_in (N := 24) Try.func69 rfl rfl rfl ?_
  refine k_sg ?_
  refine s_run rfl rfl (ras rfl) ?_
  refine k_nc ?_
  refine k_sg ?_
  refine s_bs0 1 (by omega) H rfl Try.underlying60 inf4 ?_
  intro _ _ H'; clear H; have H := H'; clear H'
  refine s_run rfl rfl (rms rfl) ?_
  refine s_apps (enc := Value.bool) (xs := []) H 0 rfl rfl rfl rfl (hS) (rfl) (fun _ => rfl) (by omega) Try.underlying60 inf4 rfl ?_
  intro A1 c1 W1 hA1 H'; simp only [List.set_cons_zero, List.set_cons_succ, List.take_succ_cons, List.take_zero, List.drop_succ_cons, List.drop_zero, List.cons_append, List.nil_append, List.append_nil, List.length_cons, List.length_nil, Nat.reduceAdd] at H'; clear H; have H := H'; clear H'
  refine s_run rfl rfl (ras rfl) ?_
  refine k_nc ?_
  refine k_seq ?_
  refine k_sg ?_
  refine s_run rfl rfl (rmi rfl) ?_
  refine s_run rfl rfl (r_geqT rfl rfl (by omega)) ?_
  refine s_run rfl rfl (rmb rfl) ?_
  refine s_run rfl (g_on 13 (by kernel_rfl) rfl) (rmi rfl) ?_
  refine s_run rfl (g_on 13 (by kernel_rfl) rfl) (rms rfl) ?_
  refine s_run rfl (g_on 13 (by kernel_rfl) rfl) (r_len rfl Try.underlying60) ?_
  refine s_run rfl (g_on 13 (by kernel_rfl) rfl) (r_lssT rfl rfl (by omega)) ?_
  refine s_run rfl rfl (r_pkT (v := .bool _) rfl rfl) ?_
  refine k_nc ?_
  refine k_t rfl ?_
  obtain ⟨b2, rfl⟩ := hA1 (by intro h; cases h)
  rw [Nat.zero_add] at H
  refine k_rg ?_
  refine s_run rfl rfl (rms rfl) ?_
  refine s_run rfl rfl (rmi rfl) ?_
  refine s_run rfl rfl (rmb rfl) ?_
  refine s_run rfl rfl (r_ix1 (i := i) rfl rfl (by omega) (by omega) Try.underlying60 sz4) ?_
  refine s_so H 0 rfl rfl rfl rfl rfl (by omega) rfl sz4 ?_
  clear H; intro _ H; simp only [jA, jB, jC, jD, jE, jF, jG, jH, jI, jJ, jK, Nat.reduceAdd] at H
  refine k_nc ?_
  refine k_sg ?_
  refine s_run rfl rfl (rms rfl) ?_
  refine s_run rfl rfl (ras rfl) ?_
  refine k_nc ?_
  refine k_ret ?_
  refine fin1r (v := .slice _ _ _) rfl rfl ?_
  obtain ⟨b', hb', H⟩ := own_vec0 (enc := Value.bool) H
  exact ⟨_, b', c1, by rw [Nat.zero_add], hb', H⟩
 ·rw [Bm.put_out v hin]
  by_cases h0 : 0 ≤ x
  ·refine k_in (N := 24) Try.func69 rfl rfl rfl ?_
   refine k_sg ?_
   refine s_run rfl rfl (ras rfl) ?_
   refine k_nc ?_
   refine k_sg ?_
   refine s_bs0 1 (by omega) H rfl Try.underlying60 inf4 ?_
   intro _ _ H'; clear H; have H := H'; clear H'
   refine s_run rfl rfl (rms rfl) ?_
   refine s_apps (enc := Value.bool) (xs := []) H 0 rfl rfl rfl rfl (hS) (rfl) (fun _ => rfl) (by omega) Try.underlying60 inf4 rfl ?_
   intro A1 c1 W1 hA1 H'; simp only [List.set_cons_zero, List.set_cons_succ, List.take_succ_cons, List.take_zero, List.drop_succ_cons, List.drop_zero, List.cons_append, List.nil_append, List.append_nil, List.length_cons, List.length_nil, Nat.reduceAdd] at H'; clear H; have H := H'; clear H'
   refine s_run rfl rfl (ras rfl) ?_
   refine k_nc ?_
   refine k_seq ?_
   refine k_sg ?_
   refine s_run rfl rfl (rmi rfl) ?_
   refine s_run rfl rfl (r_geqT rfl rfl (by omega)) ?_
   refine s_run rfl rfl (rmb rfl) ?_
   refine s_run rfl (g_on 13 (by kernel_rfl) rfl) (rmi rfl) ?_
   refine s_run rfl (g_on 13 (by kernel_rfl) rfl) (rms rfl) ?_
   refine s_run rfl (g_on 13 (by kernel_rfl) rfl) (r_len rfl Try.underlying60) ?_
   refine s_run rfl (g_on 13 (by kernel_rfl) rfl) (r_lssF rfl rfl (by omega)) ?_
   refine s_run rfl rfl (r_pkT (v := .bool _) rfl rfl) ?_
   refine k_nc ?_
   refine k_f rfl ?_
   refine k_skip ?_
   refine c_norm ?_
   refine k_sg ?_
   refine s_run rfl rfl (rms rfl) ?_
   refine s_run rfl rfl (ras rfl) ?_
   refine k_nc ?_
   refine k_ret ?_
   refine fin1r (v := .slice _ _ _) rfl rfl ?_
   rw [Nat.zero_add] at H
   obtain ⟨b', hb', H⟩ := own_vec0 (enc := Value.bool) H
   exact ⟨_, b', c1, by rw [Nat.zero_add], hb', H⟩
  ·refine k_in (N := 24) Try.func69 rfl rfl rfl ?_
   refine k_sg ?_
   refine s_run rfl rfl (ras rfl) ?_
   refine k_nc ?_
   refine k_sg ?_
   refine s_bs0 1 (by omega) H rfl Try.underlying60 inf4 ?_
   intro _ _ H'; clear H; have H := H'; clear H'
   refine s_run rfl rfl (rms rfl) ?_
   refine s_apps (enc := Value.bool) (xs := []) H 0 rfl rfl rfl rfl (hS) (rfl) (fun _ => rfl) (by omega) Try.underlying60 inf4 rfl ?_
   intro A1 c1 W1 hA1 H'; simp only [List.set_cons_zero, List.set_cons_succ, List.take_succ_cons, List.take_zero, List.drop_succ_cons, List.drop_zero, List.cons_append, List.nil_append, List.append_nil, List.length_cons, List.length_nil, Nat.reduceAdd] at H'; clear H; have H := H'; clear H'
   refine s_run rfl rfl (ras rfl) ?_
   refine k_nc ?_
   refine k_seq ?_
   refine k_sg ?_
   refine s_run rfl rfl (rmi rfl) ?_
   refine s_run rfl rfl (r_geqF rfl rfl (by omega)) ?_
   refine s_run rfl rfl (rmb rfl) ?_
   refine s_off rfl (g_off 13 (by kernel_rfl) rfl rfl) ?_
   refine s_off rfl (g_off 13 (by kernel_rfl) rfl rfl) ?_
   refine s_off rfl (g_off 13 (by kernel_rfl) rfl rfl) ?_
   refine s_off rfl (g_off 13 (by kernel_rfl) rfl rfl) ?_
   refine s_run rfl rfl (r_pkF (v := .bool _) rfl rfl) ?_
   refine k_nc ?_
   refine k_f rfl ?_
   refine k_skip ?_
   refine c_norm ?_
   refine k_sg ?_
   refine s_run rfl rfl (rms rfl) ?_
   refine s_run rfl rfl (ras rfl) ?_
   refine k_nc ?_
   refine k_ret ?_
   refine fin1r (v := .slice _ _ _) rfl rfl ?_
   rw [Nat.zero_add] at H
   obtain ⟨b', hb', H⟩ := own_vec0 (enc := Value.bool) H
   exact ⟨_, b', c1, by rw [Nat.zero_add], hb', H⟩
end
theorem dNew (n : Nat) (w : World) (hn : n ≤ 255) : Calls Try.prog 68 [.int .i64 n].toArray w fun e w' => ∃ b2, e = .returned (.slice (some ⟨b2, 0, none⟩) n n) ∧ Heap w [] [vec Value.bool b2 (List.replicate n false) 4] w' := by
 have H := Heap.nil w
 refine k_in (N := 6) Try.func68 rfl rfl rfl ?_
 refine k_sg ?_
 refine s_run rfl rfl (ras rfl) ?_
 refine k_nc ?_
 refine k_sg ?_
 refine s_run rfl rfl (rmi rfl) ?_
 refine s_run rfl rfl (r_max (c := (n : Int)) rfl rfl (by split <;> omega)) ?_
 refine s_mk Value.bool false (m := n) H rfl rfl rfl (by omega) (by omega) (by omega) Try.underlying60 inf4 rfl ?_
 intro b _ H'; clear H; have H := H'; clear H'
 refine s_run rfl rfl (ras rfl) ?_
 refine k_nc ?_
 refine k_ret ?_
 refine fin1r (v := .slice _ _ _) rfl rfl ?_
 exact ⟨b, rfl, H⟩
theorem awake13 (w : World) : Calls Try.prog 36 [].toArray w fun e w' => e = .returned (.bool true) ∧ Only [] w w' := by
 have H := Heap.nil w
 obtain ⟨l0, hl0⟩ : ∃ l, List.replicate 100 false = l := ⟨_, rfl⟩
 have e1 : l0.length = 100 := by rw [← hl0]; simp
 have hb0 : ∀ i, Bm.at_ l0 i = false := fun i => by rw [← hl0]; exact Bm.at_new 100 i
 have hN := fun w => bNew 100 w (by omega)
 rw [hl0] at hN
 clear hl0
 obtain ⟨l1, hl1⟩ : ∃ l, Bm.put l0 3 true = l := ⟨_, rfl⟩
 obtain ⟨l2, hl2⟩ : ∃ l, Bm.put l1 70 true = l := ⟨_, rfl⟩
 have e2 : l1.length = 100 := by rw [← hl1, Bm.put_len]; exact e1
 have e3 : l2.length = 100 := by rw [← hl2, Bm.put_len]; exact e2
 have hb2 : ∀ i, Bm.at_ l2 i = decide (i = 3 ∨ i = 70) := by
  intro i
  have h1 := Bm.has_put l1 70 i true (by omega)
  have h2 := Bm.has_put l0 3 i true (by omega)
  rw [hl2] at h1
  rw [hl1] at h2
  rw [Bm.has_in] at h1 h2
  rw [Bm.has_in] at h1 h2
  rw [h1, h2, hb0]
  by_cases g : i = 70
  ·subst g; simp
  ·by_cases g2 : i = 3
   ·subst g2; simp
   ·have : ¬ (70 : Int) = i := by omega
    have : ¬ (3 : Int) = i := by omega
    simp [*]
 have hnx : ∀ r ok, Bm.IsNext l2 (4 : Int).toNat r ok → r = 70 ∧ ok = true := by
  rintro r ok (⟨_, _, h⟩ | ⟨h1, j, h2, h3, h4, h5⟩)
  ·have := h 70 (by decide); rw [hb2] at this; simp at this
  ·rw [hb2] at h4
   simp at h4
   have h3' : 4 ≤ j := h3
   exact ⟨by omega, h1⟩
 have hA1 := fun b A c (hk : SetOk b A c l0) p w hE => bAdd (p := p) hk w hE 3
 rw [hl1] at hA1
 have hA2 := fun b A c (hk : SetOk b A c l1) p w hE => bAdd (p := p) hk w hE 70
 rw [hl2] at hA2
 have k1 : ∀ {b A c}, SetOk b A c l0 → SetOk b A c l1 := fun h => ⟨fun g => h.row (by unfold Bm.nw at *; omega), by omega⟩
 have k2 : ∀ {b A c}, SetOk b A c l1 → SetOk b A c l2 := fun h => ⟨fun g => h.row (by unfold Bm.nw at *; omega), by omega⟩
 refine k_in (N := 21) Try.func36 rfl rfl rfl ?_
 refine k_sg ?_
 refine s_run rfl rfl (rab rfl) ?_
 refine k_nc ?_
 refine k_sg ?_
 refine s_call rfl (hN _) (ca66 rfl) ?_
 rintro e W1 ⟨q, b, A, c, rfl, hk, H'⟩
 refine ⟨_, rfl, ?_⟩
 have H := H.more (A := [grp _]) (grp_heap H'); clear H'
 refine s_run rfl rfl (rap rfl) ?_
 refine k_nc ?_
 refine k_seq ?_
 refine k_sg ?_
 refine s_run rfl rfl (rmp rfl) ?_
 refine s_run rfl rfl (r_ptnilF rfl rfl Try.underlying59) ?_
 refine k_nc ?_
 refine k_f rfl ?_
 refine k_skip ?_
 refine c_norm ?_
 refine k_sg ?_
 refine s_run rfl rfl (rmp rfl) ?_
 refine s_call rfl (hA1 _ _ _ hk q _ (H.grp_ents 0 rfl)) (ca67 rfl) ?_
 rintro e W1 ⟨rfl, H'⟩
 refine ⟨_, rfl, ?_⟩
 have H := H.grp_at 0 rfl H'; clear H'
 refine k_nc ?_
 refine k_sg ?_
 refine s_run rfl rfl (rmp rfl) ?_
 refine s_call rfl (hA2 _ _ _ (k1 hk) q _ (H.grp_ents 0 rfl)) (ca67 rfl) ?_
 rintro e W1 ⟨rfl, H'⟩
 refine ⟨_, rfl, ?_⟩
 have H := H.grp_at 0 rfl H'; clear H'
 refine k_nc ?_
 refine k_sg ?_
 refine s_run rfl rfl (rmp rfl) ?_
 refine s_call rfl (bNext (k2 (k1 hk)) _ (H.grp_ents 0 rfl) 4) (ca40 rfl) ?_
 rintro e W1 ⟨⟨r, ok, rfl, hx⟩, HO⟩
 refine ⟨_, rfl, ?_⟩
 have H := H.same HO; clear HO; obtain ⟨rfl, rfl⟩ := hnx _ _ hx
 refine s_run rfl rfl (rmt rfl) ?_
 refine s_run rfl rfl (r_ext (v := .int _ _) rfl rfl) ?_
 refine s_run rfl rfl (r_ext (v := .bool _) rfl rfl) ?_
 refine s_run rfl rfl (rai rfl) ?_
 refine s_run rfl rfl (rab rfl) ?_
 refine k_nc ?_
 refine k_sg ?_
 refine s_run rfl rfl (rmb rfl) ?_
 refine s_run rfl rfl (rmb rfl) ?_
 refine s_run rfl (g_on 17 (by kernel_rfl) rfl) (rmi rfl) ?_
 refine s_run rfl (g_on 17 (by kernel_rfl) rfl) (r_eqlT rfl rfl (by omega)) ?_
 refine s_run rfl rfl (r_pkT (v := .bool _) rfl rfl) ?_
 refine s_run rfl rfl (rab rfl) ?_
 refine k_nc ?_
 refine k_ret ?_
 refine fin1r (v := .bool _) rfl rfl ?_
 exact ⟨rfl, H.only⟩
end Go.Proofs.Ytdgmlfpikgjnlaa
end

section
namespace Go.Proofs.Ytdgmlfpikgjnlaa
section
open Go.ChangeShapes Go.WideShapes Go.Deep
variable {H : Type} {enc : TypeId × Value → H} {w : World} {base : Nat} {spare : Nat → Bool} {held : Bool}
theorem o_add {b o i : Nat} : (⟨b, o, none⟩ : Addr).add i = ⟨b, o + i, none⟩ := by
 unfold Addr.add; split
 ·subst_vars; rfl
 ·rfl
theorem o_list {α : Type} {Q : Nat → α → Prop} : ∀ n : Nat, (∀ i, i < n → ∃ x, Q i x) → ∃ l : List α, l.length = n ∧ ∀ i x, l[i]? = some x → Q i x
 | 0, _ => ⟨[], rfl, by simp⟩
 | n + 1, h => by
  obtain ⟨l, hl, hq⟩ := o_list n (fun i hi => h i (by omega))
  obtain ⟨x, hx⟩ := h n (by omega)
  refine ⟨l ++ [x], by simp [hl], fun i y hy => ?_⟩
  by_cases hi : i < l.length
  ·rw [List.getElem?_append_left hi] at hy; exact hq i y hy
  ·have hi2 : i < n + 1 := by have := (List.getElem?_eq_some_iff.1 hy).1; simp at this; omega
   obtain rfl : i = n := by omega
   rw [List.getElem?_append_right (by omega)] at hy
   simp [hl] at hy
   subst hy; exact hx
set_option maxRecDepth 100000 in
theorem o_one {t : TypeId} {fs : Array Field} (h : Try.prog.underlying t = some (.struct fs)) (h2 : (match Try.prog.underlying t with | some (.struct fs) => oneCellFields Try.prog fs | _ => false) = true) : oneCellFields Try.prog fs = true := by
 rw [h] at h2; exact h2
end
end Go.Proofs.Ytdgmlfpikgjnlaa
end

section
namespace Go.Proofs.Ytdgmlfpikgjnlaa
open Go.RowKit
structure OpB where
 f0 : Int
 f1 : Int
def OpB.cells (u : OpB) : List Value := [.int .i64 u.f0, .int .i64 u.f1]
structure OpBOk (w : World) (u : OpB) : Prop where
 w0 : (Lit.int .i64 u.f0).wf = true
 w1 : (Lit.int .i64 u.f1).wf = true
def ScriptOpB (w : World) (A : Option Addr) (ops : List OpB) : Prop := (ops.length ≠ 0 → ∃ b o, A = some ⟨b, o, none⟩ ∧ ∀ i op, ops[i]? = some op → Reads (fun v : Value => v) w b (o + i * 2) op.cells) ∧ ∀ op ∈ ops, OpBOk w op
theorem OpBOk.later {w W : World} {u : OpB} (h : OpBOk w u) (hO : Only [] w W) : OpBOk W u := ⟨h.w0, h.w1⟩
theorem ScriptOpB.later {w W : World} {A : Option Addr} {ops : List OpB} (h : ScriptOpB w A ops) (hO : Only [] w W) : ScriptOpB W A ops :=
 ⟨fun h0 => by
  obtain ⟨b, o, e, hr⟩ := h.1 h0
  exact ⟨b, o, e, fun i op hi => (hr i op hi).later hO (by simp)⟩, fun op hop => (h.2 op hop).later hO⟩
section
open Go.ChangeShapes Go.WideShapes Go.Deep
variable {H : Type} {enc : TypeId × Value → H} {w : World} {base : Nat} {spare : Nat → Bool} {held : Bool}
set_option maxRecDepth 100000 in
theorem open_OpB {fuel : Nat} {cs : List Value} {y : DataW H × List MemPlace} (h : DataW.trod enc Try.prog w base spare held fuel 94 cs = some y) : ∃ op : OpB, cs = op.cells ∧ OpBOk w op := by
 obtain ⟨xs, n, _, _, hl, hlen, hg⟩ := DataW.trod_struct Try.underlying94 h
 have hone := o_one Try.underlying94 (by kernel_rfl)
 have hcl : cs.length = 2 := hl.trans (by kernel_rfl)
 replace hlen : xs.length = 2 := hlen
 match cs, hcl, xs, hlen with
 | [c0, c1], _, [y0, y1], _ =>
  obtain ⟨o0, k0⟩ := hone_of hone 0 _ rfl
  obtain ⟨o1, k1⟩ := hone_of hone 1 _ rfl
  have g0 := hg 0 _ rfl
  have g1 := hg 1 _ rfl
  rw [o0, k0] at g0
  rw [o1, k1] at g1
  replace g0 := g0.trans (show _ = some y0 from rfl)
  replace g1 := g1.trans (show _ = some y1 from rfl)
  obtain ⟨z0, e0, _, w0⟩ := DataW.trod_int Try.underlying3 g0
  obtain ⟨z1, e1, _, w1⟩ := DataW.trod_int Try.underlying3 g1
  obtain rfl : c0 = .int .i64 z0 := by simpa using e0
  obtain rfl : c1 = .int .i64 z1 := by simpa using e1
  exact ⟨⟨z0, z1⟩, rfl, w0, w1⟩
set_option maxRecDepth 100000 in
theorem opens_OpB (W : World) {r : Reach} (b0 : Nat) (v : Value) (d : DataW H) (p : List MemPlace)
  (hv : Value.okWide Try.prog W r b0 58 v) (h : DataW.Trod enc Try.prog W base spare held 58 v d p) :
  ∃ x : Option Addr × Nat × Nat × List OpB, v = .slice x.1 x.2.1 x.2.2.1 ∧ (ScriptOpB W x.1 x.2.2.2 ∧ x.2.2.2.length = x.2.1 ∧ x.2.1 ≤ 9223372036854775807) := by
 obtain ⟨a, len, cap, rfl⟩ := okWide_slice Try.underlying58 hv
 obtain ⟨fuel, hf⟩ := h
 have c5 : Try.prog.cellsOf 94 = 2 := by kernel_rfl
 rcases open_slice Try.underlying58 hf with ⟨hcs, _⟩ | ⟨x, l, c, m, n, D, Pl, hcs, _, hl, hm, hmm, _, hx⟩
 ·simp [Value.cells] at hcs
  obtain ⟨rfl, rfl, rfl⟩ := hcs
  exact ⟨(none, 0, 0, []), rfl, ⟨fun h => absurd rfl h, by simp⟩, rfl, by show (0 : Nat) ≤ _; omega⟩
 ·simp [Value.cells] at hcs
  obtain ⟨rfl, rfl, rfl⟩ := hcs
  rw [c5] at hx
  have hlm : len ≤ m := by rw [hmm]; split <;> omega
  obtain ⟨ops, hol, hq⟩ := o_list (Q := fun i (op : OpB) => OpBOk W op ∧ ∀ j u, op.cells[j]? = some u → W.cell? (x.add (i * 2 + j)) = some u) len (fun i hi => by
   obtain ⟨cs', hc, ht⟩ := hx i (by omega)
   obtain ⟨op, rfl, hok⟩ := open_OpB ht
   obtain ⟨_, hcl, hat⟩ := World.cells?_some hc
   refine ⟨op, hok, fun j u hj => ?_⟩
   have hj5 : j < 2 := by have := (List.getElem?_eq_some_iff.1 hj).1; rw [hcl] at this; exact this
   rw [← Go.Deep.add_add, hat j hj5, hj])
  refine ⟨(some x, len, cap, ops), rfl, ⟨fun h0 => ?_, fun op hop => ?_⟩, hol, by simp only [maxLen] at hm; show len ≤ _; omega⟩
  ·have h00 : ops.length ≠ 0 := h0
   obtain ⟨op0, hop0⟩ : ∃ op, ops[0]? = some op := ⟨_, List.getElem?_eq_getElem (by omega)⟩
   obtain ⟨b, off, spot⟩ := x
   have hc0 := (hq 0 op0 hop0).2 0 _ rfl
   have hspot : spot = none := by simpa [Addr.add] using World.cell?_spot hc0
   subst hspot
   refine ⟨b, off, rfl, fun i op hi j u hu => ?_⟩
   have := (hq i op hi).2 j u hu
   rw [o_add] at this
   rw [Nat.add_assoc]; exact this
  ·obtain ⟨i, hi, rfl⟩ := List.mem_iff_getElem.1 hop
   exact (hq i _ (List.getElem?_eq_getElem hi)).1
end
end Go.Proofs.Ytdgmlfpikgjnlaa
end

section
namespace Go.Proofs.Ytdgmlfpikgjnlaa.Cl
open Go Go.RowKit
def szs : List Int := [2, 3, 4, 5, 6, 7, 8, 10, 12, 14, 16, 18, 20, 24, 28, 32, 36, 40, 46, 51, 56, 64, 73, 85, 92, 102, 113, 128, 146, 170, 204, 256]
def sz (j : Nat) : Int := szs.getD j 0
/-- words of a class -/
def words (k : Int) : Int := if 0 ≤ k ∧ k < 32 then sz k.toNat else 0
theorem words_in (k : Int) (h : 0 ≤ k) (h2 : k < 32) : words k = sz k.toNat := by unfold words; rw [if_pos ⟨h, h2⟩]
theorem sz_bd : ∀ j < 32, 2 ≤ sz j ∧ sz j ≤ 256 := by decide
theorem sz_step : ∀ j < 31, sz j < sz (j + 1) := by decide
theorem words_pos (k : Int) (h : 0 ≤ k) (h2 : k < 32) : 2 ≤ words k := by rw [words_in k h h2]; exact (sz_bd k.toNat (by omega)).1
theorem sz_mono (d : Nat) : ∀ j, j + d < 32 → sz j ≤ sz (j + d) := by
  induction d with
  | zero => intro j _; exact Int.le_refl _
  | succ d ih => intro j h; have a := ih j (by omega); have b := sz_step (j + d) (by omega); have e : j + (d + 1) = j + d + 1 := by omega
                 rw [e]; omega
theorem words_mono (i j : Int) (h0 : 0 ≤ i) (h : i ≤ j) (h2 : j < 32) : words i ≤ words j := by
  rw [words_in i h0 (by omega), words_in j (by omega) h2]
  have := sz_mono (j.toNat - i.toNat) i.toNat (by omega)
  rwa [show i.toNat + (j.toNat - i.toNat) = j.toNat from by omega] at this
/-- the least class whose cells have so many words; -1: none -/
def Least (n k : Int) : Prop := 0 ≤ k ∧ k < 32 ∧ n ≤ words k ∧ ∀ j, 0 ≤ j → j < k → words j < n
theorem Least.lt {n k : Int} (h : Least n k) (j : Int) (h0 : 0 ≤ j) (h1 : j < k) : words j < n := h.2.2.2 j h0 h1
/-- cells of a class -/
def cells (k : Int) : Int := if 0 ≤ k ∧ k < 32 then 512 / words k else 0
/-- an object's words -/
def size (p d : Int) : Int := if p < 0 ∨ p > 63 ∨ d < 0 ∨ d > 16384 then 0 else 1 + p + d
def BelowAll (n j : Int) : Prop := ∀ i : Int, 0 ≤ i → i < j → words i < n
theorem BelowAll.zero (n : Int) : BelowAll n 0 := fun i a b => by omega
theorem BelowAll.succ {n j : Int} (h : BelowAll n j) (hj : words j < n) : BelowAll n (j + 1) := fun i a b => by
  by_cases hi : i < j
  · exact h i a hi
  · obtain rfl : i = j := by omega
    exact hj
theorem BelowAll.up {n j m : Int} (h : words m < n) (hm : m < 32) : BelowAll n (m + 1) := fun i a b => by
  have := words_mono i m a (by omega) hm
  omega
theorem BelowAll.least {n j : Int} (h : BelowAll n j) (h0 : 0 ≤ j) (h1 : j < 32) (h2 : n ≤ words j) : Least n j := ⟨h0, h1, h2, h⟩
end Go.Proofs.Ytdgmlfpikgjnlaa.Cl
end

section
namespace Go.Proofs.Ytdgmlfpikgjnlaa
open Go.RowKit
set_option maxHeartbeats 400000
set_option maxRecDepth 100000
end Go.Proofs.Ytdgmlfpikgjnlaa
end

section
namespace Go.Proofs.Ytdgmlfpikgjnlaa
open Go.RowKit
set_option maxHeartbeats 400000
set_option maxRecDepth 100000
end Go.Proofs.Ytdgmlfpikgjnlaa
end

section
namespace Go.Proofs.Ytdgmlfpikgjnlaa.Ce
open Go Go.RowKit
def first (n bl : Int) : Int := if 0 ≤ bl ∧ bl < n then bl * 512 else -1
def address (n k b i : Int) : Int := if 0 ≤ k ∧ k < 32 ∧ 1 ≤ b ∧ b < n ∧ 0 ≤ i ∧ i < Cl.cells k then b * 512 + i * Cl.words k else -1
/-- the addresses of a block's cells -/
def all (n k b : Int) : List Int := if 1 ≤ b ∧ b < n then (List.range (Cl.cells k).toNat).map fun (i : Nat) => 512 * b + (i : Int) * Cl.words k else []
def upto (k b : Int) (m : Nat) : List Int := (List.range m).map fun (i : Nat) => 512 * b + (i : Int) * Cl.words k
theorem upto_succ (k b : Int) (m : Nat) : upto k b (m + 1) = upto k b m ++ [512 * b + (m : Int) * Cl.words k] := by simp [upto, List.range_succ]
/-- an address is within the cell i just if i is the quotient -/
theorem within (a k i : Int) (h3 : 0 ≤ k) (h4 : k < 32) (hi : 0 ≤ i) (ha : 0 ≤ a) (hc : i < Cl.cells k) :
  (512 * (a / 512) + i * Cl.words k ≤ a ∧ a < 512 * (a / 512) + i * Cl.words k + Cl.words k) ↔ a % 512 / Cl.words k = i := by
 have hw := Cl.words_pos k h3 h4
 have e := Int.mul_ediv_add_emod (a % 512) (Cl.words k)
 have b1 := Int.emod_nonneg (a % 512) (show Cl.words k ≠ 0 by omega)
 have b2 := Int.emod_lt_of_pos (a % 512) (show 0 < Cl.words k by omega)
 have s : a = 512 * (a / 512) + a % 512 := by omega
 constructor
 ·rintro ⟨g1, g2⟩
  have g3 : i * Cl.words k ≤ a % 512 := by omega
  have g4 : a % 512 < (i + 1) * Cl.words k := by rw [Int.add_mul, Int.one_mul]; omega
  have l1 : i ≤ a % 512 / Cl.words k := (Int.le_ediv_iff_mul_le (by omega)).2 g3
  have l2 : a % 512 / Cl.words k < i + 1 := Int.ediv_lt_of_lt_mul (by omega) g4
  omega
 ·rintro rfl
  rw [Int.mul_comm (a % 512 / Cl.words k)]
  omega
end Go.Proofs.Ytdgmlfpikgjnlaa.Ce
end

section
namespace Go.Proofs.Ytdgmlfpikgjnlaa
open Go.RowKit
set_option maxHeartbeats 1000000
set_option maxRecDepth 100000
end Go.Proofs.Ytdgmlfpikgjnlaa
end

section
namespace Go.Proofs.Ytdgmlfpikgjnlaa
open Go.RowKit
set_option maxHeartbeats 400000
set_option maxRecDepth 100000
end Go.Proofs.Ytdgmlfpikgjnlaa
end

section
namespace Go.Proofs.Ytdgmlfpikgjnlaa.Xp
open Go Go.RowKit
def okC (l c k : Int) : Prop := 0 ≤ l ∧ l ≤ 65536 ∧ 1 ≤ c ∧ c ≤ 256 ∧ 0 ≤ k
instance (l c k : Int) : Decidable (okC l c k) := by unfold okC; infer_instance
/-- the number of digits, the lowest first -/
def nval (c : Int) : List Int → Int
 | [] => 0
 | d :: l => d + c * nval c l
def okD (c : Int) (l : List Int) : Prop := ∀ d ∈ l, 0 ≤ d ∧ d < c
/-- the number that the page says; -1: none -/
def cOk (c : Int) : Prop := 1 ≤ c ∧ c ≤ 256
instance (c : Int) : Decidable (cOk c) := by unfold cOk; infer_instance
instance (c : Int) (l : List Int) : Decidable (okD c l) := by unfold okD; infer_instance
def numOk (c : Int) (l : List Int) : Prop := cOk c ∧ okD c l ∧ nval c l ≤ 1099511627776
instance (c : Int) (l : List Int) : Decidable (numOk c l) := by unfold numOk; infer_instance
def number (c : Int) (l : List Int) : Int := if numOk c l then nval c l else -1
/-- what the code keeps: the number, and what is over -/
def over (w n : Int) (i : Nat) : Int := (i : Int) * w % n
/-- how many are told -/
def many (v m : Int) : Int := min (min v m) 4096
end Go.Proofs.Ytdgmlfpikgjnlaa.Xp
end

section
namespace Go.Proofs.Ytdgmlfpikgjnlaa
open Go.RowKit
set_option maxHeartbeats 400000
set_option maxRecDepth 100000
end Go.Proofs.Ytdgmlfpikgjnlaa
end

section
namespace Go.Proofs.Ytdgmlfpikgjnlaa
open Go.RowKit
set_option maxHeartbeats 400000
set_option maxRecDepth 100000
/-- the call returns a row of its own, these integers -/
def OwnInts (k : IntKind) (T : TypeId) (xs : List Int) (w : World) (e : Ending) (w' : World) : Prop :=
 ∃ v, e = .returned v ∧ w'.ownsRow w.heap.size T 1 v xs.length (xs.map (Value.int k)) ∧ Below w.heap.size w w'
theorem OwnInts.mk {k : IntKind} {T : TypeId} {xs : List Int} {w : World} {e : Ending} {w' : World} (v : Value) (he : e = .returned v) (n : Nat) (hn : xs.length = n) (ho : w'.ownsRow w.heap.size T 1 v n (xs.map (Value.int k))) (hb : Below w.heap.size w w') : OwnInts k T xs w e w' :=
 ⟨v, he, by rw [hn]; exact ho, hb⟩
theorem OwnInts.nil {k : IntKind} {T : TypeId} {xs : List Int} {w : World} {w' : World} (hx : xs = []) (hb : Below w.heap.size w w') : OwnInts k T xs w (.returned (.slice none 0 0)) w' := by
 subst hx; exact ⟨_, rfl, World.ownsRow_nil _ _ _ _, hb⟩
end Go.Proofs.Ytdgmlfpikgjnlaa
end

section
namespace Go.Proofs.Ytdgmlfpikgjnlaa
open Go.RowKit
end Go.Proofs.Ytdgmlfpikgjnlaa
end

section
namespace Go.Proofs.Ytdgmlfpikgjnlaa
open Go.RowKit
set_option maxHeartbeats 2000000
set_option maxRecDepth 100000
end Go.Proofs.Ytdgmlfpikgjnlaa
end

section
namespace Go.Proofs.Ytdgmlfpikgjnlaa
open Go.RowKit
set_option maxRecDepth 100000
set_option maxHeartbeats 1000000
theorem upto_pre (k b : Int) (j m : Nat) (h : j ≤ m) : Ce.upto k b j <+: Ce.upto k b m := by
 obtain ⟨d, rfl⟩ := Nat.exists_eq_add_of_le h
 induction d with
 | zero => exact List.prefix_refl _
 | succ d ih => exact (ih (by omega)).trans (by rw [← Nat.add_assoc, Ce.upto_succ]; exact List.prefix_append _ _)
end Go.Proofs.Ytdgmlfpikgjnlaa
end

section
namespace Go.Proofs.Ytdgmlfpikgjnlaa
open Go.RowKit
set_option maxRecDepth 100000
theorem only_drewN (w : World) (q : Nat) : Only [] w (w.drewN q) := ⟨rfl, rfl, rfl, Nat.le_refl _, fun _ _ _ => rfl⟩
theorem ints_sees (A B : Option Addr) (n c m d : Nat) (xs ys : List Int) (w : World) (hx : Sees (Value.int .i64) w [] A xs) (hy : Sees (Value.int .i64) w [] B ys) (lx : xs.length = n) (ly : ys.length = m) (ix : Ints .i64 xs) (iy : Ints .i64 ys) (n1 : n ≤ maxLen) (m1 : m ≤ maxLen) :
  Calls Try.prog 33 [.slice A n c, .slice B m d].toArray w fun e w' => e = .returned (.bool (eqB xs ys)) ∧ Only [] w w' :=
 (ints_any A B n c m d xs ys _ _ w (hx.row lx) (hy.row ly) ix iy n1 m1).mono fun e w' ⟨h, q, hq⟩ => ⟨h, by subst hq; exact only_drewN w q⟩
theorem Sees.take {α : Type} {enc : α → Value} {w : World} {F : List Nat} {A : Option Addr} {xs : List α} (h : Sees enc w F A xs) (k : Nat) : Sees enc w F A (xs.take k) := by
 intro h0
 simp at h0
 obtain ⟨b, o, e, hb, hr⟩ := h (by intro h2; exact h0.2 (List.eq_nil_of_length_eq_zero h2))
 refine ⟨b, o, e, hb, fun i z hz => hr i z ?_⟩
 rw [List.getElem?_take] at hz
 split at hz
 ·exact hz
 ·cases hz
end Go.Proofs.Ytdgmlfpikgjnlaa
end
