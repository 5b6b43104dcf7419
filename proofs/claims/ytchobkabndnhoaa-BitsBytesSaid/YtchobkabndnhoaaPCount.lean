/- Plain lemmas: counting ones, the least and the greatest one, turning. No program in sight. -/
import Derived.Test.YtchobkabndnhoaaPBits
namespace Go.Proofs.Ytchobkabndnhoaa.Bt
set_option linter.unusedVariables false
open Go

/-! ## ones -/
def pop (x : Nat) : Nat → Nat
  | 0 => 0
  | m + 1 => x % 2 + pop (x / 2) m
def cnt (f : Nat → Bool) : Nat → Nat
  | 0 => 0
  | m + 1 => cnt f m + (if f m then 1 else 0)
theorem cnt_le (f : Nat → Bool) (m : Nat) : cnt f m ≤ m := by
  induction m with
  | zero => simp [cnt]
  | succ m ih => unfold cnt; split <;> omega
theorem cnt_shift (f : Nat → Bool) (m : Nat) : cnt f (m + 1) = (if f 0 then 1 else 0) + cnt (fun i => f (i + 1)) m := by
  induction m with
  | zero => simp [cnt]
  | succ m ih => rw [cnt, ih]; conv => rhs; rw [cnt]
                 omega
theorem cnt_congr {f g : Nat → Bool} {m : Nat} (h : ∀ i, i < m → f i = g i) : cnt f m = cnt g m := by
  induction m with
  | zero => rfl
  | succ m ih => rw [cnt, cnt, ih (fun i hi => h i (by omega)), h m (by omega)]
theorem pop_cnt (m : Nat) : ∀ x : Nat, pop x m = cnt x.testBit m := by
  induction m with
  | zero => intro x; rfl
  | succ m ih =>
    intro x
    rw [pop, cnt_shift, ih]
    have e : cnt (x / 2).testBit m = cnt (fun i => x.testBit (i + 1)) m := cnt_congr fun i _ => by rw [Nat.testBit_succ]
    rw [e, Nat.testBit_zero]
    rcases Nat.mod_two_eq_zero_or_one x with h | h <;> simp [h]
theorem pop_split (a : Nat) : ∀ (b x : Nat), pop x (a + b) = pop (x % 2 ^ a) a + pop (x / 2 ^ a) b := by
  induction a with
  | zero => intro b x; simp [pop]
  | succ a ih =>
    intro b x
    rw [show a + 1 + b = (a + b) + 1 from by omega, pop, ih, pop]
    have e1 : x % 2 ^ (a + 1) % 2 = x % 2 := by
      rw [Nat.pow_succ, Nat.mul_comm]; exact Nat.mod_mul_right_mod x 2 (2 ^ a)
    have e2 : x % 2 ^ (a + 1) / 2 = x / 2 % 2 ^ a := by
      rw [Nat.pow_succ, Nat.mul_comm]; exact Nat.mod_mul_right_div_self x 2 (2 ^ a)
    have e3 : x / 2 / 2 ^ a = x / 2 ^ (a + 1) := by rw [Nat.div_div_eq_div_mul, Nat.pow_succ, Nat.mul_comm]
    rw [e1, e2, e3]; omega
theorem pop_byte (h l m : Nat) (hl : l < 256) : pop (256 * h + l) (8 + m) = pop l 8 + pop h m := by
  rw [pop_split]
  have e1 : (256 * h + l) % 2 ^ 8 = l := by omega
  have e2 : (256 * h + l) / 2 ^ 8 = h := by omega
  rw [e1, e2]
def count (x : Int) : Int := (pop x.toNat 64 : Nat)
theorem count_bd (x : Int) : 0 ≤ count x ∧ count x ≤ 64 := by
  have := cnt_le x.toNat.testBit 64
  unfold count; rw [pop_cnt]; omega

/-! ### the bits of two numbers beside each other -/
theorem land_join (s h l h' l' : Nat) (hl : l < 2 ^ s) (hl' : l' < 2 ^ s) : (2 ^ s * h + l) &&& (2 ^ s * h' + l') = 2 ^ s * (h &&& h') + (l &&& l') := by
  have hx : l &&& l' < 2 ^ s := Nat.and_lt_two_pow _ hl'
  apply Nat.eq_of_testBit_eq
  intro i
  rw [Nat.testBit_and, Nat.testBit_two_pow_mul_add _ hl, Nat.testBit_two_pow_mul_add _ hl', Nat.testBit_two_pow_mul_add _ hx]
  split <;> rw [Nat.testBit_and]
theorem land256 (h l h' l' : Nat) (hl : l < 256) (hl' : l' < 256) : (256 * h + l) &&& (256 * h' + l') = 256 * (h &&& h') + (l &&& l') := land_join 8 h l h' l' hl hl'
def sw1 (x m : Nat) : Nat := x - ((x / 2) &&& m)
def sw2 (y m : Nat) : Nat := (y &&& m) + ((y / 4) &&& m)
def sw3 (z m : Nat) : Nat := (z + z / 16) &&& m
theorem f1 : ∀ b < 2, ∀ l < 128, (128 * b + l) &&& 85 = l &&& 85 := by decide +kernel
theorem f2 : ∀ b < 4, ∀ l < 64, (64 * b + l) &&& 51 = l &&& 51 := by decide +kernel
theorem f3 : ∀ b < 5, ∀ l < 73, (16 * b + l) &&& 15 = l &&& 15 := by decide +kernel
theorem sw1_join (h l m : Nat) (hl : l < 256) : sw1 (256 * h + l) (256 * m + 85) = 256 * sw1 h m + sw1 l 85 := by
  unfold sw1
  have e : (256 * h + l) / 2 = 256 * (h / 2) + (128 * (h % 2) + l / 2) := by omega
  rw [e, land256 _ _ _ _ (by omega) (by decide), f1 _ (by omega) _ (by omega)]
  have h1 : h / 2 &&& m ≤ h / 2 := Nat.and_le_left
  have h2 : l / 2 &&& 85 ≤ l / 2 := Nat.and_le_left
  omega
theorem sw2_join (h l m : Nat) (hl : l < 256) : sw2 (256 * h + l) (256 * m + 51) = 256 * sw2 h m + sw2 l 51 := by
  unfold sw2
  have e : (256 * h + l) / 4 = 256 * (h / 4) + (64 * (h % 4) + l / 4) := by omega
  rw [e, land256 _ _ _ _ hl (by decide), land256 _ _ _ _ (by omega) (by decide), f2 _ (by omega) _ (by omega)]
  omega
theorem sw3_join (h l m : Nat) (hl : l ≤ 68) (hh : h % 16 ≤ 4) : sw3 (256 * h + l) (256 * m + 15) = 256 * sw3 h m + sw3 l 15 := by
  unfold sw3
  have e : 256 * h + l + (256 * h + l) / 16 = 256 * (h + h / 16) + (16 * (h % 16) + (l + l / 16)) := by omega
  rw [e, land256 _ _ _ _ (by omega) (by decide), f3 _ (by omega) _ (by omega)]
theorem byte1 : ∀ b < 256, sw1 b 85 < 256 := by decide +kernel
theorem byte2 : ∀ b < 256, sw2 (sw1 b 85) 51 ≤ 68 ∧ sw2 (sw1 b 85) 51 % 16 ≤ 4 := by decide +kernel
theorem byte3 : ∀ b < 256, sw3 (sw2 (sw1 b 85) 51) 15 = pop b 8 := by decide +kernel
/-- a number of n bytes, and the masks of n bytes -/
def rep (c : Nat) : Nat → Nat
  | 0 => 0
  | n + 1 => 256 * rep c n + c
def sum8 : Nat → Nat → Nat
  | 0, _ => 0
  | n + 1, x => 256 * sum8 n (x / 256) + pop (x % 256) 8
theorem swar (n : Nat) : ∀ x, x < 256 ^ n → sw2 (sw1 x (rep 85 n)) (rep 51 n) % 16 ≤ 4 ∧ sw3 (sw2 (sw1 x (rep 85 n)) (rep 51 n)) (rep 15 n) = sum8 n x := by
  induction n with
  | zero => intro x hx; obtain rfl : x = 0 := by simpa using hx
            decide
  | succ n ih =>
    intro x hx
    have hl : x % 256 < 256 := Nat.mod_lt _ (by decide)
    have hh : x / 256 < 256 ^ n := by rw [Nat.pow_succ] at hx; omega
    have ex : x = 256 * (x / 256) + x % 256 := by omega
    obtain ⟨i1, i2⟩ := ih (x / 256) hh
    have e1 : sw1 x (rep 85 (n + 1)) = 256 * sw1 (x / 256) (rep 85 n) + sw1 (x % 256) 85 := by
      conv => lhs; rw [ex]
      exact sw1_join _ _ _ hl
    have b1 := byte1 _ hl
    have b2 := byte2 _ hl
    have e2 : sw2 (sw1 x (rep 85 (n + 1))) (rep 51 (n + 1)) = 256 * sw2 (sw1 (x / 256) (rep 85 n)) (rep 51 n) + sw2 (sw1 (x % 256) 85) 51 := by
      rw [e1]; exact sw2_join _ _ _ b1
    rw [e2]
    refine ⟨by omega, ?_⟩
    have e3 := sw3_join (sw2 (sw1 (x / 256) (rep 85 n)) (rep 51 n)) (sw2 (sw1 (x % 256) 85) 51) (rep 15 n) b2.1 i1
    rw [show rep 15 (n + 1) = 256 * rep 15 n + 15 from rfl, e3, i2, byte3 _ hl]
    rfl
theorem pop8_le (x : Nat) : pop x 8 ≤ 8 := by rw [pop_cnt]; exact cnt_le _ _
theorem top_byte (J S R : Nat) (hR : R < 72057594037927936) (hS : S < 256) : (18446744073709551616 * J + (72057594037927936 * S + R)) % 18446744073709551616 / 72057594037927936 = S := by omega
theorem pop_bytes (x : Nat) (h : x < 18446744073709551616) : (sum8 8 x * 72340172838076673 % 18446744073709551616) / 72057594037927936 = pop x 64 := by
  have p := fun y => pop8_le y
  have e0 : ∀ y m, pop y (8 + m) = pop (y % 256) 8 + pop (y / 256) m := fun y m => by
    rw [pop_split]
  rw [show (64 : Nat) = 8 + 56 from rfl, e0, show (56 : Nat) = 8 + 48 from rfl, e0, show (48 : Nat) = 8 + 40 from rfl, e0, show (40 : Nat) = 8 + 32 from rfl, e0, show (32 : Nat) = 8 + 24 from rfl, e0, show (24 : Nat) = 8 + 16 from rfl, e0,
    show (16 : Nat) = 8 + 8 from rfl, e0]
  have e8 : pop (x / 256 / 256 / 256 / 256 / 256 / 256 / 256) 8 = pop (x / 256 / 256 / 256 / 256 / 256 / 256 / 256 % 256) 8 := by
    rw [Nat.mod_eq_of_lt (by omega)]
  rw [e8]
  unfold sum8 sum8 sum8 sum8 sum8 sum8 sum8 sum8 sum8
  have p0 := p (x % 256)
  have p1 := p (x / 256 % 256)
  have p2 := p (x / 256 / 256 % 256)
  have p3 := p (x / 256 / 256 / 256 % 256)
  have p4 := p (x / 256 / 256 / 256 / 256 % 256)
  have p5 := p (x / 256 / 256 / 256 / 256 / 256 % 256)
  have p6 := p (x / 256 / 256 / 256 / 256 / 256 / 256 % 256)
  have p7 := p (x / 256 / 256 / 256 / 256 / 256 / 256 / 256 % 256)
  generalize pop (x % 256) 8 = q0 at *
  generalize pop (x / 256 % 256) 8 = q1 at *
  generalize pop (x / 256 / 256 % 256) 8 = q2 at *
  generalize pop (x / 256 / 256 / 256 % 256) 8 = q3 at *
  generalize pop (x / 256 / 256 / 256 / 256 % 256) 8 = q4 at *
  generalize pop (x / 256 / 256 / 256 / 256 / 256 % 256) 8 = q5 at *
  generalize pop (x / 256 / 256 / 256 / 256 / 256 / 256 % 256) 8 = q6 at *
  generalize pop (x / 256 / 256 / 256 / 256 / 256 / 256 / 256 % 256) 8 = q7 at *
  clear e8 e0 p h
  have hP : (256 * (256 * (256 * (256 * (256 * (256 * (256 * (256 * 0 + q7) + q6) + q5) + q4) + q3) + q2) + q1) + q0) * 72340172838076673 = 18446744073709551616 * (q1 * 1 + q2 * 257 + q3 * 65793 + q4 * 16843009 + q5 * 4311810305 + q6 * 1103823438081 + q7 * 282578800148737) + (72057594037927936 * (q0 + q1 + q2 + q3 + q4 + q5 + q6 + q7) + (q0 * 282578800148737 + q1 * 282578800148736 + q2 * 282578800148480 + q3 * 282578800082944 + q4 * 282578783305728 + q5 * 282574488338432 + q6 * 281474976710656)) := by omega
  have hR : q0 * 282578800148737 + q1 * 282578800148736 + q2 * 282578800148480 + q3 * 282578800082944 + q4 * 282578783305728 + q5 * 282574488338432 + q6 * 281474976710656 < 72057594037927936 := by omega
  have hS : q0 + q1 + q2 + q3 + q4 + q5 + q6 + q7 < 256 := by omega
  rw [hP, top_byte _ _ _ hR hS]
  clear hP hR hS
  omega
end Go.Proofs.Ytchobkabndnhoaa.Bt
