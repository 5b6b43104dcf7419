/- Parts of the proof, one behind the other. -/
import Derived.WalkKit
import Derived.Laws.BitsAllLaws
import Derived.Deep.RegionHeld3
import Derived.BigQuiet
import Derived.Outline
import Derived.Deep.QuietTactic
import Derived.Laws.StructEq
import Derived.Lib.AppendZeros
import Derived.Maps.Keyed
import Derived.Maps.RangeRun
import Derived.Carry
import Derived.Test.YtlakbclnilakbaaKTraceClosedb
set_option linter.unusedSimpArgs false
set_option linter.unusedVariables false
set_option linter.unusedSectionVars false
section
namespace Go.Proofs.Ytlakbclnilakbaa.Bt
open Go

/-! powers, masks -/
theorem pow_int (k : Nat) : ((2 ^ k : Nat) : Int) = (2 : Int) ^ k := by simp
theorem pow_bdN (k : Nat) (h : k < 64) : 1 ≤ 2 ^ k ∧ 2 ^ k ≤ 9223372036854775808 := by
 have a := Nat.one_le_two_pow (n := k)
 have b : (2 : Nat) ^ k ≤ 2 ^ 63 := Nat.pow_le_pow_right (by decide) (by omega)
 omega
/-- so many ones at the right -/
def maskN (k : Int) : Nat := 2 ^ (min k.toNat 64) - 1
def mask (k : Int) : Int := (maskN k : Nat)
theorem maskN_lt (k : Int) : maskN k < 18446744073709551616 := by
 have h : (2 : Nat) ^ (min k.toNat 64) ≤ 2 ^ 64 := Nat.pow_le_pow_right (by decide) (Nat.min_le_right _ _)
 have := Nat.one_le_two_pow (n := min k.toNat 64)
 unfold maskN; omega
theorem mask_nonneg (k : Int) : 0 ≤ mask k := Int.natCast_nonneg _
theorem mask_le (k : Int) : mask k ≤ 18446744073709551615 := by have := maskN_lt k; unfold mask; omega
theorem mask_le0 (k : Int) (h : k ≤ 0) : mask k = 0 := by
 have : k.toNat = 0 := by omega
 unfold mask maskN; rw [this]; simp
theorem mask_ge (k : Int) (h : 64 ≤ k) : mask k = 18446744073709551615 := by
 have : min k.toNat 64 = 64 := by omega
 unfold mask maskN; rw [this]; decide
theorem mask_mid (k : Int) (h : 0 < k) (h2 : k < 64) : IntKind.u64.wrap (IntKind.u64.wrap (2 ^ k.toNat) - 1) = mask k := by
 have e : min k.toNat 64 = k.toNat := by omega
 have := pow_bdN k.toNat (by omega)
 have c := pow_int k.toNat
 unfold mask maskN
 rw [e, IntKind.wrap_u64, IntKind.wrap_u64, ← c]
 omega
theorem testBit_maskN (k : Int) (i : Nat) : (maskN k).testBit i = decide (i < min k.toNat 64) := by
 unfold maskN; exact Nat.testBit_two_pow_sub_one ..

/-! a number by its bits -/
def ofBits (f : Nat → Bool) : Nat → Nat
 | 0 => 0
 | m + 1 => ofBits f m + (if f m then 2 ^ m else 0)
theorem ofBits_lt (f : Nat → Bool) (m : Nat) : ofBits f m < 2 ^ m := by
 induction m with
 | zero => simp [ofBits]
 | succ m ih => unfold ofBits; split <;> (rw [Nat.pow_succ]; omega)
theorem testBit_ofBits (f : Nat → Bool) (m i : Nat) : (ofBits f m).testBit i = (decide (i < m) && f i) := by
 induction m with
 | zero => simp [ofBits]
 | succ m ih =>
  unfold ofBits
  have hl := ofBits_lt f m
  have e : ofBits f m + (if f m then 2 ^ m else 0) = 2 ^ m * (if f m then 1 else 0) + ofBits f m := by split <;> omega
  rw [e, Nat.testBit_two_pow_mul_add _ hl]
  by_cases h : i < m
  ·rw [if_pos h, ih]; simp [h, Nat.lt_succ_of_lt h]
  ·rw [if_neg h]
   by_cases h2 : i = m
   ·subst h2; cases f i <;> simp
   ·have : ¬ i < m + 1 := by omega
    have h3 : i - m ≠ 0 := by omega
    simp only [this, decide_false, Bool.false_and]
    split
    ·obtain ⟨j, hj⟩ := Nat.exists_eq_succ_of_ne_zero h3
     rw [hj, Nat.testBit_succ]; simp
    ·simp
theorem high_bit (x i : Nat) (h : x < 18446744073709551616) (hi : 64 ≤ i) : x.testBit i = false :=
 Nat.testBit_lt_two_pow (Nat.lt_of_lt_of_le h (by have : (2 : Nat) ^ 64 ≤ 2 ^ i := Nat.pow_le_pow_right (by decide) hi; simpa using this))

/-! fields -/
def getN (x : Nat) (a : Int) (k : Int) : Nat := if 0 ≤ a ∧ a < 64 then (x >>> a.toNat) &&& maskN k else 0
def get (x a k : Int) : Int := (getN x.toNat a k : Nat)
theorem get_out (x a k : Int) (h : a < 0 ∨ 64 ≤ a) : get x a k = 0 := by unfold get getN; rw [if_neg (by omega)]; rfl
theorem get_in (x a k : Int) (hx : 0 ≤ x) (hx2 : x ≤ 18446744073709551615) (h : ¬ a < 0) (h2 : a < 64) :
  bits .and .u64 (x / 2 ^ a.toNat) (mask k) = get x a k := by
 obtain ⟨X, rfl⟩ := Int.eq_ofNat_of_zero_le hx
 have e : ((X : Int) / 2 ^ a.toNat) = ((X / 2 ^ a.toNat : Nat) : Int) := by rw [← pow_int]; exact (Int.natCast_ediv ..).symm
 have hl : X / 2 ^ a.toNat ≤ X := Nat.div_le_self _ _
 rw [e]
 unfold mask
 rw [u64_and_nat _ _ (by omega) (maskN_lt k)]
 unfold get getN
 rw [if_pos (by omega), Nat.shiftRight_eq_div_pow]
 rfl
def putN (x : Nat) (a k : Int) (n : Nat) : Nat :=
 if 0 ≤ a ∧ a < 64 then ofBits (fun i => if a.toNat ≤ i ∧ i < a.toNat + k.toNat then n.testBit (i - a.toNat) else x.testBit i) 64 else x
def put (x a k n : Int) : Int := (putN x.toNat a k n.toNat : Nat)
theorem put_out (x a k n : Int) (hx : 0 ≤ x) (h : a < 0 ∨ 64 ≤ a) : put x a k n = x := by unfold put putN; rw [if_neg (by omega)]; omega
theorem wrap_nat (X : Nat) : IntKind.u64.wrap (X : Int) = ((X % 18446744073709551616 : Nat) : Int) := by rw [IntKind.wrap_u64]; omega
theorem wrap_shl (X : Nat) (s : Nat) : IntKind.u64.wrap ((X : Int) * 2 ^ s) = ((X * 2 ^ s % 18446744073709551616 : Nat) : Int) := by
 rw [← pow_int, ← Int.natCast_mul, wrap_nat]
theorem testBit_shl (X s i : Nat) : (X * 2 ^ s % 18446744073709551616).testBit i = (decide (i < 64) && (decide (s ≤ i) && X.testBit (i - s))) := by
 have e : 18446744073709551616 = 2 ^ 64 := by decide
 rw [e, Nat.testBit_mod_two_pow, Nat.mul_comm, Nat.testBit_two_pow_mul]
theorem put_in (x a k n : Int) (hx : 0 ≤ x) (hx2 : x ≤ 18446744073709551615) (hn : 0 ≤ n) (hn2 : n ≤ 18446744073709551615) (h : ¬ a < 0) (h2 : a < 64) :
  bits .or .u64 (bits .andNot .u64 x (IntKind.u64.wrap (mask k * 2 ^ a.toNat))) (bits .and .u64 (IntKind.u64.wrap (n * 2 ^ a.toNat)) (IntKind.u64.wrap (mask k * 2 ^ a.toNat))) = put x a k n := by
 obtain ⟨X, rfl⟩ := Int.eq_ofNat_of_zero_le hx
 obtain ⟨N, rfl⟩ := Int.eq_ofNat_of_zero_le hn
 unfold mask
 rw [wrap_shl, wrap_shl]
 have hm : maskN k * 2 ^ a.toNat % 18446744073709551616 < 18446744073709551616 := Nat.mod_lt _ (by decide)
 have hN : N * 2 ^ a.toNat % 18446744073709551616 < 18446744073709551616 := Nat.mod_lt _ (by decide)
 have bm := fun i => testBit_shl (maskN k) a.toNat i
 have bN := fun i => testBit_shl N a.toNat i
 generalize maskN k * 2 ^ a.toNat % 18446744073709551616 = M at *
 generalize N * 2 ^ a.toNat % 18446744073709551616 = NN at *
 rw [u64_andNot_nat _ _ (by omega) hm, u64_and_nat _ _ hN hm]
 have l1 : X &&& (18446744073709551615 - M) < 18446744073709551616 := Nat.lt_of_le_of_lt Nat.and_le_left (by omega)
 have l2 : NN &&& M < 18446744073709551616 := Nat.lt_of_le_of_lt Nat.and_le_left hN
 rw [u64_or_nat _ _ l1 l2]
 unfold put putN
 rw [if_pos (by omega)]
 congr 1
 apply Nat.eq_of_testBit_eq
 intro i
 rw [testBit_ofBits, Nat.testBit_or, Nat.testBit_and, Nat.testBit_and]
 have e : 18446744073709551615 - M = 2 ^ 64 - (M + 1) := by omega
 rw [e, Nat.testBit_two_pow_sub_succ (by simpa using hm), bm, bN, testBit_maskN]
 by_cases h64 : i < 64
 ·by_cases ha : a.toNat ≤ i
  ·by_cases hk : i < a.toNat + k.toNat
   ·have h1 : i - a.toNat < min k.toNat 64 := by omega
    simp [h64, ha, hk, h1]
   ·have h1 : ¬ i - a.toNat < min k.toNat 64 := by omega
    simp [h64, ha, hk, h1]
  ·simp [h64, ha]
 ·have hx64 := high_bit X i (by omega) (by omega)
  simp [h64, hx64]

/-! the reference's functions: plain -/
def bit (x i : Int) : Bool := x.toNat.testBit i.toNat
def hf (X j : Nat) : Int := ((X / 2 ^ j : Nat) : Int)
end Go.Proofs.Ytlakbclnilakbaa.Bt
end

section
namespace Go.Proofs.Ytlakbclnilakbaa.By
open Go Go.RowKit
/-- what is left of a word behind so many bytes -/
def rest (x : Int) (j : Nat) : Int := ((x.toNat / 256 ^ j : Nat) : Int)
def byteAt (x : Int) (j : Nat) : Int := rest x j % 256
def bytesTo (x : Int) (k : Nat) : List Int := (List.range k).map (byteAt x)
def bytes (xs : List Int) : List Int := xs.flatMap fun x => bytesTo x 8
theorem rest_bd (x : Int) (j : Nat) (h : x ≤ 18446744073709551615) : 0 ≤ rest x j ∧ rest x j ≤ 18446744073709551615 := by
 have : x.toNat / 256 ^ j ≤ x.toNat := Nat.div_le_self _ _
 unfold rest
 generalize x.toNat / 256 ^ j = r at *
 omega
theorem rest_zero (x : Int) (h : 0 ≤ x) : rest x 0 = x := by unfold rest; simp; omega
theorem rest_succ (x : Int) (j : Nat) : rest x j / 256 = rest x (j + 1) := by
 unfold rest
 rw [Nat.pow_succ, ← Nat.div_div_eq_div_mul]
 generalize x.toNat / 256 ^ j = r at *
 omega
theorem rest_shr (x : Int) (j : Nat) (h : 0 ≤ x) : x / 2 ^ (8 * j) = rest x j := by
 obtain ⟨X, rfl⟩ := Int.eq_ofNat_of_zero_le h
 have e : (2 : Nat) ^ (8 * j) = 256 ^ j := by rw [Nat.pow_mul]
 unfold rest
 rw [← Bt.pow_int, e, Int.toNat_natCast]
 exact (Int.natCast_ediv ..).symm
theorem byteAt_bd (x : Int) (j : Nat) : 0 ≤ byteAt x j ∧ byteAt x j ≤ 255 := by unfold byteAt; omega
theorem bytesTo_zero (x : Int) : bytesTo x 0 = [] := rfl
theorem bytesTo_succ (x : Int) (k : Nat) : bytesTo x (k + 1) = bytesTo x k ++ [byteAt x k] := by unfold bytesTo; rw [List.range_succ, List.map_append]; rfl
theorem bytes_snoc (xs : List Int) (x : Int) : bytes (xs ++ [x]) = bytes xs ++ bytesTo x 8 := by unfold bytes; simp
theorem bytesTo_wf (x : Int) (k : Nat) : ∀ b ∈ bytesTo x k, 0 ≤ b ∧ b ≤ 255 := by
 intro b hb
 unfold bytesTo at hb
 obtain ⟨j, _, rfl⟩ := List.mem_map.1 hb
 exact byteAt_bd x j
theorem bytes_bd (xs : List Int) : ∀ b ∈ bytes xs, 0 ≤ b ∧ b ≤ 255 := by
 intro b hb
 unfold bytes at hb
 obtain ⟨x, _, hx⟩ := List.mem_flatMap.1 hb
 exact bytesTo_wf x 8 b hx
theorem map_snoc (xs : List Int) (b : Int) (k : IntKind) : (xs ++ [b]).map (Value.int k) = xs.map (Value.int k) ++ [.int k b] := by simp
/-- the value of so many bytes from place i on, the lowest first; noughts behind the end -/
def low (bs : List Int) (i : Nat) : Nat → Int
 | 0 => 0
 | t + 1 => low bs i t + bs.getD (i + t) 0 * 256 ^ t
def word (bs : List Int) (j : Nat) : Int := low bs (8 * j) 8
def words (bs : List Int) : List Int := (List.range ((bs.length + 7) / 8)).map (word bs)
/-- words of the first n bytes, in a row of N -/
def fill (bs : List Int) (N n : Nat) : List Int := (List.range N).map (word (bs.take n))
end Go.Proofs.Ytlakbclnilakbaa.By
end

section
namespace Go.Proofs.Ytlakbclnilakbaa
open Go.RowKit
set_option maxHeartbeats 400000
set_option maxRecDepth 100000
theorem rBytes_any (A : Option Addr) (len cap : Nat) (xs : List Int) (B : Nat) (w : World) (hr : RowAt w B A len (xs.map (Value.int .u64))) (hi : Ints .u64 xs) (hl : len ≤ 1099511627776) (hB : B ≤ w.heap.size) :
  Calls Try.prog 135 #[.slice A len cap] w fun e w' => ∃ v, e = .returned v ∧ w'.ownsRow w.heap.size 5 1 v (8 * len) ((By.bytes xs).map (Value.int .u8)) ∧ Below w.heap.size w w' := by
 obtain ⟨i0, hi0, hz0, hz1, hz2⟩ := info_parts info_u8
 have HI := Lib.hid hi
 have HR := Lib.hid hr
 have hlen : xs.length = len := by simpa using hr.1
 have HL := Lib.hid hlen
 clear hi hr hlen
 go_enter Try.func135, Try.ntmps135
 go_wp2_with fail
 go_loopw [3, 4, 5, 6] (fun v t _a _b wr => ∃ j : Nat, j ≤ len ∧ t = .int .i64 j ∧ wr.ownsRow w.heap.size 5 1 v (8 * j) ((By.bytes (xs.take j)).map (Value.int .u8)) ∧ Below w.heap.size w wr) (fun _ t _ _ _ => len - (intOf t).toNat)
 case atStart => exact ⟨0, by omega, rfl, World.ownsRow_nil _ _ _ _, Below.refl _ _⟩
 case round =>
  obtain ⟨j, hj, rfl, hown, hbe⟩ := hrel
  have hsz := hbe.size
  by_cases hlt : j < len
  ·obtain ⟨b, off, z, rfl, hbl, hz, hwz, hc⟩ := HR.out.int HI.out hlt
   have hzb := bounds_u64 hwz
   have hc2 := (hbe.cell (p := ⟨b, off + j, none⟩) (by simp; omega)).trans hc
   have HT := Lib.hid (take_succ_of hz)
   clear hz hwz hc
   go_wp2_with fail
   go_loopw [3, 5, 6] (fun v x t wr => ∃ k : Nat, k ≤ 8 ∧ t = .int .i64 k ∧ x = .int .u64 (By.rest z k) ∧ wr.ownsRow w.heap.size 5 1 v (8 * j + k) ((By.bytes (xs.take j) ++ By.bytesTo z k).map (Value.int .u8)) ∧ Below w.heap.size w wr) (fun _ _ t _ => 8 - (intOf t).toNat)
   case atStart => exact ⟨0, by omega, rfl, by rw [By.rest_zero z hzb.1], by rw [By.bytesTo_zero, List.append_nil]; exact hown, hbe⟩
   case round =>
    clear hown hbe hc2 hsz
    obtain ⟨k, hk, rfl, rfl, hown, hbe⟩ := hrel
    have hsz := hbe.size
    have hkb := By.rest_bd z k hzb.2
    have hks := Lib.hid (By.rest_succ z k)
    have hbs := Lib.hid (By.bytesTo_succ z k)
    by_cases hlk : k < 8
    ·have hba : By.rest z k % 256 = By.byteAt z k := rfl
     have hbb := By.byteAt_bd z k
     have HBA := Lib.hid hba
     go_wp2_with (first
      | (at_builtin; refine wpList_app1 (P := Try.prog) rfl (.tmp 21) (.tmp 25) 192 rfl w.heap.size 5 i0 (.int .u8 0) 1 Try.underlying192 hi0 hz0 hz1 hz2 rfl _ _ _ rfl hown _ _ rfl rfl (by unfold maxLen; omega) (by omega) hsz w.heap.size w hbe (Nat.le_refl _) ?_; intro v' w' hown' hbe' hlt' _))
     go_roundw
     case rel =>
      refine ⟨k + 1, by omega, by go_num, by rw [hks.out], ?_, hbe'⟩
      rw [hbs.out, ← List.append_assoc, By.map_snoc, ← HBA.out]
      exact hown'
     case measure => simp [intOf]; omega
    ·obtain rfl : k = 8 := by omega
     go_wp2_with fail
     go_roundw
     case rel =>
      refine ⟨j + 1, by omega, by go_num, ?_, hbe⟩
      rw [HT.out, By.bytes_snoc]
      exact hown
     case measure => simp [intOf]; omega
  ·go_wp2_with fail
   go_ret
   obtain rfl : j = len := by omega
   rw [List.take_of_length_le (by rw [HL.out]; exact Nat.le_refl _)] at hown
   exact ⟨_, rfl, hown, hbe⟩
theorem bytes_any (A : Option Addr) (len cap : Nat) (xs : List Int) (B : Nat) (w : World) (hr : RowAt w B A len (xs.map (Value.int .u64))) (hi : Ints .u64 xs) (hl : len ≤ 1099511627776) (hB : B ≤ w.heap.size) :
  Calls Try.prog 171 #[.slice A len cap] w fun e w' => ∃ v, e = .returned v ∧ w'.ownsRow w.heap.size 5 1 v (8 * len) ((By.bytes xs).map (Value.int .u8)) ∧ Below w.heap.size w w' := by
 obtain ⟨i0, hi0, hz0, hz1, hz2⟩ := info_parts info_u8
 have HI := Lib.hid hi
 have HR := Lib.hid hr
 have hlen : xs.length = len := by simpa using hr.1
 have HL := Lib.hid hlen
 clear hi hr hlen
 go_enter Try.func171, Try.ntmps171
 go_wp2_with (first
  | (at_make; refine wpList_make_own (P := Try.prog) _ rfl _ _ 192 rfl w.heap.size 5 i0 (.int .u8 0) 1 Try.underlying192 hi0 hz0 hz1 .i64 .i64 (8 * (len : Int)) (8 * len) rfl rfl (by omega) (by rw [hz2]; omega) (by unfold maxLen; omega) (Nat.le_refl _) ?_; intro w1 hown0 hg0))
 have hb0 : Below w.heap.size w w1 := (Below.refl _ _).grown hg0 (Nat.le_refl _) (by intro k hk; cases hk)
 clear hg0
 go_loopw [3, 5, 6, 13, 17] (fun v _a _b t _c wr => ∃ j : Nat, j ≤ len ∧ t = .int .i64 j ∧ wr.ownsRow w.heap.size 5 1 v (8 * j) ((By.bytes (xs.take j)).map (Value.int .u8)) ∧ Below w.heap.size w wr) (fun _ _ _ t _ _ => len - (intOf t).toNat)
 case atStart => exact ⟨0, by omega, rfl, hown0, hb0⟩
 case round =>
  clear hown0 hb0
  obtain ⟨j, hj, rfl, hown, hbe⟩ := hrel
  have hsz := hbe.size
  by_cases hlt : j < len
  ·obtain ⟨b, off, z, rfl, hbl, hz, hwz, hc⟩ := HR.out.int HI.out hlt
   have hzb := bounds_u64 hwz
   have hc2 := (hbe.cell (p := ⟨b, off + j, none⟩) (by simp; omega)).trans hc
   have HT := Lib.hid (take_succ_of hz)
   clear hz hwz hc
   go_wp2_with fail
   go_loopw [3, 6, 17] (fun v _b t wr => ∃ k : Nat, k ≤ 8 ∧ t = .int .i64 k ∧ wr.ownsRow w.heap.size 5 1 v (8 * j + k) ((By.bytes (xs.take j) ++ By.bytesTo z k).map (Value.int .u8)) ∧ Below w.heap.size w wr) (fun _ _ t _ => 8 - (intOf t).toNat)
   case atStart => exact ⟨0, by omega, rfl, by rw [By.bytesTo_zero, List.append_nil]; exact hown, hbe⟩
   case round =>
    clear hown hbe hc2 hsz
    obtain ⟨k, hk, rfl, hown, hbe⟩ := hrel
    have hsz := hbe.size
    have hkb := By.rest_bd z k hzb.2
    have hbs := Lib.hid (By.bytesTo_succ z k)
    by_cases hlk : k < 8
    ·have hba : By.rest z k % 256 = By.byteAt z k := rfl
     have hbb := By.byteAt_bd z k
     have HBA := Lib.hid hba
     clear hba
     have hsh := By.rest_shr z k hzb.1
     go_wp2_with (first
      | (at_builtin; refine wpList_app1 (P := Try.prog) rfl (.tmp 20) (.tmp 27) 192 rfl w.heap.size 5 i0 (.int .u8 0) 1 Try.underlying192 hi0 hz0 hz1 hz2 rfl _ _ _ rfl hown _ _ rfl rfl (by unfold maxLen; omega) (by omega) hsz w.heap.size w hbe (Nat.le_refl _) ?_; intro v' w' hown' hbe' hlt' _))
     clear hsh
     go_roundw
     case rel =>
      refine ⟨k + 1, by omega, by go_num, ?_, hbe'⟩
      rw [hbs.out, ← List.append_assoc, By.map_snoc, ← HBA.out]
      exact hown'
     case measure => simp [intOf]; omega
    ·obtain rfl : k = 8 := by omega
     go_wp2_with fail
     go_roundw
     case rel =>
      refine ⟨j + 1, by omega, by go_num, ?_, hbe⟩
      rw [HT.out, By.bytes_snoc]
      exact hown
     case measure => simp [intOf]; omega
  ·go_wp2_with fail
   go_ret
   obtain rfl : j = len := by omega
   rw [List.take_of_length_le (by rw [HL.out]; exact Nat.le_refl _)] at hown
   exact ⟨_, rfl, hown, hbe⟩
end Go.Proofs.Ytlakbclnilakbaa
end

section
namespace Go.Proofs.Ytlakbclnilakbaa.Sl
open Go Go.RowKit
def sum (n q : Int) : Int := Cr.more 0 (By.bytes [n, q])
theorem sum_bd (n q : Int) : 0 ≤ Cr.more 0 (By.bytes [n, q]) ∧ Cr.more 0 (By.bytes [n, q]) ≤ 4294967295 := Cr.more_bd 0 _ (by omega) (by omega) (By.bytes_bd _)
def sealed (n p : Int) : Int := sum n (IntKind.u64.wrap p) * 4294967296 + n
theorem seal_bd (n p : Int) (h1 : 0 ≤ n) (h2 : n ≤ 4294967295) : 0 ≤ sealed n p ∧ sealed n p ≤ 18446744073709551615 := by
 have := sum_bd n (IntKind.u64.wrap p)
 unfold sealed sum; omega
theorem seal_mod (n p : Int) (h1 : 0 ≤ n) (h2 : n ≤ 4294967295) : sealed n p % 4294967296 = n := by unfold sealed; omega
theorem seal_def (n p q : Int) (hq : IntKind.u64.wrap p = q) : Cr.more 0 (By.bytes [n, q]) * 4294967296 + n = sealed n p := by unfold sealed sum; rw [hq]
theorem join32 (s n : Nat) (h : n < 4294967296) : s * 4294967296 ||| n = s * 4294967296 + n := by
 rw [Nat.mul_comm, show (4294967296 : Nat) = 2 ^ 32 from rfl, Nat.two_pow_add_eq_or_of_lt (by omega)]
theorem seal_code (n p q : Int) (h1 : 0 ≤ n) (h2 : n ≤ 4294967295) (hq : IntKind.u64.wrap p = q) : bits .or .u64 (Cr.more 0 (By.bytes [n, q]) * 4294967296) n = sealed n p := by
 rw [← seal_def n p q hq]
 have hb := sum_bd n q
 generalize Cr.more 0 (By.bytes [n, q]) = s at *
 obtain ⟨S, rfl⟩ := Int.eq_ofNat_of_zero_le hb.1
 obtain ⟨N, rfl⟩ := Int.eq_ofNat_of_zero_le h1
 have e : (S : Int) * 4294967296 = ((S * 4294967296 : Nat) : Int) := (Int.natCast_mul S 4294967296).symm
 rw [e, u64_or_nat _ _ (by omega) (by omega), join32 _ _ (by omega)]
 omega
def openB (x p : Int) : Bool := decide (sealed (x % 4294967296) p = x)
def openN (x p : Int) : Int := if openB x p then x % 4294967296 else 0
theorem openN_no (x p : Int) (h : openB x p = false) : openN x p = 0 := by unfold openN; rw [h]; rfl
theorem openN_yes (x p : Int) (h : openB x p = true) : openN x p = x % 4294967296 := by unfold openN; rw [h]; rfl
theorem openB_no (x p : Int) (h : openB x p = false) : (sealed (x % 4294967296) p != x) = true := by unfold openB at h; simpa using h
theorem openB_yes (x p : Int) (h : openB x p = true) : (sealed (x % 4294967296) p != x) = false := by unfold openB at h; simpa using h
theorem openB_no2 (x p : Int) (h : openB x p = false) : (sealed (x % 4294967296) p == x) = false := by unfold openB at h; simpa using h
theorem openB_yes2 (x p : Int) (h : openB x p = true) : (sealed (x % 4294967296) p == x) = true := by unfold openB at h; simpa using h
theorem open_seal (n p : Int) (h1 : 0 ≤ n) (h2 : n ≤ 4294967295) : openB (sealed n p) p = true ∧ openN (sealed n p) p = n := by
 have e : openB (sealed n p) p = true := by unfold openB; rw [seal_mod n p h1 h2]; simp
 exact ⟨e, by rw [openN_yes _ _ e, seal_mod n p h1 h2]⟩
end Go.Proofs.Ytlakbclnilakbaa.Sl
end

section
namespace Go.Proofs.Ytlakbclnilakbaa
open Go.RowKit
set_option maxHeartbeats 400000
theorem crcWords_any (A : Option Addr) (len cap : Nat) (xs : List Int) (B : Nat) (w : World) (hr : RowAt w B A len (xs.map (Value.int .u64))) (hi : Ints .u64 xs) (hl : len ≤ 1099511627776) (hB : B ≤ w.heap.size) :
  Calls Try.prog 165 #[.slice A len cap] w fun e w' => e = .returned (.int .u32 (Cr.more 0 (By.bytes xs))) ∧ Below w.heap.size w w' := by
 go_enter Try.func165, Try.ntmps165
 go_wp2_with fail
 refine (bytes_any A len cap xs B _ hr hi hl hB).mono ?_
 rintro e w1 ⟨v, rfl, hown, hb⟩
 obtain ⟨A', c', rfl, hc1, hc2, _⟩ := own_shape hown
 go_wp2_with fail
 refine (sum_any A' (8 * len) c' (By.bytes xs) _ _ (RowAt.of_own hown) (fun z hz => wf_u8 (By.bytes_bd xs z hz)) (by omega)).mono ?_
 rintro e w' ⟨rfl, rfl⟩
 go_wp2_with fail
 go_ret
 exact ⟨rfl, hb⟩
theorem rCrcWords_any (A : Option Addr) (len cap : Nat) (xs : List Int) (B : Nat) (w : World) (hr : RowAt w B A len (xs.map (Value.int .u64))) (hi : Ints .u64 xs) (hl : len ≤ 1099511627776) (hB : B ≤ w.heap.size) :
  Calls Try.prog 111 #[.slice A len cap] w fun e w' => e = .returned (.int .u32 (Cr.more 0 (By.bytes xs))) ∧ Below w.heap.size w w' := by
 go_enter Try.func111, Try.ntmps111
 go_wp2_with fail
 refine (rBytes_any A len cap xs B _ hr hi hl hB).mono ?_
 rintro e w1 ⟨v, rfl, hown, hb⟩
 obtain ⟨A', c', rfl, hc1, hc2, _⟩ := own_shape hown
 go_wp2_with fail
 refine (rMore_any 0 A' (8 * len) c' (By.bytes xs) _ _ (by omega) (by omega) (RowAt.of_own hown) (fun z hz => wf_u8 (By.bytes_bd xs z hz)) (by omega)).mono ?_
 rintro e w' ⟨rfl, rfl⟩
 go_wp2_with fail
 go_ret
 exact ⟨rfl, hb⟩
theorem two_row (w : World) (T : TypeId) (x y : Int) : RowAt (w.alloc (.cells #[.int .u64 x, .int .u64 y] T)) (w.heap.size + 1) (some ⟨w.heap.size, 0, none⟩) 2 ([x, y].map (Value.int .u64)) := by
 have h := RowAt.of_block (heap_alloc_new w (.cells #[.int .u64 x, .int .u64 y] T)) (by simp) (m := 2) rfl
 simpa using h
theorem seal_any (n p : Int) (w : World) (h1 : 0 ≤ n) (h2 : n ≤ 4294967295) (p1 : -9223372036854775808 ≤ p) (p2 : p ≤ 9223372036854775807) :
  Calls Try.prog 154 #[.int .u32 n, .int .i64 p] w fun e w' => e = .returned (.int .u64 (Sl.sealed n p)) ∧ Below w.heap.size w w' := by
 obtain ⟨q, hq⟩ : ∃ q, IntKind.u64.wrap p = q := ⟨_, rfl⟩
 have hqb : 0 ≤ q ∧ q ≤ 18446744073709551615 := by rw [← hq, IntKind.wrap_u64]; omega
 have HQ := Lib.hid hq
 have hcb := Sl.sum_bd n q
 have hfin := Lib.hid (Sl.seal_code n p q h1 h2 hq)
 go_enter Try.func154, Try.ntmps154
 go_wp2_with fail
 refine (crcWords_any _ 2 2 [n, q] _ _ (two_row w _ n q) (by intro z hz; simp at hz; rcases hz with rfl | rfl <;> exact wf_u64 (by omega)) (by omega) (by simp)).mono ?_
 rintro e w1 ⟨rfl, hb⟩
 go_wp2_with fail
 go_ret
 exact ⟨ret_int hfin.out, ((Below.refl _ _).alloc (Nat.le_refl _) _).trans (hb.mono (by simp))⟩
theorem rSeal_any (n p : Int) (w : World) (h1 : 0 ≤ n) (h2 : n ≤ 4294967295) (p1 : -9223372036854775808 ≤ p) (p2 : p ≤ 9223372036854775807) :
  Calls Try.prog 87 #[.int .u32 n, .int .i64 p] w fun e w' => e = .returned (.int .u64 (Sl.sealed n p)) ∧ Below w.heap.size w w' := by
 obtain ⟨q, hq⟩ : ∃ q, IntKind.u64.wrap p = q := ⟨_, rfl⟩
 have hqb : 0 ≤ q ∧ q ≤ 18446744073709551615 := by rw [← hq, IntKind.wrap_u64]; omega
 have HQ := Lib.hid hq
 have hcb := Sl.sum_bd n q
 have hfin := Lib.hid (Sl.seal_def n p q hq)
 go_enter Try.func87, Try.ntmps87
 go_wp2_with fail
 refine (rCrcWords_any _ 2 2 [n, q] _ _ (two_row w _ n q) (by intro z hz; simp at hz; rcases hz with rfl | rfl <;> exact wf_u64 (by omega)) (by omega) (by simp)).mono ?_
 rintro e w1 ⟨rfl, hb⟩
 go_wp2_with fail
 go_ret
 exact ⟨ret_int hfin.out, ((Below.refl _ _).alloc (Nat.le_refl _) _).trans (hb.mono (by simp))⟩
theorem open_any (x p : Int) (w : World) (h1 : 0 ≤ x) (h2 : x ≤ 18446744073709551615) (p1 : -9223372036854775808 ≤ p) (p2 : p ≤ 9223372036854775807) :
  Calls Try.prog 141 #[.int .u64 x, .int .i64 p] w fun e w' => e = .returned (.tuple #[.int .u32 (Sl.openN x p), .bool (Sl.openB x p)]) ∧ Below w.heap.size w w' := by
 cases hob : Sl.openB x p
 ·have hon := Sl.openN_no x p hob
  have ho := Sl.openB_no x p hob
  rw [hon]
  clear hob hon
  go_enter Try.func141, Try.ntmps141
  go_wp2_with (first | (go_at_call 154; refine (seal_any _ _ _ (by omega) (by omega) (by omega) (by omega)).mono ?_; rintro e w1 ⟨rfl, hb⟩))
  go_ret2
  exact ⟨rfl, hb⟩
 ·have hon := Sl.openN_yes x p hob
  have ho := Sl.openB_yes x p hob
  rw [hon]
  clear hob hon
  go_enter Try.func141, Try.ntmps141
  go_wp2_with (first | (go_at_call 154; refine (seal_any _ _ _ (by omega) (by omega) (by omega) (by omega)).mono ?_; rintro e w1 ⟨rfl, hb⟩))
  go_ret2
  exact ⟨rfl, hb⟩
theorem rOpen_any (x p : Int) (w : World) (h1 : 0 ≤ x) (h2 : x ≤ 18446744073709551615) (p1 : -9223372036854775808 ≤ p) (p2 : p ≤ 9223372036854775807) :
  Calls Try.prog 123 #[.int .u64 x, .int .i64 p] w fun e w' => e = .returned (.tuple #[.int .u32 (Sl.openN x p), .bool (Sl.openB x p)]) ∧ Below w.heap.size w w' := by
 cases hob : Sl.openB x p
 ·have hon := Sl.openN_no x p hob
  have ho := Sl.openB_no2 x p hob
  rw [hon]
  clear hob hon
  go_enter Try.func123, Try.ntmps123
  go_wp2_with (first | (go_at_call 87; refine (rSeal_any _ _ _ (by omega) (by omega) (by omega) (by omega)).mono ?_; rintro e w1 ⟨rfl, hb⟩))
  go_ret2
  exact ⟨rfl, hb⟩
 ·have hon := Sl.openN_yes x p hob
  have ho := Sl.openB_yes2 x p hob
  rw [hon]
  clear hob hon
  go_enter Try.func123, Try.ntmps123
  go_wp2_with (first | (go_at_call 87; refine (rSeal_any _ _ _ (by omega) (by omega) (by omega) (by omega)).mono ?_; rintro e w1 ⟨rfl, hb⟩))
  go_ret2
  exact ⟨rfl, hb⟩
end Go.Proofs.Ytlakbclnilakbaa
end

section
namespace Go.Proofs.Ytlakbclnilakbaa
open Go.RowKit
set_option maxHeartbeats 400000
theorem mask_any (k : Int) (w : World) (h1 : -9223372036854775808 ≤ k) (h2 : k ≤ 9223372036854775807) :
  Calls Try.prog 155 #[.int .i64 k] w fun e w' => e = .returned (.int .u64 (Bt.mask k)) ∧ w = w' := by
 by_cases a : k ≤ 0
 ·go_enter Try.func155, Try.ntmps155
  go_wp2
  go_ret
  exact ⟨ret_int (by rw [Bt.mask_le0 k a]), rfl⟩
 ·by_cases b : 64 ≤ k
  ·go_enter Try.func155, Try.ntmps155
   go_wp2
   go_ret
   exact ⟨ret_int (by rw [Bt.mask_ge k b]), rfl⟩
  ·go_enter Try.func155, Try.ntmps155
   go_wp2
   go_ret
   exact ⟨ret_int (Bt.mask_mid k (by omega) (by omega)), rfl⟩
theorem get_any (x a k : Int) (w : World) (x1 : 0 ≤ x) (x2 : x ≤ 18446744073709551615) (a1 : -9223372036854775808 ≤ a) (a2 : a ≤ 9223372036854775807) (h1 : -9223372036854775808 ≤ k) (h2 : k ≤ 9223372036854775807) :
  Calls Try.prog 142 #[.int .u64 x, .int .i64 a, .int .i64 k] w fun e w' => e = .returned (.int .u64 (Bt.get x a k)) ∧ w = w' := by
 have m1 := Bt.mask_nonneg k
 have m2 := Bt.mask_le k
 by_cases c : a < 0
 ·go_enter Try.func142, Try.ntmps142
  go_wp2_with fail
  go_ret
  exact ⟨ret_int (Bt.get_out x a k (.inl c)).symm, rfl⟩
 ·by_cases b : 64 ≤ a
  ·go_enter Try.func142, Try.ntmps142
   go_wp2_with fail
   go_ret
   exact ⟨ret_int (Bt.get_out x a k (.inr b)).symm, rfl⟩
  ·go_enter Try.func142, Try.ntmps142
   go_wp2_with fail
   refine (mask_any _ _ (by omega) (by omega)).mono ?_
   rintro e w' ⟨rfl, rfl⟩
   go_wp2_with fail
   go_ret
   exact ⟨ret_int (Bt.get_in x a k x1 x2 (by omega) (by omega)), rfl⟩
theorem put_any (x a k n : Int) (w : World) (x1 : 0 ≤ x) (x2 : x ≤ 18446744073709551615) (a1 : -9223372036854775808 ≤ a) (a2 : a ≤ 9223372036854775807) (h1 : -9223372036854775808 ≤ k) (h2 : k ≤ 9223372036854775807)
  (n1 : 0 ≤ n) (n2 : n ≤ 18446744073709551615) :
  Calls Try.prog 156 #[.int .u64 x, .int .i64 a, .int .i64 k, .int .u64 n] w fun e w' => e = .returned (.int .u64 (Bt.put x a k n)) ∧ w = w' := by
 have m1 := Bt.mask_nonneg k
 have m2 := Bt.mask_le k
 by_cases c : a < 0
 ·go_enter Try.func156, Try.ntmps156
  go_wp2_with fail
  go_ret
  exact ⟨ret_int (Bt.put_out x a k n x1 (.inl c)).symm, rfl⟩
 ·by_cases b : 64 ≤ a
  ·go_enter Try.func156, Try.ntmps156
   go_wp2_with fail
   go_ret
   exact ⟨ret_int (Bt.put_out x a k n x1 (.inr b)).symm, rfl⟩
  ·go_enter Try.func156, Try.ntmps156
   go_wp2_with fail
   refine (mask_any _ _ (by omega) (by omega)).mono ?_
   rintro e w' ⟨rfl, rfl⟩
   go_wp2_with fail
   go_ret
   exact ⟨ret_int (Bt.put_in x a k n x1 x2 n1 n2 (by omega) (by omega)), rfl⟩
end Go.Proofs.Ytlakbclnilakbaa
end

section
namespace Go.Proofs.Ytlakbclnilakbaa.Bt
open Go
theorem testBit_putN (x : Nat) (a k : Int) (n : Nat) (i : Nat) (h : 0 ≤ a) (h2 : a < 64) :
  (putN x a k n).testBit i = (decide (i < 64) && if a.toNat ≤ i ∧ i < a.toNat + k.toNat then n.testBit (i - a.toNat) else x.testBit i) := by
 unfold putN
 rw [if_pos ⟨h, h2⟩, testBit_ofBits]
end Go.Proofs.Ytlakbclnilakbaa.Bt
end

section
namespace Go.Proofs.Ytlakbclnilakbaa.Oh
open Go Go.RowKit
/-- a field above all bits that are there is added -/
theorem put_above (x a k n : Nat) (h : a + k ≤ 64) (ha : a < 64) (hx : x < 2 ^ a) (hn : n < 2 ^ k) : Bt.putN x a k n = 2 ^ a * n + x := by
 apply Nat.eq_of_testBit_eq
 intro i
 rw [Bt.testBit_putN _ _ _ _ _ (by omega) (by omega), Nat.testBit_two_pow_mul_add _ hx, Int.toNat_natCast, Int.toNat_natCast]
 by_cases h1 : i < a
 ·have c : ¬ (a ≤ i ∧ i < a + k) := by omega
  rw [if_neg c, if_pos h1]
  have : i < 64 := by omega
  simp [this]
 ·rw [if_neg h1]
  by_cases h2 : i < a + k
  ·rw [if_pos ⟨by omega, h2⟩]
   have : i < 64 := by omega
   simp [this]
  ·rw [if_neg (by omega)]
   have e1 : x.testBit i = false := Nat.testBit_lt_two_pow (Nat.lt_of_lt_of_le hx (Nat.pow_le_pow_right (by decide) (by omega)))
   have e2 : n.testBit (i - a) = false := Nat.testBit_lt_two_pow (Nat.lt_of_lt_of_le hn (Nat.pow_le_pow_right (by decide) (by omega)))
   rw [e1, e2]; simp
theorem put_add (x n : Int) (a k : Nat) (h : a + k ≤ 64) (ha : a < 64) (h0 : 0 ≤ x) (hx : x < 2 ^ a) (hn0 : 0 ≤ n) (hn : n < 2 ^ k) : Bt.put x a k n = 2 ^ a * n + x := by
 obtain ⟨X, rfl⟩ := Int.eq_ofNat_of_zero_le h0
 obtain ⟨N, rfl⟩ := Int.eq_ofNat_of_zero_le hn0
 rw [← Bt.pow_int] at *
 unfold Bt.put
 rw [Int.toNat_natCast, Int.toNat_natCast, put_above X a k N h ha (by omega) (by omega)]
 rw [Int.natCast_add, Int.natCast_mul]
theorem get_div (x : Int) (a k : Nat) (ha : a < 64) (hk : k ≤ 64) (h0 : 0 ≤ x) : Bt.get x a k = x / 2 ^ a % 2 ^ k := by
 obtain ⟨X, rfl⟩ := Int.eq_ofNat_of_zero_le h0
 unfold Bt.get Bt.getN
 rw [if_pos (by omega), Int.toNat_natCast, Int.toNat_natCast, Nat.shiftRight_eq_div_pow]
 have e : Bt.maskN k = 2 ^ k - 1 := by unfold Bt.maskN; rw [Int.toNat_natCast, Nat.min_eq_left hk]
 rw [e, Nat.and_two_pow_sub_one_eq_mod, ← Bt.pow_int, ← Bt.pow_int, Int.natCast_emod, Int.natCast_ediv]
/-! ## objects -/
theorem put_o (p d : Int) (h1 : 0 ≤ p) (h2 : p ≤ 63) (h3 : 0 ≤ d) (h4 : d ≤ 16384) :
  Bt.put 165 8 6 p = 165 + 256 * p ∧ Bt.put (165 + 256 * p) 14 15 d = 165 + 256 * p + 16384 * d := by
 have a := put_add 165 p 8 6 (by decide) (by decide) (by omega) (by decide) h1 (by omega)
 have b := put_add (165 + 256 * p) d 14 15 (by decide) (by decide) (by omega) (by omega) h3 (by omega)
 have e1 : ((8 : Nat) : Int) = 8 := rfl
 have e2 : ((6 : Nat) : Int) = 6 := rfl
 have e3 : ((14 : Nat) : Int) = 14 := rfl
 have e4 : ((15 : Nat) : Int) = 15 := rfl
 rw [e1, e2] at a
 rw [e3, e4] at b
 rw [a, b]
 omega
def enc (p d at_ : Int) : Int := if Cl.size p d = 0 then 0 else Sl.sealed (165 + 256 * p + 16384 * d) at_
theorem enc_bad (p d at_ : Int) (h : p < 0 ∨ p > 63 ∨ d < 0 ∨ d > 16384) : enc p d at_ = 0 := by unfold enc; rw [if_pos (Cl.size_bad p d h).1]
theorem enc_good (p d at_ : Int) (h1 : 0 ≤ p) (h2 : p ≤ 63) (h3 : 0 ≤ d) (h4 : d ≤ 16384) : enc p d at_ = Sl.sealed (165 + 256 * p + 16384 * d) at_ := by
 unfold enc; rw [if_neg (by rw [(Cl.size_good p d h1 h2 h3 h4).1]; omega)]
theorem enc_bd (p d at_ : Int) : 0 ≤ enc p d at_ ∧ enc p d at_ ≤ 18446744073709551615 := by
 by_cases h : p < 0 ∨ p > 63 ∨ d < 0 ∨ d > 16384
 ·rw [enc_bad p d at_ h]; omega
 ·rw [enc_good p d at_ (by omega) (by omega) (by omega) (by omega)]
  exact Sl.seal_bd _ _ (by omega) (by omega)
def rawP (x : Int) : Int := x % 4294967296 / 256 % 64
def rawD (x : Int) : Int := x % 4294967296 / 16384 % 32768
theorem raw_bd (x : Int) : 0 ≤ rawP x ∧ rawP x ≤ 63 ∧ 0 ≤ rawD x ∧ rawD x ≤ 32767 := by unfold rawP rawD; omega
theorem raw_get (x : Int) : Bt.get (x % 4294967296) 8 6 = rawP x ∧ Bt.get (x % 4294967296) 14 15 = rawD x := by
 have a := get_div (x % 4294967296) 8 6 (by decide) (by decide) (by omega)
 have b := get_div (x % 4294967296) 14 15 (by decide) (by decide) (by omega)
 exact ⟨a, b⟩
def decB (x at_ : Int) : Bool := Sl.openB x at_ && decide (enc (rawP x) (rawD x) at_ = x)
def decE (x at_ : Int) : Int := if Sl.openB x at_ then (if enc (rawP x) (rawD x) at_ = x then 0 else 26) else 25
def decP (x at_ : Int) : Int := if decB x at_ then rawP x else 0
def decD (x at_ : Int) : Int := if decB x at_ then rawD x else 0
theorem dec_closed (x at_ : Int) (h : Sl.openB x at_ = false) : decE x at_ = 25 ∧ decP x at_ = 0 ∧ decD x at_ = 0 := by
 unfold decE decP decD decB; rw [h]; simp
theorem dec_other (x at_ : Int) (h : Sl.openB x at_ = true) (h2 : enc (rawP x) (rawD x) at_ ≠ x) : decE x at_ = 26 ∧ decP x at_ = 0 ∧ decD x at_ = 0 := by
 unfold decE decP decD decB; rw [h]; simp [h2]
theorem dec_right (x at_ : Int) (h : Sl.openB x at_ = true) (h2 : enc (rawP x) (rawD x) at_ = x) : decE x at_ = 0 ∧ decP x at_ = rawP x ∧ decD x at_ = rawD x := by
 unfold decE decP decD decB; rw [h]; simp [h2]
theorem dec_none (x at_ : Int) (h : Cl.size (rawP x) (rawD x) = 0) (h0 : 0 ≤ x) : enc (rawP x) (rawD x) at_ ≠ x := by
 intro e
 unfold enc at e
 rw [if_pos h] at e
 have hx : x = 0 := e.symm
 rw [hx] at h
 revert h
 decide
theorem dec_enc (p d at_ : Int) (h1 : 0 ≤ p) (h2 : p ≤ 63) (h3 : 0 ≤ d) (h4 : d ≤ 16384) : decE (enc p d at_) at_ = 0 ∧ decP (enc p d at_) at_ = p ∧ decD (enc p d at_) at_ = d := by
 have e := enc_good p d at_ h1 h2 h3 h4
 have hm := Sl.seal_mod (165 + 256 * p + 16384 * d) at_ (by omega) (by omega)
 have ho := (Sl.open_seal (165 + 256 * p + 16384 * d) at_ (by omega) (by omega)).1
 have rp : rawP (enc p d at_) = p := by unfold rawP; rw [e, hm]; omega
 have rd : rawD (enc p d at_) = d := by unfold rawD; rw [e, hm]; omega
 have r := dec_right (enc p d at_) at_ (by rw [e]; exact ho) (by rw [rp, rd])
 rw [rp, rd] at r
 exact r
def inB (i n : Int) : Bool := decide (0 ≤ i ∧ i < n)
theorem inB_yes (i n : Int) (h : 0 ≤ i) (h2 : i < n) : inB i n = true := by unfold inB; simp; omega
theorem inB_no (i n : Int) (h : i < 0 ∨ n ≤ i) : inB i n = false := by unfold inB; simp; omega
end Go.Proofs.Ytlakbclnilakbaa.Oh
end

section
namespace Go.Proofs.Ytlakbclnilakbaa
open Go.RowKit
set_option maxHeartbeats 1000000
set_option maxRecDepth 100000
theorem bcell {W w1 : World} (hb : Below W.heap.size W w1) : (∀ b o, b < W.heap.size → w1.cell? ⟨b, o, none⟩ = W.cell? ⟨b, o, none⟩) ∧ (∀ b o, b < W.heap.size → w1.frozen? ⟨b, o, none⟩ = W.frozen? ⟨b, o, none⟩) :=
 ⟨fun b o h => hb.cell (p := ⟨b, o, none⟩) h, fun b o h => hb.frozen (p := ⟨b, o, none⟩) h⟩
theorem frozen_alloc_lt (w : World) (o : Obj) (p : Addr) (h : p.block < w.heap.size) : (w.alloc o).frozen? p = w.frozen? p := ((Below.refl w.heap.size w).alloc (Nat.le_refl _) o).frozen h
theorem box2 (w : World) (p d : Value) (T : TypeId) : (w.alloc (.cells #[p, d] T)).cell? ⟨w.heap.size, 0, none⟩ = some p ∧ (w.alloc (.cells #[p, d] T)).cell? ⟨w.heap.size, 1, none⟩ = some d ∧ Below w.heap.size w (w.alloc (.cells #[p, d] T)) :=
 ⟨by rw [Joins.cell_of_block (heap_alloc_new w _)]; rfl, by rw [Joins.cell_of_block (heap_alloc_new w _)]; rfl, (Below.refl _ _).alloc (Nat.le_refl _) _⟩
theorem oSize_any (p d : Int) (w : World) (h1 : -9223372036854775808 ≤ p) (h2 : p ≤ 9223372036854775807) (h3 : -9223372036854775808 ≤ d) (h4 : d ≤ 9223372036854775807) :
  Calls Try.prog 121 #[.agg #[.int .i64 p, .int .i64 d]] w fun e w' => e = .returned (.int .i64 (Cl.size p d)) ∧ Below w.heap.size w w' := by
 rcases (show (p < 0 ∨ p > 63 ∨ d < 0 ∨ d > 16384) ∨ (0 ≤ p ∧ p ≤ 63 ∧ 0 ≤ d ∧ d ≤ 16384) from by omega) with c | ⟨c1, c2, c3, c4⟩
 ·have e := Cl.size_bad p d c
  have e1 := e.1
  have e2 := e.2
  clear e c
  go_enter Try.func121, Try.ntmps121
  go_wp2_with (first
   | (go_at_call 144; refine (size_any _ _ _ (by omega) (by omega) (by omega) (by omega)).mono ?_; rintro e w' ⟨rfl, rfl⟩))
  go_ret
  exact ⟨ret_int e1.symm, by (repeat (first | exact Below.refl _ _ | (refine Below.alloc ?_ (by first | exact Nat.le_refl _ | (simp; done) | (simp; omega)) _)))⟩
 ·have e := Cl.size_good p d c1 c2 c3 c4
  have e1 := Lib.hid e.1
  have e2 := e.2
  clear e
  go_enter Try.func121, Try.ntmps121
  go_wp2_with (first
   | (go_at_call 144; refine (size_any _ _ _ (by omega) (by omega) (by omega) (by omega)).mono ?_; rintro e w' ⟨rfl, rfl⟩))
  go_ret
  exact ⟨rfl, by (repeat (first | exact Below.refl _ _ | (refine Below.alloc ?_ (by first | exact Nat.le_refl _ | (simp; done) | (simp; omega)) _)))⟩
theorem rOSize_any (p d : Int) (w : World) (h1 : -9223372036854775808 ≤ p) (h2 : p ≤ 9223372036854775807) (h3 : -9223372036854775808 ≤ d) (h4 : d ≤ 9223372036854775807) :
  Calls Try.prog 86 #[.agg #[.int .i64 p, .int .i64 d]] w fun e w' => e = .returned (.int .i64 (Cl.size p d)) ∧ Below w.heap.size w w' := by
 rcases (show p < 0 ∨ (0 ≤ p ∧ 63 < p) ∨ (0 ≤ p ∧ p ≤ 63 ∧ d < 0) ∨ (0 ≤ p ∧ p ≤ 63 ∧ 0 ≤ d ∧ 16384 < d) ∨ (0 ≤ p ∧ p ≤ 63 ∧ 0 ≤ d ∧ d ≤ 16384) from by omega) with c | ⟨c1, c2⟩ | ⟨c1, c2, c3⟩ | ⟨c1, c2, c3, c4⟩ | ⟨c1, c2, c3, c4⟩
 ·have e1 := Lib.hid (Cl.size_bad p d (by omega)).1
  go_enter Try.func86, Try.ntmps86
  go_wp2
  go_ret
  exact ⟨ret_int e1.out.symm, by (repeat (first | exact Below.refl _ _ | (refine Below.alloc ?_ (by first | exact Nat.le_refl _ | (simp; done) | (simp; omega)) _)))⟩
 ·have e1 := Lib.hid (Cl.size_bad p d (by omega)).1
  go_enter Try.func86, Try.ntmps86
  go_wp2
  go_ret
  exact ⟨ret_int e1.out.symm, by (repeat (first | exact Below.refl _ _ | (refine Below.alloc ?_ (by first | exact Nat.le_refl _ | (simp; done) | (simp; omega)) _)))⟩
 ·have e1 := Lib.hid (Cl.size_bad p d (by omega)).1
  go_enter Try.func86, Try.ntmps86
  go_wp2
  go_ret
  exact ⟨ret_int e1.out.symm, by (repeat (first | exact Below.refl _ _ | (refine Below.alloc ?_ (by first | exact Nat.le_refl _ | (simp; done) | (simp; omega)) _)))⟩
 ·have e1 := Lib.hid (Cl.size_bad p d (by omega)).1
  go_enter Try.func86, Try.ntmps86
  go_wp2
  go_ret
  exact ⟨ret_int e1.out.symm, by (repeat (first | exact Below.refl _ _ | (refine Below.alloc ?_ (by first | exact Nat.le_refl _ | (simp; done) | (simp; omega)) _)))⟩
 ·have e1 := Lib.hid (Cl.size_good p d c1 c2 c3 c4).1
  go_enter Try.func86, Try.ntmps86
  go_wp2
  go_ret
  exact ⟨ret_int e1.out.symm, by (repeat (first | exact Below.refl _ _ | (refine Below.alloc ?_ (by first | exact Nat.le_refl _ | (simp; done) | (simp; omega)) _)))⟩
theorem oEnc_any (p d at_ : Int) (w : World) (h1 : -9223372036854775808 ≤ p) (h2 : p ≤ 9223372036854775807) (h3 : -9223372036854775808 ≤ d) (h4 : d ≤ 9223372036854775807) (a1 : -9223372036854775808 ≤ at_) (a2 : at_ ≤ 9223372036854775807) :
  Calls Try.prog 143 #[.agg #[.int .i64 p, .int .i64 d], .int .i64 at_] w fun e w' => e = .returned (.int .u64 (Oh.enc p d at_)) ∧ Below w.heap.size w w' := by
 have hK := box2 w (.int .i64 p) (.int .i64 d) 149
 rcases (show (p < 0 ∨ p > 63 ∨ d < 0 ∨ d > 16384) ∨ (0 ≤ p ∧ p ≤ 63 ∧ 0 ≤ d ∧ d ≤ 16384) from by omega) with c | ⟨c1, c2, c3, c4⟩
 ·have e := Lib.hid (Oh.enc_bad p d at_ c)
  have es := (Cl.size_bad p d c).1
  clear c
  go_enter Try.func143, Try.ntmps143
  go_wp2_with (first
   | (go_at_call 121; refine (oSize_any _ _ _ (by omega) (by omega) (by omega) (by omega)).mono ?_; rintro e w' ⟨rfl, hb'⟩; first | (replace hK := keep2 hb' hK) | (replace hK := keep2 hb' (keepA2 _ hK)) | (replace hK := keep2 hb' (keepA2 _ (keepA2 _ hK))) | (replace hK := keep2 hb' (keepD2 hK)); clear hb'))
  go_ret
  exact ⟨ret_int e.out.symm, hK.2.2⟩
 ·have e := Lib.hid (Oh.enc_good p d at_ c1 c2 c3 c4)
  have es := Cl.size_good p d c1 c2 c3 c4
  have es1 := es.1
  have es2 : (1 + p + d == 0) = false := by simp; omega
  have eo := Oh.put_o p d c1 c2 c3 c4
  have eo1 := eo.1
  have eo2 := eo.2
  clear es eo
  go_enter Try.func143, Try.ntmps143
  go_wp2_with (first
   | (go_at_call 121; refine (oSize_any _ _ _ (by omega) (by omega) (by omega) (by omega)).mono ?_; rintro e w' ⟨rfl, hb'⟩; first | (replace hK := keep2 hb' hK) | (replace hK := keep2 hb' (keepA2 _ hK)) | (replace hK := keep2 hb' (keepA2 _ (keepA2 _ hK))) | (replace hK := keep2 hb' (keepD2 hK)); clear hb')
   | (go_at_call 156; refine (put_any _ _ _ _ _ (by omega) (by omega) (by omega) (by omega) (by omega) (by omega) (by omega) (by omega)).mono ?_; rintro e w' ⟨rfl, rfl⟩)
   | (go_at_call 154; refine (seal_any _ _ _ (by omega) (by omega) (by omega) (by omega)).mono ?_; rintro e w' ⟨rfl, hb'⟩; first | (replace hK := keep2 hb' hK) | (replace hK := keep2 hb' (keepA2 _ hK)) | (replace hK := keep2 hb' (keepA2 _ (keepA2 _ hK))) | (replace hK := keep2 hb' (keepD2 hK)); clear hb'))
  go_ret
  exact ⟨ret_int e.out.symm, hK.2.2⟩
theorem rOEnc_any (p d at_ : Int) (w : World) (h1 : -9223372036854775808 ≤ p) (h2 : p ≤ 9223372036854775807) (h3 : -9223372036854775808 ≤ d) (h4 : d ≤ 9223372036854775807) (a1 : -9223372036854775808 ≤ at_) (a2 : at_ ≤ 9223372036854775807) :
  Calls Try.prog 59 #[.agg #[.int .i64 p, .int .i64 d], .int .i64 at_] w fun e w' => e = .returned (.int .u64 (Oh.enc p d at_)) ∧ Below w.heap.size w w' := by
 have hK := box2 w (.int .i64 p) (.int .i64 d) 105
 rcases (show (p < 0 ∨ p > 63 ∨ d < 0 ∨ d > 16384) ∨ (0 ≤ p ∧ p ≤ 63 ∧ 0 ≤ d ∧ d ≤ 16384) from by omega) with c | ⟨c1, c2, c3, c4⟩
 ·have e := Lib.hid (Oh.enc_bad p d at_ c)
  have es := (Cl.size_bad p d c).1
  clear c
  go_enter Try.func59, Try.ntmps59
  go_wp2_with (first
   | (go_at_call 86; refine (rOSize_any _ _ _ (by omega) (by omega) (by omega) (by omega)).mono ?_; rintro e w' ⟨rfl, hb'⟩; first | (replace hK := keep2 hb' hK) | (replace hK := keep2 hb' (keepA2 _ hK)) | (replace hK := keep2 hb' (keepA2 _ (keepA2 _ hK))) | (replace hK := keep2 hb' (keepD2 hK)); clear hb'))
  go_ret
  exact ⟨ret_int e.out.symm, hK.2.2⟩
 ·have e := Lib.hid (Oh.enc_good p d at_ c1 c2 c3 c4)
  have es1 := (Cl.size_good p d c1 c2 c3 c4).1
  have es2 : (1 + p + d == 0) = false := by simp; omega
  go_enter Try.func59, Try.ntmps59
  go_wp2_with (first
   | (go_at_call 86; refine (rOSize_any _ _ _ (by omega) (by omega) (by omega) (by omega)).mono ?_; rintro e w' ⟨rfl, hb'⟩; first | (replace hK := keep2 hb' hK) | (replace hK := keep2 hb' (keepA2 _ hK)) | (replace hK := keep2 hb' (keepA2 _ (keepA2 _ hK))) | (replace hK := keep2 hb' (keepD2 hK)); clear hb')
   | (go_at_call 87; refine (rSeal_any _ _ _ (by omega) (by omega) (by omega) (by omega)).mono ?_; rintro e w' ⟨rfl, hb'⟩; first | (replace hK := keep2 hb' hK) | (replace hK := keep2 hb' (keepA2 _ hK)) | (replace hK := keep2 hb' (keepA2 _ (keepA2 _ hK))) | (replace hK := keep2 hb' (keepD2 hK)); clear hb'))
  go_ret
  exact ⟨ret_int e.out.symm, hK.2.2⟩
theorem oDec_any (at_ x : Int) (w : World) (a1 : -9223372036854775808 ≤ at_) (a2 : at_ ≤ 9223372036854775807) (h1 : 0 ≤ x) (h2 : x ≤ 18446744073709551615) :
  Calls Try.prog 119 #[.int .i64 at_, .int .u64 x] w fun e w' => e = .returned (.tuple #[.agg #[.int .i64 (Oh.decP x at_), .int .i64 (Oh.decD x at_)], .int .i64 (Oh.decE x at_)]) ∧ Below w.heap.size w w' := by
 have hr := Oh.raw_bd x
 have hg := Oh.raw_get x
 have hg1 := hg.1
 have hg2 := hg.2
 clear hg
 cases ho : Sl.openB x at_
 ·have e := Oh.dec_closed x at_ ho
  rw [e.1, e.2.1, e.2.2]
  have on := Sl.openN_no x at_ ho
  clear e
  go_enter Try.func119, Try.ntmps119
  go_wp2_with fail
  refine (open_any _ _ _ (by omega) (by omega) (by omega) (by omega)).mono ?_
  rintro e w1 ⟨rfl, hb⟩
  obtain ⟨hc, hf⟩ := bcell hb
  have hz : w.heap.size < w1.heap.size := by have := hb.size; simp at this; omega
  have hB : Below w.heap.size w w1 := ((Below.refl _ _).alloc (Nat.le_refl _) _).trans (hb.mono (by simp))
  go_wp2_with (first
   | (go_at_call 142; refine (get_any _ _ _ _ (by omega) (by omega) (by omega) (by omega) (by omega) (by omega)).mono ?_; rintro e w' ⟨rfl, rfl⟩))
  exact bodyPost_ret (v := .tuple #[.agg #[.int .i64 0, .int .i64 0], .int .i64 25]) (by simp [results, go_sem, Try.results119, hc]) rfl ⟨rfl, (hB.setCell (Nat.le_refl _) _).setCell (Nat.le_refl _) _⟩
 ·have on := Sl.openN_yes x at_ ho
  by_cases hq : Oh.enc (Oh.rawP x) (Oh.rawD x) at_ = x
  ·have e := Oh.dec_right x at_ ho hq
   rw [e.1, e.2.1, e.2.2]
   have hq2 : (Oh.enc (Oh.rawP x) (Oh.rawD x) at_ != x) = false := by simpa using hq
   clear e hq
   go_enter Try.func119, Try.ntmps119
   go_wp2_with fail
   refine (open_any _ _ _ (by omega) (by omega) (by omega) (by omega)).mono ?_
   rintro e w1 ⟨rfl, hb⟩
   obtain ⟨hc, hf⟩ := bcell hb
   have hz : w.heap.size < w1.heap.size := by have := hb.size; simp at this; omega
   have hB : Below w.heap.size w w1 := ((Below.refl _ _).alloc (Nat.le_refl _) _).trans (hb.mono (by simp))
   go_wp2_with (first
   | (go_at_call 142; refine (get_any _ _ _ _ (by omega) (by omega) (by omega) (by omega) (by omega) (by omega)).mono ?_; rintro e w' ⟨rfl, rfl⟩))
   refine (oEnc_any _ _ _ _ (by omega) (by omega) (by omega) (by omega) (by omega) (by omega)).mono ?_
   rintro e w2 ⟨rfl, hb2⟩
   obtain ⟨hc2, hf2⟩ := bcell hb2
   have hz2 : w1.heap.size < w2.heap.size := by have := hb2.size; first | omega | (simp at this; omega)
   go_wp2_with fail
   have hB2 : Below w.heap.size w w2 := (hB.alloc (by omega) _).trans (hb2.mono (by simp; omega))
   have q0 : w2.cell? ⟨w.heap.size, 0, none⟩ = some (.int .i64 0) := by rw [hc2 _ _ (by simp; omega), World.cell?_alloc_lt _ _ _ (by simpa using hz), hc _ _ (by simp)]; simp
   have q1 : w2.cell? ⟨w.heap.size, 1, none⟩ = some (.int .i64 0) := by rw [hc2 _ _ (by simp; omega), World.cell?_alloc_lt _ _ _ (by simpa using hz), hc _ _ (by simp)]; simp
   exact bodyPost_ret (v := .tuple #[.agg #[.int .i64 (Oh.rawP x), .int .i64 (Oh.rawD x)], .int .i64 0]) (by simp [results, go_sem, Try.results119, q0, q1]) rfl ⟨rfl, (hB2.setCell (Nat.le_refl _) _).setCell (Nat.le_refl _) _⟩
  ·have e := Oh.dec_other x at_ ho hq
   rw [e.1, e.2.1, e.2.2]
   have hq2 : (Oh.enc (Oh.rawP x) (Oh.rawD x) at_ != x) = true := by simpa using hq
   clear e hq
   go_enter Try.func119, Try.ntmps119
   go_wp2_with fail
   refine (open_any _ _ _ (by omega) (by omega) (by omega) (by omega)).mono ?_
   rintro e w1 ⟨rfl, hb⟩
   obtain ⟨hc, hf⟩ := bcell hb
   have hz : w.heap.size < w1.heap.size := by have := hb.size; simp at this; omega
   have hB : Below w.heap.size w w1 := ((Below.refl _ _).alloc (Nat.le_refl _) _).trans (hb.mono (by simp))
   go_wp2_with (first
   | (go_at_call 142; refine (get_any _ _ _ _ (by omega) (by omega) (by omega) (by omega) (by omega) (by omega)).mono ?_; rintro e w' ⟨rfl, rfl⟩))
   refine (oEnc_any _ _ _ _ (by omega) (by omega) (by omega) (by omega) (by omega) (by omega)).mono ?_
   rintro e w2 ⟨rfl, hb2⟩
   obtain ⟨hc2, hf2⟩ := bcell hb2
   have hz2 : w1.heap.size < w2.heap.size := by have := hb2.size; first | omega | (simp at this; omega)
   go_wp2_with fail
   have hB2 : Below w.heap.size w w2 := (hB.alloc (by omega) _).trans (hb2.mono (by simp; omega))
   have q0 : w2.cell? ⟨w.heap.size, 0, none⟩ = some (.int .i64 0) := by rw [hc2 _ _ (by simp; omega), World.cell?_alloc_lt _ _ _ (by simpa using hz), hc _ _ (by simp)]; simp
   have q1 : w2.cell? ⟨w.heap.size, 1, none⟩ = some (.int .i64 0) := by rw [hc2 _ _ (by simp; omega), World.cell?_alloc_lt _ _ _ (by simpa using hz), hc _ _ (by simp)]; simp
   exact bodyPost_ret (v := .tuple #[.agg #[.int .i64 0, .int .i64 0], .int .i64 26]) (by simp [results, go_sem, Try.results119, q0, q1]) rfl ⟨rfl, (hB2.setCell (Nat.le_refl _) _).setCell (Nat.le_refl _) _⟩
theorem rODec_any (at_ x : Int) (w : World) (a1 : -9223372036854775808 ≤ at_) (a2 : at_ ≤ 9223372036854775807) (h1 : 0 ≤ x) (h2 : x ≤ 18446744073709551615) :
  Calls Try.prog 93 #[.int .i64 at_, .int .u64 x] w fun e w' => e = .returned (.tuple #[.agg #[.int .i64 (Oh.decP x at_), .int .i64 (Oh.decD x at_)], .int .i64 (Oh.decE x at_)]) ∧ Below w.heap.size w w' := by
 have hr := Oh.raw_bd x
 have hg1 : x % 4294967296 / 256 % 64 = Oh.rawP x := rfl
 have hg2 : x % 4294967296 / 16384 % 32768 = Oh.rawD x := rfl
 cases ho : Sl.openB x at_
 ·have e := Oh.dec_closed x at_ ho
  rw [e.1, e.2.1, e.2.2]
  have on := Sl.openN_no x at_ ho
  clear e
  go_enter Try.func93, Try.ntmps93
  go_wp2_with fail
  refine (rOpen_any _ _ _ (by omega) (by omega) (by omega) (by omega)).mono ?_
  rintro e w1 ⟨rfl, hb⟩
  obtain ⟨hc, hf⟩ := bcell hb
  have hz : w.heap.size < w1.heap.size := by have := hb.size; simp at this; omega
  have hB : Below w.heap.size w w1 := ((Below.refl _ _).alloc (Nat.le_refl _) _).trans (hb.mono (by simp))
  go_wp2_with fail
  exact bodyPost_ret (v := .tuple #[.agg #[.int .i64 0, .int .i64 0], .int .i64 25]) (by simp [results, go_sem, Try.results93, hc]) rfl ⟨rfl, (hB.setCell (Nat.le_refl _) _).setCell (Nat.le_refl _) _⟩
 ·have on := Sl.openN_yes x at_ ho
  by_cases hs : Cl.size (Oh.rawP x) (Oh.rawD x) = 0
  ·have e := Oh.dec_other x at_ ho (Oh.dec_none x at_ hs h1)
   rw [e.1, e.2.1, e.2.2]
   clear e
   go_enter Try.func93, Try.ntmps93
   go_wp2_with fail
   refine (rOpen_any _ _ _ (by omega) (by omega) (by omega) (by omega)).mono ?_
   rintro e w1 ⟨rfl, hb⟩
   obtain ⟨hc, hf⟩ := bcell hb
   have hz : w.heap.size < w1.heap.size := by have := hb.size; simp at this; omega
   have hB : Below w.heap.size w w1 := ((Below.refl _ _).alloc (Nat.le_refl _) _).trans (hb.mono (by simp))
   go_wp2_with fail
   refine (rOSize_any _ _ _ (by omega) (by omega) (by omega) (by omega)).mono ?_
   rintro e w2 ⟨rfl, hb2⟩
   obtain ⟨hc2, hf2⟩ := bcell hb2
   have hz2 : w1.heap.size < w2.heap.size := by have := hb2.size; first | omega | (simp at this; omega)
   have q0 : w2.cell? ⟨w.heap.size, 0, none⟩ = some (.int .i64 0) := by rw [hc2 _ _ (by simp; omega), World.cell?_alloc_lt _ _ _ (by simpa using hz), hc _ _ (by simp)]; simp
   have q1 : w2.cell? ⟨w.heap.size, 1, none⟩ = some (.int .i64 0) := by rw [hc2 _ _ (by simp; omega), World.cell?_alloc_lt _ _ _ (by simpa using hz), hc _ _ (by simp)]; simp
   have r0 : w2.cell? ⟨w1.heap.size, 0, none⟩ = some (.int .i64 (Oh.rawP x)) := by rw [hc2 _ _ (by simp)]; simp
   have r1 : w2.cell? ⟨w1.heap.size, 1, none⟩ = some (.int .i64 (Oh.rawD x)) := by rw [hc2 _ _ (by simp)]; simp
   have f0 : ∀ o, w2.frozen? ⟨w.heap.size, o, none⟩ = false := fun o => by rw [hf2 _ _ (by simp; omega), frozen_alloc_lt _ _ _ (by simpa using hz), hf _ _ (by simp)]; simp
   clear hc hf hc2 hf2
   go_wp2_with fail
   have hB2 : Below w.heap.size w w2 := (hB.alloc (by omega) _).trans (hb2.mono (by simp; omega))
   exact bodyPost_ret (v := .tuple #[.agg #[.int .i64 0, .int .i64 0], .int .i64 26]) (by simp [results, go_sem, Try.results93, q0, q1]) rfl ⟨rfl, (hB2.setCell (Nat.le_refl _) _).setCell (Nat.le_refl _) _⟩
  ·have hs2 : (Cl.size (Oh.rawP x) (Oh.rawD x) == 0) = false := by simpa using hs
   clear hs
   by_cases hq : Oh.enc (Oh.rawP x) (Oh.rawD x) at_ = x
   ·have e := Oh.dec_right x at_ ho hq
    rw [e.1, e.2.1, e.2.2]
    have hq2 : (Oh.enc (Oh.rawP x) (Oh.rawD x) at_ != x) = false := by simpa using hq
    clear e hq
    go_enter Try.func93, Try.ntmps93
    go_wp2_with fail
    refine (rOpen_any _ _ _ (by omega) (by omega) (by omega) (by omega)).mono ?_
    rintro e w1 ⟨rfl, hb⟩
    obtain ⟨hc, hf⟩ := bcell hb
    have hz : w.heap.size < w1.heap.size := by have := hb.size; simp at this; omega
    have hB : Below w.heap.size w w1 := ((Below.refl _ _).alloc (Nat.le_refl _) _).trans (hb.mono (by simp))
    go_wp2_with fail
    refine (rOSize_any _ _ _ (by omega) (by omega) (by omega) (by omega)).mono ?_
    rintro e w2 ⟨rfl, hb2⟩
    obtain ⟨hc2, hf2⟩ := bcell hb2
    have hz2 : w1.heap.size < w2.heap.size := by have := hb2.size; first | omega | (simp at this; omega)
    have q0 : w2.cell? ⟨w.heap.size, 0, none⟩ = some (.int .i64 0) := by rw [hc2 _ _ (by simp; omega), World.cell?_alloc_lt _ _ _ (by simpa using hz), hc _ _ (by simp)]; simp
    have q1 : w2.cell? ⟨w.heap.size, 1, none⟩ = some (.int .i64 0) := by rw [hc2 _ _ (by simp; omega), World.cell?_alloc_lt _ _ _ (by simpa using hz), hc _ _ (by simp)]; simp
    have r0 : w2.cell? ⟨w1.heap.size, 0, none⟩ = some (.int .i64 (Oh.rawP x)) := by rw [hc2 _ _ (by simp)]; simp
    have r1 : w2.cell? ⟨w1.heap.size, 1, none⟩ = some (.int .i64 (Oh.rawD x)) := by rw [hc2 _ _ (by simp)]; simp
    have f0 : ∀ o, w2.frozen? ⟨w.heap.size, o, none⟩ = false := fun o => by rw [hf2 _ _ (by simp; omega), frozen_alloc_lt _ _ _ (by simpa using hz), hf _ _ (by simp)]; simp
    clear hc hf hc2 hf2
    go_wp2_with fail
    have hB2 : Below w.heap.size w w2 := (hB.alloc (by omega) _).trans (hb2.mono (by simp; omega))
    refine (rOEnc_any _ _ _ _ (by omega) (by omega) (by omega) (by omega) (by omega) (by omega)).mono ?_
    rintro e w3 ⟨rfl, hb3⟩
    obtain ⟨hc3, hf3⟩ := bcell hb3
    have hz3 : w1.heap.size < w3.heap.size := by have := hb3.size; first | omega | (simp at this; omega)
    have q30 := (hc3 w.heap.size 0 (by omega)).trans q0
    have q31 := (hc3 w.heap.size 1 (by omega)).trans q1
    have r30 := (hc3 w1.heap.size 0 (by omega)).trans r0
    have r31 := (hc3 w1.heap.size 1 (by omega)).trans r1
    have f30 : ∀ o, w3.frozen? ⟨w.heap.size, o, none⟩ = false := fun o => (hf3 w.heap.size o (by omega)).trans (f0 o)
    clear hc3 hf3
    go_wp2_with fail
    have hB3 : Below w.heap.size w w3 := hB2.trans (hb3.mono (by have := hb2.size; simp at this; omega))
    exact bodyPost_ret (v := .tuple #[.agg #[.int .i64 (Oh.rawP x), .int .i64 (Oh.rawD x)], .int .i64 0]) (by simp [results, go_sem, Try.results93, q30, q31]) rfl ⟨rfl, (hB3.setCell (Nat.le_refl _) _).setCell (Nat.le_refl _) _⟩
   ·have e := Oh.dec_other x at_ ho hq
    rw [e.1, e.2.1, e.2.2]
    have hq2 : (Oh.enc (Oh.rawP x) (Oh.rawD x) at_ != x) = true := by simpa using hq
    clear e hq
    go_enter Try.func93, Try.ntmps93
    go_wp2_with fail
    refine (rOpen_any _ _ _ (by omega) (by omega) (by omega) (by omega)).mono ?_
    rintro e w1 ⟨rfl, hb⟩
    obtain ⟨hc, hf⟩ := bcell hb
    have hz : w.heap.size < w1.heap.size := by have := hb.size; simp at this; omega
    have hB : Below w.heap.size w w1 := ((Below.refl _ _).alloc (Nat.le_refl _) _).trans (hb.mono (by simp))
    go_wp2_with fail
    refine (rOSize_any _ _ _ (by omega) (by omega) (by omega) (by omega)).mono ?_
    rintro e w2 ⟨rfl, hb2⟩
    obtain ⟨hc2, hf2⟩ := bcell hb2
    have hz2 : w1.heap.size < w2.heap.size := by have := hb2.size; first | omega | (simp at this; omega)
    have q0 : w2.cell? ⟨w.heap.size, 0, none⟩ = some (.int .i64 0) := by rw [hc2 _ _ (by simp; omega), World.cell?_alloc_lt _ _ _ (by simpa using hz), hc _ _ (by simp)]; simp
    have q1 : w2.cell? ⟨w.heap.size, 1, none⟩ = some (.int .i64 0) := by rw [hc2 _ _ (by simp; omega), World.cell?_alloc_lt _ _ _ (by simpa using hz), hc _ _ (by simp)]; simp
    have r0 : w2.cell? ⟨w1.heap.size, 0, none⟩ = some (.int .i64 (Oh.rawP x)) := by rw [hc2 _ _ (by simp)]; simp
    have r1 : w2.cell? ⟨w1.heap.size, 1, none⟩ = some (.int .i64 (Oh.rawD x)) := by rw [hc2 _ _ (by simp)]; simp
    have f0 : ∀ o, w2.frozen? ⟨w.heap.size, o, none⟩ = false := fun o => by rw [hf2 _ _ (by simp; omega), frozen_alloc_lt _ _ _ (by simpa using hz), hf _ _ (by simp)]; simp
    clear hc hf hc2 hf2
    go_wp2_with fail
    have hB2 : Below w.heap.size w w2 := (hB.alloc (by omega) _).trans (hb2.mono (by simp; omega))
    refine (rOEnc_any _ _ _ _ (by omega) (by omega) (by omega) (by omega) (by omega) (by omega)).mono ?_
    rintro e w3 ⟨rfl, hb3⟩
    obtain ⟨hc3, hf3⟩ := bcell hb3
    have hz3 : w1.heap.size < w3.heap.size := by have := hb3.size; first | omega | (simp at this; omega)
    have q30 := (hc3 w.heap.size 0 (by omega)).trans q0
    have q31 := (hc3 w.heap.size 1 (by omega)).trans q1
    have r30 := (hc3 w1.heap.size 0 (by omega)).trans r0
    have r31 := (hc3 w1.heap.size 1 (by omega)).trans r1
    have f30 : ∀ o, w3.frozen? ⟨w.heap.size, o, none⟩ = false := fun o => (hf3 w.heap.size o (by omega)).trans (f0 o)
    clear hc3 hf3
    go_wp2_with fail
    have hB3 : Below w.heap.size w w3 := hB2.trans (hb3.mono (by have := hb2.size; simp at this; omega))
    exact bodyPost_ret (v := .tuple #[.agg #[.int .i64 0, .int .i64 0], .int .i64 26]) (by simp [results, go_sem, Try.results93, q30, q31]) rfl ⟨rfl, (hB3.setCell (Nat.le_refl _) _).setCell (Nat.le_refl _) _⟩
end Go.Proofs.Ytlakbclnilakbaa
end

section
namespace Go.Proofs.Ytlakbclnilakbaa
open Go.RowKit
end Go.Proofs.Ytlakbclnilakbaa
end

section
namespace Go.Proofs.Ytlakbclnilakbaa
open Go.RowKit
set_option maxHeartbeats 1000000
set_option maxRecDepth 100000
theorem oPtr_any (p d i : Int) (w : World) (p1 : 0 ≤ p) (p2 : p ≤ 63) (d1 : 0 ≤ d) (d2 : d ≤ 16384) (h1 : -100000 ≤ i) (h2 : i ≤ 100000) :
  Calls Try.prog 145 #[.agg #[.int .i64 p, .int .i64 d], .int .i64 i] w fun e w' => e = .returned (.tuple #[.int .i64 (1 + i), .bool (Oh.inB i p)]) ∧ Below w.heap.size w w' := by
 have hK := box2 w (.int .i64 p) (.int .i64 d) 149
 rcases (show i < 0 ∨ (0 ≤ i ∧ i < p) ∨ (0 ≤ i ∧ p ≤ i) from by omega) with c | ⟨c1, c2⟩ | ⟨c1, c2⟩
 ·have e := Lib.hid (Oh.inB_no i p (.inl c))
  have g : decide (0 ≤ i) = false := by simp; omega
  go_enter Try.func145, Try.ntmps145
  go_wp2_with fail
  go_quiet (fail)
  go_wp2_with fail
  go_ret2
  exact ⟨ret_ib rfl e.out.symm, below_drewN hK.2.2 _⟩
 ·have e := Lib.hid (Oh.inB_yes i p c1 c2)
  go_enter Try.func145, Try.ntmps145
  go_wp2_with fail
  go_quiet (fail)
  go_wp2_with fail
  go_ret2
  exact ⟨ret_ib rfl (by rw [e.out]), below_drewN hK.2.2 _⟩
 ·have e := Lib.hid (Oh.inB_no i p (.inr c2))
  go_enter Try.func145, Try.ntmps145
  go_wp2_with fail
  go_quiet (fail)
  go_wp2_with fail
  go_ret2
  exact ⟨ret_ib rfl (by rw [e.out]; first | rfl | (simp; done) | (simp; omega)), below_drewN hK.2.2 _⟩
end Go.Proofs.Ytlakbclnilakbaa
end

section
namespace Go.Proofs.Ytlakbclnilakbaa
open Go.RowKit
set_option maxHeartbeats 400000
end Go.Proofs.Ytlakbclnilakbaa
end

section
namespace Go.Proofs.Ytlakbclnilakbaa.Bt
open Go

/-! ## ones -/
def pop (x : Nat) : Nat → Nat
 | 0 => 0
 | m + 1 => x % 2 + pop (x / 2) m
theorem pop_split (a : Nat) : ∀ (b x : Nat), pop x (a + b) = pop (x % 2 ^ a) a + pop (x / 2 ^ a) b := by
 induction a with
 | zero => intro b x; simp [pop]
 | succ a ih =>
  intro b x
  rw [show a + 1 + b = (a + b) + 1 from by omega, pop, ih, pop]
  have e1 : x % 2 ^ (a + 1) % 2 = x % 2 := by
   rw [Nat.pow_succ, Nat.mul_comm]; exact Nat.mod_mul_right_mod x 2 (2 ^ a)
  have e2 : x % 2 ^ (a + 1) / 2 = x / 2 % 2 ^ a := by
   rw [Nat.pow_succ, Nat.mul_comm]; exact Nat.mod_mul_right_div_self x 2 (2 ^ a)
  have e3 : x / 2 / 2 ^ a = x / 2 ^ (a + 1) := by rw [Nat.div_div_eq_div_mul, Nat.pow_succ, Nat.mul_comm]
  rw [e1, e2, e3]; omega
theorem f1 : ∀ b < 2, ∀ l < 128, (128 * b + l) &&& 85 = l &&& 85 := by decide +kernel
theorem f2 : ∀ b < 4, ∀ l < 64, (64 * b + l) &&& 51 = l &&& 51 := by decide +kernel
theorem f3 : ∀ b < 5, ∀ l < 73, (16 * b + l) &&& 15 = l &&& 15 := by decide +kernel
end Go.Proofs.Ytlakbclnilakbaa.Bt
end

section
namespace Go.Proofs.Ytlakbclnilakbaa.Bt
open Go Go.RowKit
/-! ## the least one -/
def low (x : Nat) : Nat → Nat
 | 0 => 0
 | m + 1 => if x % 2 = 1 then 0 else 1 + low (x / 2) m
def lowest (x : Int) : Int := (low x.toNat 64 : Nat)
end Go.Proofs.Ytlakbclnilakbaa.Bt
end

section
namespace Go.Proofs.Ytlakbclnilakbaa.Bt
open Go Go.RowKit
/-! ## the greatest one -/
def hb (x : Nat) : Nat := if x = 0 then 0 else Nat.log2 x + 1
/-! ## turning -/
def rs (r : Nat) : Nat := r * 2 % 18446744073709551616 + r / 9223372036854775808
/-! ## pieces -/
def up (n size : Int) : Int := if n ≤ 0 ∨ size ≤ 0 then 0 else (n - 1) / size + 1
theorem up_bd (n size : Int) (h : n ≤ 9223372036854775807) : 0 ≤ up n size ∧ up n size ≤ 9223372036854775807 := by
 unfold up
 split
 ·omega
 ·rename_i h2
  have a : (n - 1) / size ≤ n - 1 := Int.ediv_le_self _ (by omega)
  have b : 0 ≤ (n - 1) / size := Int.ediv_nonneg (by omega) (by omega)
  omega
theorem up_out (n size : Int) (h : n ≤ 0 ∨ size ≤ 0) : up n size = 0 := by unfold up; rw [if_pos h]
theorem up_in (n size : Int) (h : 0 < n) (h2 : 0 < size) (h3 : n ≤ 9223372036854775807) : wrap64 ((n - 1) / size + 1) = up n size := by
 have := up_bd n size h3
 unfold up at *
 rw [if_neg (by omega)] at *
 unfold wrap64
 omega
end Go.Proofs.Ytlakbclnilakbaa.Bt
end

section
namespace Go.Proofs.Ytlakbclnilakbaa
open Go.RowKit
set_option maxHeartbeats 400000
theorem up_any (n b : Int) (w : World) (x1 : -9223372036854775808 ≤ n) (x2 : n ≤ 9223372036854775807) (a1 : -9223372036854775808 ≤ b) (a2 : b ≤ 9223372036854775807) :
  Calls Try.prog 88 #[.int .i64 n, .int .i64 b] w fun e w' => e = .returned (.int .i64 (Bt.up n b)) ∧ w = w' := by
 by_cases h1 : n ≤ 0
 ·go_enter Try.func88, Try.ntmps88
  go_wp2_with fail
  go_ret
  exact ⟨ret_int (Bt.up_out n b (.inl h1)).symm, rfl⟩
 ·by_cases h2 : b ≤ 0
  ·go_enter Try.func88, Try.ntmps88
   go_wp2_with fail
   go_ret
   exact ⟨ret_int (Bt.up_out n b (.inr h2)).symm, rfl⟩
  ·go_enter Try.func88, Try.ntmps88
   go_wp2_with fail
   go_ret
   exact ⟨ret_int (Bt.up_in n b (by omega) (by omega) x2), rfl⟩
end Go.Proofs.Ytlakbclnilakbaa
end

section
namespace Go.Proofs.Ytlakbclnilakbaa
open Go.RowKit
set_option maxHeartbeats 1000000
set_option maxRecDepth 100000
theorem oSmall_any (p d : Int) (w : World) (h1 : -9223372036854775808 ≤ p) (h2 : p ≤ 9223372036854775807) (h3 : -9223372036854775808 ≤ d) (h4 : d ≤ 9223372036854775807) :
  Calls Try.prog 113 #[.agg #[.int .i64 p, .int .i64 d]] w fun e w' => e = .returned (.tuple #[.int .i64 (Cl.ofK (Cl.size p d)), .bool (Cl.ofB (Cl.size p d))]) ∧ Below w.heap.size w w' := by
 have hs := Cl.size_bd p d
 have hK := box2 w (.int .i64 p) (.int .i64 d) 149
 go_enter Try.func113, Try.ntmps113
 go_wp2_with (first
   | (go_at_call 121; refine (oSize_any _ _ _ (by omega) (by omega) (by omega) (by omega)).mono ?_; rintro e w' ⟨rfl, hb'⟩; first | (replace hK := keep2 hb' hK) | (replace hK := keep2 hb' (keepA2 _ hK)) | (replace hK := keep2 hb' (keepA2 _ (keepA2 _ hK))) | (replace hK := keep2 hb' (keepD2 hK)); clear hb')
   | (go_at_call 137; refine (of_any _ _ (by omega) (by omega)).mono ?_; rintro e w' ⟨rfl, hb'⟩; first | (replace hK := keep2 hb' hK) | (replace hK := keep2 hb' (keepA2 _ hK)) | (replace hK := keep2 hb' (keepA2 _ (keepA2 _ hK))) | (replace hK := keep2 hb' (keepD2 hK)); clear hb'))
 go_ret2
 exact ⟨rfl, hK.2.2⟩
def Oh.need (n : Int) : Int := if n < 1 then 0 else (n + 511) / 512
theorem Oh.up_need (n : Int) (h : 0 ≤ n) (h2 : n ≤ 100000) : Bt.up n 512 = Oh.need n := by
 unfold Oh.need
 by_cases c : n < 1
 ·rw [if_pos c, Bt.up_out n 512 (by omega)]
 ·unfold Bt.up; rw [if_neg c, if_neg (by omega)]; omega
def Oh.blocks (p d : Int) : Int := if Cl.ofB (Cl.size p d) then 0 else Oh.need (Cl.size p d)
theorem Oh.blocks_small (p d : Int) (h : Cl.ofB (Cl.size p d) = true) : Oh.blocks p d = 0 := by unfold Oh.blocks; rw [if_pos h]
theorem Oh.blocks_large (p d : Int) (h : Cl.ofB (Cl.size p d) = false) : Oh.blocks p d = Oh.need (Cl.size p d) := by unfold Oh.blocks; rw [if_neg (by simp [h])]
theorem oBlocks_any (p d : Int) (w : World) (h1 : -9223372036854775808 ≤ p) (h2 : p ≤ 9223372036854775807) (h3 : -9223372036854775808 ≤ d) (h4 : d ≤ 9223372036854775807) :
  Calls Try.prog 117 #[.agg #[.int .i64 p, .int .i64 d]] w fun e w' => e = .returned (.int .i64 (Oh.blocks p d)) ∧ Below w.heap.size w w' := by
 have hs := Cl.size_bd p d
 have hK := box2 w (.int .i64 p) (.int .i64 d) 149
 cases hb : Cl.ofB (Cl.size p d)
 ·have eb := Lib.hid ((Oh.blocks_large p d hb).trans (Oh.up_need _ (by omega) (by omega)).symm)
  go_enter Try.func117, Try.ntmps117
  go_wp2_with (first
   | (go_at_call 113; refine (oSmall_any _ _ _ (by omega) (by omega) (by omega) (by omega)).mono ?_; rintro e w' ⟨rfl, hb'⟩; first | (replace hK := keep2 hb' hK) | (replace hK := keep2 hb' (keepA2 _ hK)) | (replace hK := keep2 hb' (keepA2 _ (keepA2 _ hK))) | (replace hK := keep2 hb' (keepD2 hK)); clear hb')
   | (go_at_call 121; refine (oSize_any _ _ _ (by omega) (by omega) (by omega) (by omega)).mono ?_; rintro e w' ⟨rfl, hb'⟩; first | (replace hK := keep2 hb' hK) | (replace hK := keep2 hb' (keepA2 _ hK)) | (replace hK := keep2 hb' (keepA2 _ (keepA2 _ hK))) | (replace hK := keep2 hb' (keepD2 hK)); clear hb')
   | (go_at_call 88; refine (up_any _ _ _ (by omega) (by omega) (by omega) (by omega)).mono ?_; rintro e w' ⟨rfl, rfl⟩))
  go_ret
  exact ⟨ret_int eb.out.symm, hK.2.2⟩
 ·have eb := Lib.hid (Oh.blocks_small p d hb)
  go_enter Try.func117, Try.ntmps117
  go_wp2_with (first
   | (go_at_call 113; refine (oSmall_any _ _ _ (by omega) (by omega) (by omega) (by omega)).mono ?_; rintro e w' ⟨rfl, hb'⟩; first | (replace hK := keep2 hb' hK) | (replace hK := keep2 hb' (keepA2 _ hK)) | (replace hK := keep2 hb' (keepA2 _ (keepA2 _ hK))) | (replace hK := keep2 hb' (keepD2 hK)); clear hb')
   | (go_at_call 121; refine (oSize_any _ _ _ (by omega) (by omega) (by omega) (by omega)).mono ?_; rintro e w' ⟨rfl, hb'⟩; first | (replace hK := keep2 hb' hK) | (replace hK := keep2 hb' (keepA2 _ hK)) | (replace hK := keep2 hb' (keepA2 _ (keepA2 _ hK))) | (replace hK := keep2 hb' (keepD2 hK)); clear hb')
   | (go_at_call 88; refine (up_any _ _ _ (by omega) (by omega) (by omega) (by omega)).mono ?_; rintro e w' ⟨rfl, rfl⟩))
  go_ret
  exact ⟨ret_int eb.out.symm, hK.2.2⟩
end Go.Proofs.Ytlakbclnilakbaa
end

section
namespace Go.Proofs.Ytlakbclnilakbaa.Ce
open Go Go.RowKit
def first (n bl : Int) : Int := if 0 ≤ bl ∧ bl < n then bl * 512 else -1
theorem first_out (n bl : Int) (h : bl < 0 ∨ n ≤ bl) : first n bl = -1 := by unfold first; rw [if_neg (by omega)]
theorem first_in (n bl : Int) (h : 0 ≤ bl) (h2 : bl < n) : first n bl = bl * 512 := by unfold first; rw [if_pos ⟨h, h2⟩]
def address (n k b i : Int) : Int := if 0 ≤ k ∧ k < 32 ∧ 1 ≤ b ∧ b < n ∧ 0 ≤ i ∧ i < Cl.cells k then b * 512 + i * Cl.words k else -1
theorem address_in (n k b i : Int) (h1 : 0 ≤ k) (h2 : k < 32) (h3 : 1 ≤ b) (h4 : b < n) (h5 : 0 ≤ i) (h6 : i < Cl.cells k) : address n k b i = b * 512 + i * Cl.words k := by unfold address; rw [if_pos ⟨h1, h2, h3, h4, h5, h6⟩]
theorem address_out (n k b i : Int) (h : ¬ (0 ≤ k ∧ k < 32 ∧ 1 ≤ b ∧ b < n ∧ 0 ≤ i ∧ i < Cl.cells k)) : address n k b i = -1 := by unfold address; rw [if_neg h]
theorem addr_code (b x : Int) (h : 0 ≤ b) (h2 : b ≤ 1000000) (h3 : 0 ≤ x) (h4 : x ≤ 512) : IntKind.i64.wrap (b * 512 + IntKind.i64.wrap x) = b * 512 + x := by
 rw [IntKind.wrap_i64, IntKind.wrap_i64]; omega
theorem mul_bd (k i : Int) (h1 : 0 ≤ k) (h2 : k < 32) (h5 : 0 ≤ i) (h6 : i < Cl.cells k) : 0 ≤ i * Cl.words k ∧ i * Cl.words k + Cl.words k ≤ 512 := by
 have hp := Cl.words_pos k h1 h2
 have a := (Cl.cells_more k i h1 h2 h5).2 h6
 rw [Int.add_mul, Int.one_mul] at a
 exact ⟨Int.mul_nonneg h5 (by omega), a⟩
/-- the addresses of a block's cells -/
def all (n k b : Int) : List Int := if 1 ≤ b ∧ b < n then (List.range (Cl.cells k).toNat).map fun (i : Nat) => 512 * b + (i : Int) * Cl.words k else []
/-- an address is within the cell i just if i is the quotient -/
theorem within (a k i : Int) (h3 : 0 ≤ k) (h4 : k < 32) (hi : 0 ≤ i) (ha : 0 ≤ a) (hc : i < Cl.cells k) :
  (512 * (a / 512) + i * Cl.words k ≤ a ∧ a < 512 * (a / 512) + i * Cl.words k + Cl.words k) ↔ a % 512 / Cl.words k = i := by
 have hw := Cl.words_pos k h3 h4
 have e := Int.mul_ediv_add_emod (a % 512) (Cl.words k)
 have b1 := Int.emod_nonneg (a % 512) (show Cl.words k ≠ 0 by omega)
 have b2 := Int.emod_lt_of_pos (a % 512) (show 0 < Cl.words k by omega)
 have s : a = 512 * (a / 512) + a % 512 := by omega
 constructor
 ·rintro ⟨g1, g2⟩
  have g3 : i * Cl.words k ≤ a % 512 := by omega
  have g4 : a % 512 < (i + 1) * Cl.words k := by rw [Int.add_mul, Int.one_mul]; omega
  have l1 : i ≤ a % 512 / Cl.words k := (Int.le_ediv_iff_mul_le (by omega)).2 g3
  have l2 : a % 512 / Cl.words k < i + 1 := Int.ediv_lt_of_lt_mul (by omega) g4
  omega
 ·rintro rfl
  rw [Int.mul_comm (a % 512 / Cl.words k)]
  omega
end Go.Proofs.Ytlakbclnilakbaa.Ce
end

section
namespace Go.Proofs.Ytlakbclnilakbaa
open Go.RowKit
set_option maxHeartbeats 400000
set_option maxRecDepth 100000
def blockOf (n at_ : Int) : Int := if 0 ≤ at_ ∧ at_ < 512 * n then at_ / 512 else -1
theorem gBlockOf_any (n at_ : Int) (w : World) (h1 : 0 ≤ n) (h2 : n ≤ 1000000) (a1 : -9223372036854775808 ≤ at_) (a2 : at_ ≤ 9223372036854775807) :
  Calls Try.prog 112 #[.agg #[.int .i64 n], .int .i64 at_] w fun e w' => e = .returned (.int .i64 (blockOf n at_)) ∧ Below w.heap.size w w' := by
 by_cases c1 : at_ < 0
 ·have e := Lib.hid (show blockOf n at_ = -1 by unfold blockOf; rw [if_neg (by omega)])
  go_enter Try.func112, Try.ntmps112
  go_wp2
  go_ret
  exact ⟨ret_int e.out.symm, by (repeat (first | exact Below.refl _ _ | (refine Below.alloc ?_ (by first | exact Nat.le_refl _ | (simp; done) | (simp; omega)) _)))⟩
 ·by_cases c2 : at_ < 512 * n
  ·have e := Lib.hid (show blockOf n at_ = at_ / 512 by unfold blockOf; rw [if_pos (by omega)])
   go_enter Try.func112, Try.ntmps112
   go_wp2
   go_ret
   exact ⟨ret_int e.out.symm, by (repeat (first | exact Below.refl _ _ | (refine Below.alloc ?_ (by first | exact Nat.le_refl _ | (simp; done) | (simp; omega)) _)))⟩
  ·have e := Lib.hid (show blockOf n at_ = -1 by unfold blockOf; rw [if_neg (by omega)])
   go_enter Try.func112, Try.ntmps112
   go_wp2
   go_ret
   exact ⟨ret_int e.out.symm, by (repeat (first | exact Below.refl _ _ | (refine Below.alloc ?_ (by first | exact Nat.le_refl _ | (simp; done) | (simp; omega)) _)))⟩
def dataB (n at_ : Int) : Bool := decide (1 ≤ blockOf n at_)
theorem gData_any (n at_ : Int) (w : World) (h1 : 0 ≤ n) (h2 : n ≤ 1000000) (a1 : -9223372036854775808 ≤ at_) (a2 : at_ ≤ 9223372036854775807) :
  Calls Try.prog 138 #[.agg #[.int .i64 n], .int .i64 at_] w fun e w' => e = .returned (.bool (dataB n at_)) ∧ Below w.heap.size w w' := by
 go_enter Try.func138, Try.ntmps138
 go_wp2_with (first
  | (go_at_call 112; refine (gBlockOf_any _ _ _ (by omega) (by omega) (by omega) (by omega)).mono ?_; rintro e w1 ⟨rfl, hb⟩))
 go_ret
 exact ⟨rfl, ((Below.refl _ _).alloc (Nat.le_refl _) _).trans (hb.mono (by simp))⟩
end Go.Proofs.Ytlakbclnilakbaa
end

section
namespace Go.Proofs.Ytlakbclnilakbaa.Ob
def W64 (c : List Int) : Prop := ∀ x ∈ c, 0 ≤ x ∧ x ≤ 18446744073709551615
theorem get_bd {c : List Int} (h : W64 c) (a : Int) : 0 ≤ Nv.get c a ∧ Nv.get c a ≤ 18446744073709551615 := by
 unfold Nv.get
 split
 ·rename_i h1
  rw [List.getD_eq_getElem?_getD, List.getElem?_eq_getElem (by omega)]
  exact h _ (List.getElem_mem _)
 ·omega
/-- is there an object at an address? -/
def hd (c : List Int) (a : Int) : Bool :=
 decide (0 ≤ a ∧ a < (c.length : Int)) && (decide (Oh.decE (Nv.get c a) a = 0) && decide (Cl.size (Oh.decP (Nv.get c a) a) (Oh.decD (Nv.get c a) a) ≤ (c.length : Int) - a))
def hp (c : List Int) (a : Int) : Int := if hd c a = true then Oh.decP (Nv.get c a) a else 0
def hq (c : List Int) (a : Int) : Int := if hd c a = true then Oh.decD (Nv.get c a) a else 0
def he (c : List Int) (a : Int) : Int := if hd c a = true then 0 else 22
def pAt (c : List Int) (i : Int) : Int := min (Nv.get c i) 1099511627776
def ptrsTo (c : List Int) (a : Int) (k : Nat) : List Int := (List.range k).map fun (i : Nat) => pAt c (a + (1 + (i : Int)))
def ptrs (c : List Int) (a : Int) : List Int := ptrsTo c a (hp c a).toNat
theorem ptrsTo_succ (c : List Int) (a : Int) (k : Nat) : ptrsTo c a (k + 1) = ptrsTo c a k ++ [pAt c (a + (1 + (k : Int)))] := by
 unfold ptrsTo; rw [List.range_succ, List.map_append]; rfl
theorem ptrsTo_len (c : List Int) (a : Int) (k : Nat) : (ptrsTo c a k).length = k := by simp [ptrsTo]
theorem pAt_bd {c : List Int} (h : W64 c) (i : Int) : 0 ≤ pAt c i ∧ pAt c i ≤ 1099511627776 := by have := get_bd h i; unfold pAt; omega
theorem ptrs_bd {c : List Int} (h : W64 c) (a : Int) : ∀ x ∈ ptrs c a, 0 ≤ x ∧ x ≤ 1099511627776 := fun x hx => by
 unfold ptrs ptrsTo at hx
 obtain ⟨i, _, rfl⟩ := List.mem_map.1 hx
 exact pAt_bd h _
theorem hd_yes {c : List Int} {a : Int} (h : hd c a = true) : (0 ≤ a ∧ a < (c.length : Int)) ∧ Oh.decE (Nv.get c a) a = 0 ∧ Cl.size (Oh.decP (Nv.get c a) a) (Oh.decD (Nv.get c a) a) ≤ (c.length : Int) - a := by
 unfold hd at h
 simp only [Bool.and_eq_true, decide_eq_true_eq] at h
 exact h
theorem hd_out {c : List Int} {a : Int} (h : ¬ (0 ≤ a ∧ a < (c.length : Int))) : hd c a = false := by unfold hd; rw [decide_eq_false h, Bool.false_and]
theorem hd_bad {c : List Int} {a : Int} (h : Oh.decE (Nv.get c a) a ≠ 0) : hd c a = false := by unfold hd; rw [decide_eq_false h, Bool.false_and, Bool.and_false]
theorem hd_far {c : List Int} {a : Int} (h : ¬ Cl.size (Oh.decP (Nv.get c a) a) (Oh.decD (Nv.get c a) a) ≤ (c.length : Int) - a) : hd c a = false := by unfold hd; rw [decide_eq_false h, Bool.and_false, Bool.and_false]
theorem hd_mk {c : List Int} {a : Int} (h1 : 0 ≤ a ∧ a < (c.length : Int)) (h2 : Oh.decE (Nv.get c a) a = 0) (h3 : Cl.size (Oh.decP (Nv.get c a) a) (Oh.decD (Nv.get c a) a) ≤ (c.length : Int) - a) : hd c a = true := by
 unfold hd; rw [decide_eq_true h1, decide_eq_true h2, decide_eq_true h3]; rfl
/-- what a right object's fields are -/
theorem dec_bd (x a : Int) (h0 : 0 ≤ x) : 0 ≤ Oh.decP x a ∧ Oh.decP x a ≤ 63 ∧ 0 ≤ Oh.decD x a ∧ Oh.decD x a ≤ 16384 := by
 have hr := Oh.raw_bd x
 cases ho : Sl.openB x a with
 | false => have := Oh.dec_closed x a ho; omega
 | true =>
  by_cases h2 : Oh.enc (Oh.rawP x) (Oh.rawD x) a = x
  ·obtain ⟨_, e1, e2⟩ := Oh.dec_right x a ho h2
   have : Cl.size (Oh.rawP x) (Oh.rawD x) ≠ 0 := fun h => Oh.dec_none x a h h0 h2
   unfold Cl.size at this
   split at this
   ·exact absurd rfl this
   ·omega
  ·have := Oh.dec_other x a ho h2; omega
theorem hp_bd {c : List Int} (h : W64 c) (a : Int) : 0 ≤ hp c a ∧ hp c a ≤ 63 ∧ 0 ≤ hq c a ∧ hq c a ≤ 16384 := by
 have := dec_bd (Nv.get c a) a (get_bd h a).1
 unfold hp hq
 split <;> omega
/-- a block's header -/
abbrev H3 := Int × Int × Int
def hcell (h : H3) : List Value := [.int .i64 h.1, .int .i64 h.2.1, .int .i64 h.2.2]
def wholeTo (hs : List H3) (b n : Nat) : Bool := (List.range n).all fun (i : Nat) => decide (i = 0) || decide (hs[b + i]? = some (3, 0, (i : Int)))
def whole (hs : List H3) (b : Nat) : Bool :=
 match hs[b]? with
 | none => false
 | some h => decide (h.1 = 2) && (decide (1 ≤ h.2.2 ∧ h.2.2 ≤ (hs.length : Int) - (b : Int)) && wholeTo hs b h.2.2.toNat)
def wlen (hs : List H3) (b : Nat) : Int := if whole hs b = true then (match hs[b]? with | none => 0 | some h => h.2.2) else 0
theorem wholeTo_succ (hs : List H3) (b n : Nat) : wholeTo hs b (n + 1) = (wholeTo hs b n && (decide (n = 0) || decide (hs[b + n]? = some (3, 0, (n : Int))))) := by
 unfold wholeTo; rw [List.range_succ, List.all_append]; simp
theorem wholeTo_mono {hs : List H3} {b n m : Nat} (h : wholeTo hs b m = true) (hn : n ≤ m) : wholeTo hs b n = true := by
 unfold wholeTo at h ⊢
 rw [List.all_eq_true] at h ⊢
 intro i hi
 exact h i (List.mem_range.2 (Nat.lt_of_lt_of_le (List.mem_range.1 hi) hn))
/-- does an object lie at an address, among blocks with these headers? -/
def plAt (n : Nat) (c : List Int) (hs : List H3) (a : Int) (h : H3) : Bool :=
 if Cl.ofB (Cl.size (hp c a) (hq c a)) = true then (Ce.address n (Cl.ofK (Cl.size (hp c a) (hq c a))) (a / 512) (a % 512 / Cl.words (Cl.ofK (Cl.size (hp c a) (hq c a)))) == a) && decide (h = (1, Cl.ofK (Cl.size (hp c a) (hq c a)), 0))
 else whole hs (a / 512).toNat && (decide (a = Ce.first n (a / 512)) && decide (h.2.2 = Oh.blocks (hp c a) (hq c a)))
def pl (n : Nat) (c : List Int) (hs : List H3) (a : Int) : Bool :=
 decide (512 ≤ a ∧ a < 512 * (n : Int)) && (hd c a && (match hs[(a / 512).toNat]? with | none => false | some h => plAt n c hs a h))
theorem pl_yes {n : Nat} {c : List Int} {hs : List H3} {a : Int} (h : pl n c hs a = true) : 512 ≤ a ∧ a < 512 * (n : Int) ∧ hd c a = true := by
 unfold pl at h
 simp only [Bool.and_eq_true, decide_eq_true_eq] at h
 exact ⟨h.1.1, h.1.2, h.2.1⟩
end Go.Proofs.Ytlakbclnilakbaa.Ob
end

section
namespace Go.Proofs.Ytlakbclnilakbaa
open Go.RowKit
set_option maxHeartbeats 1000000
set_option maxRecDepth 100000
theorem gFirst_any (n bl : Int) (w : World) (h1 : -9223372036854775808 ≤ bl) (h3 : n ≤ 1000000) :
  Calls Try.prog 116 #[.agg #[.int .i64 n], .int .i64 bl] w fun e w' => e = .returned (.int .i64 (Ce.first n bl)) ∧ Below w.heap.size w w' := by
 by_cases c1 : bl < 0
 ·have e := Lib.hid (Ce.first_out n bl (.inl c1))
  go_enter Try.func116, Try.ntmps116
  go_wp2
  go_ret
  exact ⟨ret_int e.out.symm, by (repeat (first | exact Below.refl _ _ | (refine Below.alloc ?_ (by first | exact Nat.le_refl _ | (simp; done) | (simp; omega)) _)))⟩
 ·by_cases c2 : bl < n
  ·have e := Lib.hid (Ce.first_in n bl (by omega) c2)
   go_enter Try.func116, Try.ntmps116
   go_wp2
   go_ret
   exact ⟨ret_int e.out.symm, by (repeat (first | exact Below.refl _ _ | (refine Below.alloc ?_ (by first | exact Nat.le_refl _ | (simp; done) | (simp; omega)) _)))⟩
  ·have e := Lib.hid (Ce.first_out n bl (.inr (by omega)))
   go_enter Try.func116, Try.ntmps116
   go_wp2
   go_ret
   exact ⟨ret_int e.out.symm, by (repeat (first | exact Below.refl _ _ | (refine Below.alloc ?_ (by first | exact Nat.le_refl _ | (simp; done) | (simp; omega)) _)))⟩
theorem addrS_keep {w : World} {n b i : Int} {W w' : World} (hb : Below W.heap.size W w')
  (h : W.cell? ⟨w.heap.size, 0, none⟩ = some (.int .i64 n) ∧ W.cell? ⟨w.heap.size + 1, 0, none⟩ = some (.int .i64 b) ∧ W.cell? ⟨w.heap.size + 1, 1, none⟩ = some (.int .i64 i) ∧ w.heap.size + 1 < W.heap.size ∧ Below w.heap.size w W) :
  w'.cell? ⟨w.heap.size, 0, none⟩ = some (.int .i64 n) ∧ w'.cell? ⟨w.heap.size + 1, 0, none⟩ = some (.int .i64 b) ∧ w'.cell? ⟨w.heap.size + 1, 1, none⟩ = some (.int .i64 i) ∧ w.heap.size + 1 < w'.heap.size ∧ Below w.heap.size w w' := by
 obtain ⟨h1, h2, h3, h4, h5⟩ := h
 have hs := hb.size
 exact ⟨(hb.cell (p := ⟨w.heap.size, 0, none⟩) (by simp; omega)).trans h1, (hb.cell (p := ⟨w.heap.size + 1, 0, none⟩) (by simp; omega)).trans h2, (hb.cell (p := ⟨w.heap.size + 1, 1, none⟩) (by simp; omega)).trans h3, by omega, h5.trans (hb.mono (by omega))⟩
theorem addrS_drew {w : World} {n b i : Int} {W : World}
  (h : W.cell? ⟨w.heap.size, 0, none⟩ = some (.int .i64 n) ∧ W.cell? ⟨w.heap.size + 1, 0, none⟩ = some (.int .i64 b) ∧ W.cell? ⟨w.heap.size + 1, 1, none⟩ = some (.int .i64 i) ∧ w.heap.size + 1 < W.heap.size ∧ Below w.heap.size w W) :
  W.drew.cell? ⟨w.heap.size, 0, none⟩ = some (.int .i64 n) ∧ W.drew.cell? ⟨w.heap.size + 1, 0, none⟩ = some (.int .i64 b) ∧ W.drew.cell? ⟨w.heap.size + 1, 1, none⟩ = some (.int .i64 i) ∧ w.heap.size + 1 < W.drew.heap.size ∧ Below w.heap.size w W.drew :=
 ⟨h.1, h.2.1, h.2.2.1, h.2.2.2.1, h.2.2.2.2.drew⟩
theorem address_any (n k b i : Int) (w : World) (h0 : 0 ≤ n) (h3 : n ≤ 1000000) (k1 : -9223372036854775808 ≤ k) (k2 : k ≤ 9223372036854775807) (b1 : -9223372036854775808 ≤ b) (b2 : b ≤ 9223372036854775807) (i1 : -9223372036854775808 ≤ i) (i2 : i ≤ 9223372036854775807) :
  Calls Try.prog 140 #[.agg #[.int .i64 n], .int .i64 k, .agg #[.int .i64 b, .int .i64 i]] w fun e w' => e = .returned (.int .i64 (Ce.address n k b i)) ∧ Below w.heap.size w w' := by
 have hB : Below w.heap.size w ((w.alloc (.cells #[.int .i64 n] 48)).alloc (.cells #[.int .i64 b, .int .i64 i] 173)) := ((Below.refl _ _).alloc (Nat.le_refl _) _).alloc (by simp) _
 have hwb := Cl.words_bd k
 have hcb := Cl.cells_bd k
 rcases (show (0 ≤ k ∧ k < 32 ∧ 1 ≤ b ∧ b < n ∧ 0 ≤ i ∧ i < Cl.cells k) ∨ (k < 0 ∨ 32 ≤ k) ∨ (0 ≤ k ∧ k < 32 ∧ b < 1) ∨ (0 ≤ k ∧ k < 32 ∧ 1 ≤ b ∧ n ≤ b) ∨ (0 ≤ k ∧ k < 32 ∧ 1 ≤ b ∧ b < n ∧ i < 0) ∨ (0 ≤ k ∧ k < 32 ∧ 1 ≤ b ∧ b < n ∧ 0 ≤ i ∧ Cl.cells k ≤ i) from by omega) with
  ⟨c0, c1, c2, c3, c4, c5⟩ | c1 | ⟨c0, c1, c2⟩ | ⟨c0, c1, c2, c3⟩ | ⟨c0, c1, c2, c3, c4⟩ | ⟨c0, c1, c2, c3, c4, c5⟩
 ·have hr := Cl.rightB_yes k c0 c1
  have e := Lib.hid (Ce.address_in n k b i c0 c1 c2 c3 c4 c5)
  have ef := Ce.first_in n b (by omega) c3
  have hm := Ce.mul_bd k i c0 c1 c4 c5
  have d1 : decide (b < 1) = false := by simp; omega
  have d2 : decide (n ≤ b) = false := by simp; omega
  have d3 : decide (i < 0) = false := by simp; omega
  have d4 : decide (Cl.cells k ≤ i) = false := by simp; omega
  go_enter Try.func140, Try.ntmps140
  go_wp2_with fail
  go_region_held3 (fun w' => w'.cell? ⟨w.heap.size, 0, none⟩ = some (.int .i64 n) ∧ w'.cell? ⟨w.heap.size + 1, 0, none⟩ = some (.int .i64 b) ∧ w'.cell? ⟨w.heap.size + 1, 1, none⟩ = some (.int .i64 i) ∧ w.heap.size + 1 < w'.heap.size ∧ Below w.heap.size w w')
   (first | assumption | (refine ⟨?_, ?_, ?_, ?_, ?_⟩ <;> first | exact hB.drew | (simp; done)))
   (first
    | (go_at_call 52; refine (right_any _ _ (by omega) (by omega)).mono ?_; rintro e w' ⟨rfl, rfl⟩)
    | (go_at_call 153; refine (cells_any _ _ (by omega) (by omega)).mono ?_; rintro e w' ⟨rfl, hb'⟩; have hS' := addrS_keep hb' (by assumption)))
  go_wp2_with fail
  go_region_held3 (fun w' => w'.cell? ⟨w.heap.size, 0, none⟩ = some (.int .i64 n) ∧ w'.cell? ⟨w.heap.size + 1, 0, none⟩ = some (.int .i64 b) ∧ w'.cell? ⟨w.heap.size + 1, 1, none⟩ = some (.int .i64 i) ∧ w.heap.size + 1 < w'.heap.size ∧ Below w.heap.size w w')
   (first | assumption | exact addrS_drew (by assumption))
   (first
    | (go_at_call 116; refine (gFirst_any _ _ _ (by omega) (by omega)).mono ?_; rintro e w' ⟨rfl, hb'⟩; have hS' := addrS_keep hb' (by assumption))
    | (go_at_call 139; refine (words_any _ _ (by omega) (by omega)).mono ?_; rintro e w' ⟨rfl, hb'⟩; have hS' := addrS_keep hb' (by assumption)))
  go_wp2
  go_ret
  exact ⟨ret_int (by rw [e.out]; exact Ce.addr_code b _ (by omega) (by omega) (by omega) (by omega)), hS'.2.2.2.2⟩
 ·have e := Lib.hid (Ce.address_out n k b i (by omega))
  have hr := Cl.rightB_no k c1
  go_enter Try.func140, Try.ntmps140
  go_wp2_with fail
  go_quiet ((go_at_call 52; exact Calls.quiet_of_same (quiet_l (right_any _ _ (by omega) (by omega)))))
  go_wp2_with fail
  go_ret
  exact ⟨ret_int e.out.symm, below_drewN hB _⟩
 ·have e := Lib.hid (Ce.address_out n k b i (by omega))
  have hr := Cl.rightB_yes k c0 c1
  have d1 : decide (b < 1) = true := by simpa using c2
  go_enter Try.func140, Try.ntmps140
  go_wp2_with fail
  go_quiet ((go_at_call 52; exact Calls.quiet_of_same (quiet_l (right_any _ _ (by omega) (by omega)))))
  go_wp2_with fail
  go_ret
  exact ⟨ret_int e.out.symm, below_drewN hB _⟩
 ·have e := Lib.hid (Ce.address_out n k b i (by omega))
  have hr := Cl.rightB_yes k c0 c1
  have d1 : decide (b < 1) = false := by simp; omega
  have d2 : decide (n ≤ b) = true := by simpa using c3
  go_enter Try.func140, Try.ntmps140
  go_wp2_with fail
  go_quiet ((go_at_call 52; exact Calls.quiet_of_same (quiet_l (right_any _ _ (by omega) (by omega)))))
  go_wp2_with fail
  go_ret
  exact ⟨ret_int e.out.symm, below_drewN hB _⟩
 ·have e := Lib.hid (Ce.address_out n k b i (by omega))
  have hr := Cl.rightB_yes k c0 c1
  have d1 : decide (b < 1) = false := by simp; omega
  have d2 : decide (n ≤ b) = false := by simp; omega
  have d3 : decide (i < 0) = true := by simpa using c4
  go_enter Try.func140, Try.ntmps140
  go_wp2_with fail
  go_quiet ((go_at_call 52; exact Calls.quiet_of_same (quiet_l (right_any _ _ (by omega) (by omega)))))
  go_wp2_with fail
  go_ret
  exact ⟨ret_int e.out.symm, below_drewN hB _⟩
 ·have e := Lib.hid (Ce.address_out n k b i (by omega))
  have hr := Cl.rightB_yes k c0 c1
  have d1 : decide (b < 1) = false := by simp; omega
  have d2 : decide (n ≤ b) = false := by simp; omega
  have d3 : decide (i < 0) = false := by simp; omega
  have d4 : decide (Cl.cells k ≤ i) = true := by simpa using c5
  go_enter Try.func140, Try.ntmps140
  go_wp2_with fail
  go_region_held3 (fun w' => w'.cell? ⟨w.heap.size, 0, none⟩ = some (.int .i64 n) ∧ w'.cell? ⟨w.heap.size + 1, 0, none⟩ = some (.int .i64 b) ∧ w'.cell? ⟨w.heap.size + 1, 1, none⟩ = some (.int .i64 i) ∧ w.heap.size + 1 < w'.heap.size ∧ Below w.heap.size w w')
   (first | assumption | (refine ⟨?_, ?_, ?_, ?_, ?_⟩ <;> first | exact hB.drew | (simp; done)))
   (first
    | (go_at_call 52; refine (right_any _ _ (by omega) (by omega)).mono ?_; rintro e w' ⟨rfl, rfl⟩)
    | (go_at_call 153; refine (cells_any _ _ (by omega) (by omega)).mono ?_; rintro e w' ⟨rfl, hb'⟩; have hS' := addrS_keep hb' (by assumption)))
  go_wp2_with fail
  go_ret
  exact ⟨ret_int e.out.symm, by first | assumption | exact (by assumption : _ ∧ _ ∧ _ ∧ _ ∧ Below w.heap.size w _).2.2.2.2⟩
end Go.Proofs.Ytlakbclnilakbaa
end

section
namespace Go.Proofs.Ytlakbclnilakbaa.Xp
open Go Go.RowKit
def okC (l c k : Int) : Prop := 0 ≤ l ∧ l ≤ 65536 ∧ 1 ≤ c ∧ c ≤ 256 ∧ 0 ≤ k
instance (l c k : Int) : Decidable (okC l c k) := by unfold okC; infer_instance
/-- the number of digits, the lowest first -/
def nval (c : Int) : List Int → Int
 | [] => 0
 | d :: l => d + c * nval c l
def okD (c : Int) (l : List Int) : Prop := ∀ d ∈ l, 0 ≤ d ∧ d < c
/-- the number that the page says; -1: none -/
def cOk (c : Int) : Prop := 1 ≤ c ∧ c ≤ 256
instance (c : Int) : Decidable (cOk c) := by unfold cOk; infer_instance
instance (c : Int) (l : List Int) : Decidable (okD c l) := by unfold okD; infer_instance
def numOk (c : Int) (l : List Int) : Prop := cOk c ∧ okD c l ∧ nval c l ≤ 1099511627776
instance (c : Int) (l : List Int) : Decidable (numOk c l) := by unfold numOk; infer_instance
def number (c : Int) (l : List Int) : Int := if numOk c l then nval c l else -1
/-- the place of a digit, as the reference has it -/
def pl (c : Int) : Nat → Int
 | 0 => 1
 | i + 1 => if pl c i ≤ 1099511627776 then pl c i * c else pl c i
/-- bit i of the Gray code of k -/
def gb (k i : Nat) : Bool := Nat.testBit k i ^^ Nat.testBit k (i + 1)
/-- in how many of n bits two codes differ -/
def gd (k m : Nat) : Nat → Nat
 | 0 => 0
 | n + 1 => gd k m n + if gb k n = gb m n then 0 else 1
/-- what the code keeps: the number, and what is over -/
def over (w n : Int) (i : Nat) : Int := (i : Int) * w % n
/-- how many are told -/
def many (v m : Int) : Int := min (min v m) 4096
end Go.Proofs.Ytlakbclnilakbaa.Xp
end

section
namespace Go.Proofs.Ytlakbclnilakbaa
open Go.RowKit
set_option maxHeartbeats 400000
set_option maxRecDepth 100000
end Go.Proofs.Ytlakbclnilakbaa
end

section
namespace Go.Proofs.Ytlakbclnilakbaa
open Go.RowKit
set_option maxHeartbeats 400000
set_option maxRecDepth 100000
/-- the call returns a row of its own, these integers -/
def OwnInts (k : IntKind) (T : TypeId) (xs : List Int) (w : World) (e : Ending) (w' : World) : Prop :=
 ∃ v, e = .returned v ∧ w'.ownsRow w.heap.size T 1 v xs.length (xs.map (Value.int k)) ∧ Below w.heap.size w w'
theorem OwnInts.mk {k : IntKind} {T : TypeId} {xs : List Int} {w : World} {e : Ending} {w' : World} (v : Value) (he : e = .returned v) (n : Nat) (hn : xs.length = n) (ho : w'.ownsRow w.heap.size T 1 v n (xs.map (Value.int k))) (hb : Below w.heap.size w w') : OwnInts k T xs w e w' :=
 ⟨v, he, by rw [hn]; exact ho, hb⟩
theorem OwnInts.nil {k : IntKind} {T : TypeId} {xs : List Int} {w : World} {w' : World} (hx : xs = []) (hb : Below w.heap.size w w') : OwnInts k T xs w (.returned (.slice none 0 0)) w' := by
 subst hx; exact ⟨_, rfl, World.ownsRow_nil _ _ _ _, hb⟩
end Go.Proofs.Ytlakbclnilakbaa
end

section
namespace Go.Proofs.Ytlakbclnilakbaa
open Go.RowKit
set_option maxHeartbeats 2000000
set_option maxRecDepth 100000
end Go.Proofs.Ytlakbclnilakbaa
end

section
namespace Go.Proofs.Ytlakbclnilakbaa
open Go.RowKit
set_option maxHeartbeats 2000000
set_option maxRecDepth 100000
theorem dataB_in (n a : Int) (h1 : 512 ≤ a) (h2 : a < 512 * n) : dataB n a = true ∧ blockOf n a = a / 512 := by
 have e : blockOf n a = a / 512 := by unfold blockOf; rw [if_pos (by omega)]
 exact ⟨by unfold dataB; rw [e]; simp; omega, e⟩
end Go.Proofs.Ytlakbclnilakbaa
end

section
namespace Go.Proofs.Ytlakbclnilakbaa
open Go.RowKit
set_option maxHeartbeats 2000000
set_option maxRecDepth 100000
theorem cAt_keep (W w : World) (n x y : Int) (c : Nat) (hz : w.heap.size + 1 < c) (h : W.cell? ⟨w.heap.size, 0, none⟩ = some (.int .i64 n) ∧ W.cell? ⟨c, 0, none⟩ = some (.int .i64 x) ∧ W.cell? ⟨c, 1, none⟩ = some (.int .i64 y) ∧ Below w.heap.size w W) :
  ((W.setCell ⟨w.heap.size + 1, 0, none⟩ (.int .i64 x)).setCell ⟨w.heap.size + 1, 1, none⟩ (.int .i64 y)).cell? ⟨w.heap.size, 0, none⟩ = some (.int .i64 n) ∧ ((W.setCell ⟨w.heap.size + 1, 0, none⟩ (.int .i64 x)).setCell ⟨w.heap.size + 1, 1, none⟩ (.int .i64 y)).cell? ⟨c, 0, none⟩ = some (.int .i64 x) ∧ ((W.setCell ⟨w.heap.size + 1, 0, none⟩ (.int .i64 x)).setCell ⟨w.heap.size + 1, 1, none⟩ (.int .i64 y)).cell? ⟨c, 1, none⟩ = some (.int .i64 y) ∧ Below w.heap.size w ((W.setCell ⟨w.heap.size + 1, 0, none⟩ (.int .i64 x)).setCell ⟨w.heap.size + 1, 1, none⟩ (.int .i64 y)) := by
 obtain ⟨h1, h2, h3, h4⟩ := h
 refine ⟨?_, ?_, ?_, (h4.setCell (by simp) _).setCell (by simp) _⟩
 ·rw [World.cell?_setCell_far _ _ _ _ (by simp), World.cell?_setCell_far _ _ _ _ (by simp)]; exact h1
 ·rw [World.cell?_setCell_far _ _ _ _ (by simp; omega), World.cell?_setCell_far _ _ _ _ (by simp; omega)]; exact h2
 ·rw [World.cell?_setCell_far _ _ _ _ (by simp; omega), World.cell?_setCell_far _ _ _ _ (by simp; omega)]; exact h3
theorem cAt_in (n k a : Int) (w : World) (h1 : 0 ≤ n) (h3 : n ≤ 1000000) (a1 : 512 ≤ a) (a2 : a < 512 * n) (k1 : 0 ≤ k) (k2 : k < 32) :
  Calls Try.prog 114 #[.agg #[.int .i64 n], .int .i64 k, .int .i64 a] w fun e w' => e = .returned (.tuple #[.agg #[.int .i64 (a / 512), .int .i64 (a % 512 / Cl.words k)], .bool (Ce.address n k (a / 512) (a % 512 / Cl.words k) == a)]) ∧ Below w.heap.size w w' := by
 obtain ⟨d1, d2⟩ := dataB_in n a a1 a2
 have d3 := Cl.rightB_yes k k1 k2
 have hw := Cl.words_bd k
 have hwp := Cl.words_pos k k1 k2
 have hq : 0 ≤ a % 512 / Cl.words k ∧ a % 512 / Cl.words k ≤ 512 := ⟨Int.ediv_nonneg (by omega) (by omega), by have := Int.ediv_le_self (a := a % 512) (Cl.words k) (by omega); omega⟩
 have D2 := Lib.hid d2
 clear d2
 have G := Lib.hid ((Blk.new w #[.int .i64 n] 48).alloc (.cells #[.int .i64 0, .int .i64 0] 173))
 have R := Lib.hid (Blk.new1 w (.cells #[.int .i64 n] 48) #[.int .i64 0, .int .i64 0] 173)
 have hB : Below w.heap.size w ((w.alloc (.cells #[.int .i64 n] 48)).alloc (.cells #[.int .i64 0, .int .i64 0] 173)) := ((Below.refl _ _).alloc (Nat.le_refl _) _).alloc (by simp) _
 go_enter Try.func114, Try.ntmps114
 go_wp2_with (first
  | (go_at_call 52; refine (right_any _ _ (by omega) (by omega)).mono ?_; rintro e w' ⟨rfl, rfl⟩)
  | (go_at_call 138; refine (gData_any _ _ _ (by omega) (by omega) (by omega) (by omega)).mono ?_; rintro e w1 ⟨rfl, hb1⟩; have G1 := G.out.below hb1 G.out.lt; have R1 := R.out.below hb1 R.out.lt; have hB1 := hB.trans (hb1.mono hB.size); have g0 := G1.cell 0 _ rfl)
  | (go_at_call 112; refine (gBlockOf_any _ _ _ (by omega) (by omega) (by omega) (by omega)).mono ?_; rintro e w2 ⟨rfl, hb2⟩; rw [D2.out]; have R2 := R1.below hb2 R1.lt; have hB2 := hB1.trans (hb2.mono hB1.size))
  | (go_at_call 139; refine (words_any _ _ (by omega) (by omega)).mono ?_; rintro e w3 ⟨rfl, hb3⟩; have R3 := R2.below hb3 R2.lt; have hB3 := hB2.trans (hb3.mono hB2.size)))
 have R4 := R3.alloc (.cells #[.int .i64 (a / 512), .int .i64 (a % 512 / Cl.words k)] 173)
 have C4 := Blk.new w3 #[.int .i64 (a / 512), .int .i64 (a % 512 / Cl.words k)] 173
 have hB4 := hB3.alloc hB3.size (.cells #[.int .i64 (a / 512), .int .i64 (a % 512 / Cl.words k)] 173)
 have hz : w.heap.size + 1 < w3.heap.size := R3.lt
 have G4 := ((G1.below hb2 G1.lt).below hb3 (G1.below hb2 G1.lt).lt).alloc (.cells #[.int .i64 (a / 512), .int .i64 (a % 512 / Cl.words k)] 173)
 refine wp_region_held_drew (S := fun W => W.cell? ⟨w.heap.size, 0, none⟩ = some (.int .i64 n) ∧ W.cell? ⟨w3.heap.size, 0, none⟩ = some (.int .i64 (a / 512)) ∧ W.cell? ⟨w3.heap.size, 1, none⟩ = some (.int .i64 (a % 512 / Cl.words k)) ∧ Below w.heap.size w W) (by kernel_rfl) ?_ (fun hHeld => ?_)
 ·(try dsimp only)
  (first | assumption | exact ⟨G4.cell 0 _ rfl, C4.cell 0 _ rfl, C4.cell 1 _ rfl, hB4.drew⟩ | exact hS7)
 first | (refine wpAnyH_take (i := 0) (v := ?_) rfl (by kernel_rfl) (by kernel_rfl) (by kernel_rfl) (fun _ _ _ h => h) (Or.inl ⟨by rfl, ?_⟩) (by assumption) ?_; rotate_left; (focus (intro w hSw; (try dsimp only at hSw); go_simp; first | done | with_reducible rfl))) | (refine wpAnyH_take (i := 0) rfl (by kernel_rfl) (by kernel_rfl) (by kernel_rfl) (fun _ _ _ h => h) (Or.inr ⟨by rfl, rfl⟩) (by assumption) ?_) | fail
 try simp only [Act.put, List.getElem_toArray, List.getElem_cons_zero, List.getElem_cons_succ, List.setIfInBounds_toArray, List.set_cons_zero, List.set_cons_succ]
 first | (refine wpAnyH_take (i := 1) (v := ?_) rfl (by kernel_rfl) (by kernel_rfl) (by kernel_rfl) (fun _ _ _ h => h) (Or.inl ⟨by rfl, ?_⟩) (by assumption) ?_; rotate_left; (focus (intro w hSw; (try dsimp only at hSw); go_simp; first | done | with_reducible rfl))) | (refine wpAnyH_take (i := 1) rfl (by kernel_rfl) (by kernel_rfl) (by kernel_rfl) (fun _ _ _ h => h) (Or.inr ⟨by rfl, rfl⟩) (by assumption) ?_) | fail
 try simp only [Act.put, List.getElem_toArray, List.getElem_cons_zero, List.getElem_cons_succ, List.setIfInBounds_toArray, List.set_cons_zero, List.set_cons_succ]
 first | (refine wpAnyH_take (i := 2) (v := ?_) rfl (by kernel_rfl) (by kernel_rfl) (by kernel_rfl) (fun _ _ _ h => h) (Or.inl ⟨by rfl, ?_⟩) (by assumption) ?_; rotate_left; (focus (intro w hSw; (try dsimp only at hSw); go_simp; first | done | with_reducible rfl))) | (refine wpAnyH_take (i := 2) rfl (by kernel_rfl) (by kernel_rfl) (by kernel_rfl) (fun _ _ _ h => h) (Or.inr ⟨by rfl, rfl⟩) (by assumption) ?_) | fail
 try simp only [Act.put, List.getElem_toArray, List.getElem_cons_zero, List.getElem_cons_succ, List.setIfInBounds_toArray, List.set_cons_zero, List.set_cons_succ]
 first | (refine wpAnyH_take (i := 3) (v := ?_) rfl (by kernel_rfl) (by kernel_rfl) (by kernel_rfl) (fun _ _ _ h => h) (Or.inl ⟨by rfl, ?_⟩) (by assumption) ?_; rotate_left; (focus (intro w hSw; (try dsimp only at hSw); go_simp; first | done | with_reducible rfl))) | (refine wpAnyH_take (i := 3) rfl (by kernel_rfl) (by kernel_rfl) (by kernel_rfl) (fun _ _ _ h => h) (Or.inr ⟨by rfl, rfl⟩) (by assumption) ?_) | fail
 try simp only [Act.put, List.getElem_toArray, List.getElem_cons_zero, List.getElem_cons_succ, List.setIfInBounds_toArray, List.set_cons_zero, List.set_cons_succ]
 first | (refine wpAnyH_take (i := 5) (v := ?_) rfl (by kernel_rfl) (by kernel_rfl) (by kernel_rfl) (fun _ _ _ h => h) (Or.inl ⟨by rfl, ?_⟩) (by assumption) ?_; rotate_left; (focus (intro w hSw; (try dsimp only at hSw); go_simp; first | done | with_reducible rfl))) | (refine wpAnyH_take (i := 5) rfl (by kernel_rfl) (by kernel_rfl) (by kernel_rfl) (fun _ _ _ h => h) (Or.inr ⟨by rfl, rfl⟩) (by assumption) ?_) | fail
 try simp only [Act.put, List.getElem_toArray, List.getElem_cons_zero, List.getElem_cons_succ, List.setIfInBounds_toArray, List.set_cons_zero, List.set_cons_succ]
 refine wpAnyH_ready (rs := [4]) (by kernel_rfl) (by simp) (AllReadyH.cons rfl (fun K hK => ?_) AllReadyH.nil)
 (try go_simp)
 refine (address_any _ _ _ _ _ (by omega) (by omega) (by omega) (by omega) (by omega) (by omega) (by omega) (by omega)).mono ?_
 rintro e w5 ⟨rfl, hb5⟩
 have hS' := keep3 hb5 (by assumption)
 have R5 := R4.drew.below hb5 R4.lt
 have r0 := R5.cell 0 _ rfl
 have r1 := R5.cell 1 _ rfl
 have f0 := R5.frozen 0
 have f1 := R5.frozen 1
 refine hK.out _ _ ?_ (fun hHeld => ?_)
 ·(try dsimp only)
  (first | assumption | exact ⟨G4.cell 0 _ rfl, C4.cell 0 _ rfl, C4.cell 1 _ rfl, hB4.drew⟩ | exact hS7)
 clear hK K
 try simp only [Act.put, List.getElem_toArray, List.getElem_cons_zero, List.getElem_cons_succ, List.setIfInBounds_toArray, List.set_cons_zero, List.set_cons_succ]
 first | (refine wpAnyH_take (i := 6) (v := ?_) rfl (by kernel_rfl) (by kernel_rfl) (by kernel_rfl) (fun _ _ _ h => h) (Or.inl ⟨by rfl, ?_⟩) (by assumption) ?_; rotate_left; (focus (intro w hSw; (try dsimp only at hSw); go_simp; first | done | with_reducible rfl))) | (refine wpAnyH_take (i := 6) rfl (by kernel_rfl) (by kernel_rfl) (by kernel_rfl) (fun _ _ _ h => h) (Or.inr ⟨by rfl, rfl⟩) (by assumption) ?_) | fail
 try simp only [Act.put, List.getElem_toArray, List.getElem_cons_zero, List.getElem_cons_succ, List.setIfInBounds_toArray, List.set_cons_zero, List.set_cons_succ]
 refine wpAnyH_ready (rs := [7]) (by kernel_rfl) (by simp) (AllReadyH.cons rfl (fun K hK => ?_) AllReadyH.nil)
 (try go_simp)
 have hS7 := cAt_keep w5 w n (a / 512) (a % 512 / Cl.words k) w3.heap.size hz hS'
 refine hK.out _ _ ?_ (fun hHeld => ?_)
 ·(try dsimp only)
  (first | assumption | exact ⟨G4.cell 0 _ rfl, C4.cell 0 _ rfl, C4.cell 1 _ rfl, hB4.drew⟩ | exact hS7)
 clear hK K
 try simp only [Act.put, List.getElem_toArray, List.getElem_cons_zero, List.getElem_cons_succ, List.setIfInBounds_toArray, List.set_cons_zero, List.set_cons_succ]
 first | (refine wpAnyH_take (i := 8) (v := ?_) rfl (by kernel_rfl) (by kernel_rfl) (by kernel_rfl) (fun _ _ _ h => h) (Or.inl ⟨by rfl, ?_⟩) (by assumption) ?_; rotate_left; (focus (intro w hSw; (try dsimp only at hSw); go_simp; first | done | with_reducible rfl))) | (refine wpAnyH_take (i := 8) rfl (by kernel_rfl) (by kernel_rfl) (by kernel_rfl) (fun _ _ _ h => h) (Or.inr ⟨by rfl, rfl⟩) (by assumption) ?_) | fail
 try simp only [Act.put, List.getElem_toArray, List.getElem_cons_zero, List.getElem_cons_succ, List.setIfInBounds_toArray, List.set_cons_zero, List.set_cons_succ]
 refine wpAnyH_done (by kernel_rfl) ?_ _
 go_wp2_with fail
 exact bodyPost_ret (v := .tuple #[.agg #[.int .i64 (a / 512), .int .i64 (a % 512 / Cl.words k)], .bool (Ce.address n k (a / 512) (a % 512 / Cl.words k) == a)]) (by simp [results, go_sem, Try.results114, r0, r1]) rfl ⟨rfl, hS7.2.2.2⟩
end Go.Proofs.Ytlakbclnilakbaa
end

section
namespace Go.Proofs.Ytlakbclnilakbaa
open Go.RowKit
section
variable {P : Program} {n : Sz} {f : Nat → Value} {W w0 : World} {dst : Option Tmp} {ty : TypeId} {pos : String} {af : Array Edge} {g : Option (Nat × Bool)} {x y : Operand} {t t2 e e1 e2 : TypeId}
end
section
variable {P : Program} {ops : Array Oper} {rest : List Oper} {n : Sz} {k k2 : Nat} {f : Nat → Value} {W w0 : World} {F : List Nat} {L : List Ent} {Q : Exit → Act → World → Prop} {ty ty2 : TypeId} {pos pos2 : String} {af af2 : Array Edge} {g : Option (Nat × Bool)} {x y s : Operand} {v u : Value} {t e : TypeId}
end
end Go.Proofs.Ytlakbclnilakbaa
end

section
namespace Go.Proofs.Ytlakbclnilakbaa
open Go.RowKit
def grp (A : List Ent) : Ent :=
 ⟨ids A, fun W => Ents A W, fun W h i hi => by
  obtain ⟨E, hE, hm⟩ := mem_ids.1 hi
  exact E.lt W (h.1 E hE) i hm, fun W W' hh h => ⟨fun E hE => E.loc W W' (fun i hi => hh i (mem_ids.2 ⟨E, hE, hi⟩)) (h.1 E hE), h.2⟩⟩
theorem Heap.grp_ents {w0 W : World} {F : List Nat} {L A : List Ent} (H : Heap w0 F L W) (k : Nat) (hk : L[k]? = some (grp A)) : Ents A W := H.ok _ (List.mem_of_getElem? hk)
theorem grp_heap {W W' : World} {F : List Nat} {A : List Ent} (h : Heap W F A W') : Heap W F [grp A] W' :=
 ⟨fun E hE => by (rw [List.mem_singleton.1 hE]; exact h.ents), by simpa [ids, grp] using h.nd, by simpa [ids, grp] using h.own, h.only⟩
theorem grp_open {W W' : World} {F : List Nat} {A : List Ent} (h : Heap W F [grp A] W') : Heap W F A W' := by
 have hE := h.grp_ents 0 rfl
 exact ⟨hE.1, hE.2, by have := h.own; simpa [ids, grp] using this, h.only⟩
theorem Heap.grp_at {w0 W W' : World} {F : List Nat} {L A A' : List Ent} (H : Heap w0 F L W) (k : Nat) (hk : L[k]? = some (grp A)) (h' : Heap W (ids A) A' W') : Heap w0 F (L.set k (grp A')) W' :=
 H.at k hk (grp_heap h') (fun i hi => hi)
theorem grp_start {w : World} {A : List Ent} (h : Ents A w) : Heap w (ids A) [grp A] w := grp_heap (Heap.start h)
section
variable {P : Program} {n : Sz} {f : Nat → Value} {W : World} {dst : Option Tmp} {ty : TypeId} {pos : String} {af : Array Edge} {g : Option (Nat × Bool)} {x y : Operand} {t t2 : TypeId}
end
end Go.Proofs.Ytlakbclnilakbaa
end

section
namespace Go.Proofs.Ytlakbclnilakbaa
open Go.RowKit
/-- values of one cell -/
inductive C1 where
 | i (k : IntKind) (z : Int)
 | b (q : Bool)
 | s (A : Option Addr) (n c : Nat)
 | p (A : Option Addr)
def C1.v : C1 → Value
 | .i k z => .int k z
 | .b q => .bool q
 | .s A n c => .slice A n c
 | .p A => .pointer A
theorem C1.one (x : C1) : x.v.oneCell' = true := by cases x <;> rfl
theorem Sees.row {α : Type} {enc : α → Value} {w : World} {F : List Nat} {A : Option Addr} {n : Nat} {xs : List α} (h : Sees enc w F A xs) (hl : xs.length = n) : RowAt w w.heap.size A n (xs.map enc) :=
 ⟨by simpa using hl, fun h0 => by
  obtain ⟨b, o, rfl, _, hr⟩ := h (by omega)
  refine ⟨b, o, rfl, ?_, fun j u hu => ?_⟩
  ·have := hr 0 xs[0] (List.getElem?_eq_getElem (by omega))
   exact cell_lt this
  ·rw [List.getElem?_map] at hu
   cases hj : xs[j]? with
   | none => rw [hj] at hu; cases hu
   | some z => rw [hj] at hu; rw [hr j z hj]; simpa using hu⟩
theorem Heap.own_sees {α : Type} {enc : α → Value} {w0 W : World} {F : List Nat} {L : List Ent} (H : Heap w0 F L W) (j : Nat) {A : Option Addr} {n c : Nat} {xs : List α} {T : TypeId} (hj : L[j]? = some (ownN 1 (.slice A n c) n (xs.map enc) T)) : Sees enc W [] A xs := by
 have ho := H.own_get j hj
 intro h0
 have hn : xs.length = n := by simpa using ho.1
 rcases ho.2 with ⟨h1, h2⟩ | ⟨g, cap, cur, h1, _, hg, h3, _, h5, h6⟩
 ·omega
 ·injection h1 with h1 _ _
  refine ⟨g, 0, h1, by simp, fun i z hz => ?_⟩
  rw [Nat.zero_add, Joins.cell_of_block hg]
  have : (cur.toList.take (n * 1))[i]? = some (enc z) := by rw [h6, List.getElem?_map, hz]; rfl
  rw [List.getElem?_take] at this
  split at this
  ·simpa using this
  ·cases this
theorem Ents.own_sees {α : Type} {enc : α → Value} {W : World} {A : Option Addr} {n c : Nat} {xs : List α} {T : TypeId} {L : List Ent} (h : Ents L W) (hj : ownN 1 (.slice A n c) n (xs.map enc) T ∈ L) : Sees enc W [] A xs := by
 obtain ⟨j, hj2⟩ := List.mem_iff_getElem?.1 hj
 exact (Heap.start h).own_sees j hj2
section
variable {P : Program} {n : Sz} {f : Nat → Value} {W w0 : World} {dst : Option Tmp} {ty : TypeId} {pos : String} {af : Array Edge} {g : Option (Nat × Bool)} {x y : Operand} {t t2 e : TypeId} {v : Value}
end
section
variable {P : Program} {ops : Array Oper} {rest : List Oper} {n : Sz} {k k2 : Nat} {f : Nat → Value} {W w0 : World} {F : List Nat} {L : List Ent} {Q : Exit → Act → World → Prop} {ty ty2 : TypeId} {pos pos2 : String} {af af2 : Array Edge} {g : Option (Nat × Bool)} {x y s : Operand} {v u : Value} {t e : TypeId}
/-- append(s, y...): what y reads now -/
theorem s_apW {α : Type} {enc : α → Value} {z0 : Value} {bytes m l c : Nat} {A : Option Addr} {xs zs : List α} (H : Heap w0 F L W) (j : Nat) (hj : L[j]? = some (ownN 1 v m (xs.map enc) e))
  (hw : Region.wanted ⟨some k, .call ⟨.builtin .append, #[s, y], #[t, t]⟩, ty, pos, af, g⟩ (yl n f ops) = true) (hs : ev n f s = v) (hy : ev n f y = .slice A l c) (hz : Sees enc W [] A zs) (hl : zs.length = l) (h1 : ∀ z, (enc z).oneCell' = true)
  (hm : m + l ≤ 100000000000 ∧ (m + l) * bytes ≤ 140737488355328) (ht : P.underlying t = some (.slice e)) (hi : Inf P e z0 1 bytes) (hz0 : z0.oneCell' = true)
  (h : ∀ A' c' W', Heap w0 F (L.set j (ownN 1 (.slice A' (m + l) c') (m + l) ((xs ++ zs).map enc) e)) W' → SL P ops Q rest n (upd f k (.slice A' (m + l) c')) W') :
  SL P ops Q (⟨some k, .call ⟨.builtin .append, #[s, y], #[t, t]⟩, ty, pos, af, g⟩ :: rest) n f W := by
 have hown := H.own_get j hj
 obtain ⟨i, hi0, hzz, hsz, hby⟩ := hi.ex
 have key : ∃ v' W', (Builtin.append_ #[t, t] ty #[v, .slice A l c]).run P W = .ok v' W' ∧ W'.ownsRow 0 e 1 v' (m + l) (xs.map enc ++ zs.map enc) ∧ W.grownBy W' v.ownBlock ∧ (∀ k, v'.ownBlock = some k → v.ownBlock = some k ∨ W.heap.size ≤ k) := by
  cases A with
  | some p =>
   by_cases h0 : zs.length = 0
   ·obtain rfl : zs = [] := List.eq_nil_of_length_eq_zero h0
    obtain rfl : l = 0 := by simpa using hl.symm
    exact app_run (P := P) t ty e ht hi (by simp [one_cells hz0]) (by omega) v m (xs.map enc) hown p 0 c [] rfl (fun _ _ hq => by simp at hq) (by simp) (by unfold maxLen; omega) hm.2
   ·obtain ⟨q, r, e0, hq, hr2⟩ := hz h0
    injection e0 with e0
    subst e0
    refine app_run (P := P) t ty e ht hi (by simp [one_cells hz0]) (by omega) v m (xs.map enc) hown ⟨q, r, none⟩ l c (zs.map enc) (by simp [hl]) (fun a u ha => ?_) (fun u hu => ?_) (by unfold maxLen; omega) hm.2
    ·rw [List.getElem?_map] at ha
     cases hza : zs[a]? with
     | none => rw [hza] at ha; simp at ha
     | some z => rw [hza] at ha; rw [add_plain, hr2 a z hza]; simpa using ha
    ·obtain ⟨z, _, rfl⟩ := List.mem_map.1 hu; exact h1 z
  | none =>
   have h0 : zs.length = 0 := by
    rcases Nat.eq_zero_or_pos zs.length with h0 | h0
    ·exact h0
    ·obtain ⟨q, r, e0, _⟩ := hz (by omega); cases e0
   obtain rfl : zs = [] := List.eq_nil_of_length_eq_zero h0
   obtain rfl : l = 0 := by simpa using hl.symm
   refine ⟨v, W, ?_, by simpa using hown, ⟨rfl, rfl, rfl, Nat.le_refl _, fun _ _ _ => rfl⟩, fun k hk => .inl hk⟩
   rcases hown.2 with ⟨rfl, rfl⟩ | ⟨q, cap, cur, rfl, _, hg, hnc, _⟩
   ·simp [Builtin.append_, run_underlying ht, Go.sizeOf, typeInfo, hi0, Builtin.lenOf, Builtin.firstCells]
   ·simp [Builtin.append_, run_underlying ht, Go.sizeOf, typeInfo, hi0, Builtin.lenOf, Builtin.firstCells, hnc, storeCells]
 obtain ⟨v', W2, hr, o1, o2, o3⟩ := key
 have H3 := H.app j hj (m := l) o1 o2 o3
 rw [← List.map_append] at H3
 obtain ⟨A', c', rfl⟩ : ∃ A' c', v' = .slice A' (m + l) c' := by
  rcases o1.2 with ⟨rfl, h0⟩ | ⟨q, cap, cur, rfl, _⟩
  ·exact ⟨none, 0, by rw [h0]⟩
  ·exact ⟨_, _, rfl⟩
 exact s_run rfl hw (W' := W2) (v := .slice A' (m + l) c') (by simp only [execOp, resolve, invoke, builtin, List.map_toArray, List.map_cons, List.map_nil, hs, hy, Sem.run_bind, Sem.run_pure, Result.andThen_ok, hr]) (h A' c' W2 H3)
/-- []T{a, b, ..} of one-cell values -/
theorem s_bsO {α : Type} {enc : α → Value} {zs : List α} {z0 : Value} {bytes m : Nat} {parts : Array (Nat × Operand)} {vs : List (Nat × Value)} (H : Heap w0 F L W)
  (hw : Region.wanted ⟨some k, .buildSlice t m parts, ty, pos, af, g⟩ (yl n f ops) = true) (hv : parts.toList.map (fun p => (p.1, ev n f p.2)) = vs) (hl : zs.length = m) (hm : 0 < m ∧ m ≤ 1000)
  (hfill : Instr.fill (fun i => some (i * 1, 1)) ((Array.range m).map (z0.cells[· % z0.cells.size]!)) vs = some (zs.map enc).toArray)
  (ht : P.underlying t = some (.slice e)) (hi : Inf P e z0 1 bytes)
  (h : ∀ p W', Heap w0 F (ownN 1 (.slice (some ⟨p, 0, none⟩) m m) m (zs.map enc) e :: L) W' → SL P ops Q rest n (upd f k (.slice (some ⟨p, 0, none⟩) m m)) W') : SL P ops Q (⟨some k, .buildSlice t m parts, ty, pos, af, g⟩ :: rest) n f W := by
 obtain ⟨i, hi0, hz0, hsz, hby⟩ := hi.ex
 have hbig : ¬ (m * 1 > 2 ^ 24) := by omega
 have hne : ¬ (m * 1 = 0) := by omega
 have r1 : (Instr.buildSlice t m vs.toArray).run P W = .ok (.slice (some ⟨W.heap.size, 0, none⟩) m m) (W.alloc (.cells (zs.map enc).toArray e)) := by
  have hz1 : (zeroValue e).run P W = .ok z0 W := by simp [zeroValue, typeInfo, hi0, hz0]
  have hs1 : (Go.sizeOf e).run P W = .ok 1 W := by simp [Go.sizeOf, typeInfo, hi0, hsz]
  simp only [Instr.buildSlice, Sem.run_bind, run_underlying ht, Result.andThen_ok, hs1, hbig, if_false, hne, hz1, Sem.run_pure]
  rw [show (m * 1) = m from by omega]
  simp only [hfill]
  rfl
 have r2 : (execOp (ev n f) ⟨some k, .buildSlice t m parts, ty, pos, af, g⟩).run P W = .ok (.value (.slice (some ⟨W.heap.size, 0, none⟩) m m)) (W.alloc (.cells (zs.map enc).toArray e)) := by
  have hp : parts.map (fun p => (p.1, ev n f p.2)) = vs.toArray := by
   apply Array.toList_inj.1
   rw [Array.toList_map, hv]
  simp only [execOp, hp, Sem.run_bind, r1, Result.andThen_ok]; rfl
 refine s_run rfl hw r2 (h _ _ ?_)
 have hzl : (zs.map enc).length = m := by simpa using hl
 refine H.more (A := [ownN 1 (.slice (some ⟨W.heap.size, 0, none⟩) m m) m (zs.map enc) e]) ⟨?_, by simp [ids, ownN, Value.ownBlock], by simp [ids, ownN, Value.ownBlock], Only.of_below ((Below.refl _ _).alloc (Nat.le_refl _) _) _⟩
 intro E hE; rw [List.mem_singleton.1 hE]
 exact ⟨by simpa using hzl, .inr ⟨_, m, _, rfl, Nat.zero_le _, heap_alloc_new W _, Nat.le_refl _, by unfold maxLen; omega, by simpa using hzl, by rw [Nat.mul_one]; exact List.take_of_length_le (Nat.le_of_eq hzl)⟩⟩
end
end Go.Proofs.Ytlakbclnilakbaa
end

section
namespace Go.Proofs.Ytlakbclnilakbaa
open Go.RowKit
section
variable {P : Program} {W : World}
end
section
variable {P : Program} {n : Sz} {f : Nat → Value} {W w0 : World} {dst : Option Tmp} {ty : TypeId} {pos : String} {af : Array Edge} {g : Option (Nat × Bool)} {x y : Operand} {t t2 e : TypeId} {v : Value} {k k2 : IntKind} {a b : Int}
end
section
variable {P : Program} {ops : Array Oper} {rest : List Oper} {n : Sz} {k k2 : Nat} {f : Nat → Value} {W w0 : World} {F : List Nat} {L : List Ent} {Q : Exit → Act → World → Prop} {ty ty2 : TypeId} {pos pos2 : String} {af af2 : Array Edge} {g : Option (Nat × Bool)} {x y s : Operand} {v u : Value} {t tn e : TypeId}
end
end Go.Proofs.Ytlakbclnilakbaa
end

section
namespace Go.Proofs.Ytlakbclnilakbaa
open Go.RowKit
section
variable {P : Program} {n : Sz} {f : Nat → Value} {W : World} {ty : TypeId} {pos : String} {af : Array Edge} {g : Option (Nat × Bool)} {c : Operand}
end
end Go.Proofs.Ytlakbclnilakbaa
end

section
namespace Go.Proofs.Ytlakbclnilakbaa
open Go.RowKit
theorem fm_range {α : Type _} (L : List α) : (List.range L.length).filterMap (fun i => L[i]?) = L := by
 induction L with
 | nil => rfl
 | cons a l ih =>
  rw [List.length_cons, List.range_succ_eq_map, List.filterMap_cons]
  simp only [List.getElem?_cons_zero, List.filterMap_map, Function.comp_def, List.getElem?_cons_succ]
  rw [ih]
/-- the entries in another order -/
theorem Heap.order {w0 W : World} {F : List Nat} {L L' : List Ent} (H : Heap w0 F L W) (p : List Nat) (hp : p.isPerm (List.range L.length) = true) (hL : p.filterMap (fun i => L[i]?) = L') : Heap w0 F L' W := by
 refine H.perm ?_
 rw [← hL]
 have h1 := (List.isPerm_iff.1 hp).filterMap (fun i => L[i]?)
 rw [fm_range] at h1
 exact h1.symm
/-- what an iterator wants kept: some blocks -/
def Kp (K : List Nat) (W W' : World) : Prop := ∀ i ∈ K, W'.heap[i]? = W.heap[i]?
theorem Kp.ents {A : List Ent} {W W' : World} (h : Kp (ids A) W W') (hA : Ents A W) : Ents A W' :=
 ⟨fun E hE => E.loc W W' (fun i hi => h i (mem_ids.2 ⟨E, hE, hi⟩)) (hA.1 E hE), hA.2⟩
theorem Kp.trans {K : List Nat} {A B C : World} (h : Kp K A B) (k : Kp K B C) : Kp K A C := fun i hi => (k i hi).trans (h i hi)
section
variable {P : Program} {ops : Array Oper} {rest : List Oper} {n : Sz} {k id : Nat} {f : Nat → Value} {W w0 : World} {F : List Nat} {L : List Ent} {Q : Exit → Act → World → Prop} {v : Value} {o : Oper}
/-- s[:hi] of any slice -/
theorem r_shiA {dst : Option Tmp} {t ty e : TypeId} {pos : String} {af : Array Edge} {g : Option (Nat × Bool)} {x hi : Operand} {kk : IntKind} {a : Int} {A : Option Addr} {l c j m : Nat} (hx : ev n f x = .slice A l c) (hh : ev n f hi = .int kk a) (ha : a = (j : Int)) (hj : j ≤ c) (h : P.underlying t = some (.slice e)) (hm : ∀ W, (Go.sizeOf e).run P W = .ok m W) :
  (execOp (ev n f) ⟨dst, .slice t x none (some hi) none, ty, pos, af, g⟩).run P W = .ok (.value (.slice A j c)) W := by
 subst ha
 have h1 : (0 : Int) ≤ j ∧ (j : Int) ≤ c := by omega
 have h0 : ∀ p : Addr, p.add 0 = p := fun p => by simp [Addr.add]
 simp only [execOp, Instr.sliceAt, Instr.slice, Instr.sliceBounds, Instr.sliceBound, hx, hh, asIntOf, Option.map_some, Option.map_none, Sem.run_bind, run_underlying h, Result.andThen_ok, Sem.run_pure, h1, and_self, if_true, hm, Int.toNat_natCast, Nat.zero_mul, Nat.sub_zero]
 cases A <;> simp [h0]
/-- a cell that is known -/
theorem r_lc {x : Operand} {dst : Option Tmp} {t ty : TypeId} {pos : String} {af : Array Edge} {g : Option (Nat × Bool)} {p i : Nat} (hc : W.cell? ⟨p, i, none⟩ = some v) (hx : ev n f x = .pointer (some ⟨p, i, none⟩)) (hagg : ∀ W, (isAgg t).run P W = .ok false W) : (execOp (ev n f) ⟨dst, .load t x, ty, pos, af, g⟩).run P W = .ok (.value v) W :=
 r_lr (Heap.nil W) hx hc (by simp) hagg
end
end Go.Proofs.Ytlakbclnilakbaa
end

section
namespace Go.Proofs.Ytlakbclnilakbaa
open Go.RowKit
section
variable {P : Program} {n : Sz} {f : Nat → Value} {W w0 : World} {F : List Nat} {L : List Ent} {dst : Option Tmp} {ty : TypeId} {pos : String} {af : Array Edge} {g : Option (Nat × Bool)} {x : Operand} {t : TypeId}
theorem Heap.own_some {α : Type} {enc : α → Value} {size : Nat} {A : Option Addr} {m c : Nat} {xs : List α} {T : TypeId} (H : Heap w0 F L W) (j : Nat) (hj : L[j]? = some (ownN size (.slice A m c) m (xs.map enc) T)) (h0 : m ≠ 0) : ∃ p, A = some ⟨p, 0, none⟩ := by
 rcases (H.own_get j hj).2 with ⟨h1, h2⟩ | ⟨g, cap, cur, h1, _⟩
 ·exact absurd h2 h0
 ·injection h1 with h1 _ _; exact ⟨g, h1⟩
/-- a cell of a row of one's own -/
theorem r_ow {α : Type} {enc : α → Value} {p i m c : Nat} {xs : List α} {T : TypeId} {z : α} (H : Heap w0 F L W) (j : Nat) (hx : ev n f x = .pointer (some ⟨p, i, none⟩)) (hj : L[j]? = some (ownN 1 (.slice (some ⟨p, 0, none⟩) m c) m (xs.map enc) T)) (hv : xs[i]? = some z)
  (hagg : ∀ W, (isAgg t).run P W = .ok false W) : (execOp (ev n f) ⟨dst, .load t x, ty, pos, af, g⟩).run P W = .ok (.value (enc z)) W := by
 have ho := H.own_get j hj
 have hi : i < xs.length := (List.getElem?_eq_some_iff.1 hv).1
 have hcell := ho.cellAt i (by rw [← ho.1]; simpa using hi)
 rw [List.getElem?_map, hv] at hcell
 exact r_lc hcell hx hagg
theorem Heap.own_seesN {α : Type} {enc : α → Value} {size : Nat} (H : Heap w0 F L W) (j : Nat) {A : Option Addr} {n c : Nat} {xs : List α} {T : TypeId} (hj : L[j]? = some (ownN size (.slice A n c) n (xs.map enc) T)) : xs.length ≠ 0 → ∃ b, A = some ⟨b, 0, none⟩ ∧ b ∈ (ownN size (.slice A n c) n (xs.map enc) T).ids ∧ Reads enc W b 0 xs := by
 have ho := H.own_get j hj
 intro h0
 have hn : xs.length = n * size := by simpa using ho.1
 rcases ho.2 with ⟨h1, h2⟩ | ⟨g, cap, cur, h1, _, hg, h3, _, h5, h6⟩
 ·rw [h2, Nat.zero_mul] at hn; omega
 ·injection h1 with h1 _ _
  subst h1
  refine ⟨g, rfl, by simp [ownN, Value.ownBlock], fun i z hz => ?_⟩
  rw [Nat.zero_add, Joins.cell_of_block hg]
  have : (cur.toList.take (n * size))[i]? = some (enc z) := by rw [h6, List.getElem?_map, hz]; rfl
  rw [List.getElem?_take] at this
  split at this
  ·simpa using this
  ·cases this
end
section
variable {P : Program} {ops : Array Oper} {rest : List Oper} {n : Sz} {k k2 : Nat} {f : Nat → Value} {W w0 : World} {F : List Nat} {L : List Ent} {Q : Exit → Act → World → Prop} {ty ty2 : TypeId} {pos pos2 : String} {af af2 : Array Edge} {g : Option (Nat × Bool)} {x y s : Operand} {v u : Value} {t e : TypeId}
/-- []T{x}, x of several cells -/
theorem s_bsN {α : Type} {enc : α → Value} {z0 : Value} {size bytes : Nat} {zs : List α} (H : Heap w0 F L W)
  (hw : Region.wanted ⟨some k, .buildSlice t 1 #[(0, x)], ty, pos, af, g⟩ (yl n f ops) = true) (hx : ev n f x = .agg (zs.map enc).toArray) (hzl : zs.length = size) (hsz : 0 < size ∧ size ≤ 1000)
  (hfill : Instr.fill (fun i => some (i * size, size)) ((Array.range size).map (z0.cells[· % z0.cells.size]!)) [(0, .agg (zs.map enc).toArray)] = some (zs.map enc).toArray)
  (ht : P.underlying t = some (.slice e)) (hi : Inf P e z0 size bytes)
  (h : ∀ p W', Heap w0 F (ownN size (.slice (some ⟨p, 0, none⟩) 1 1) 1 (zs.map enc) e :: L) W' → SL P ops Q rest n (upd f k (.slice (some ⟨p, 0, none⟩) 1 1)) W') : SL P ops Q (⟨some k, .buildSlice t 1 #[(0, x)], ty, pos, af, g⟩ :: rest) n f W := by
 obtain ⟨i, hi0, hz0, hisz, hby⟩ := hi.ex
 have hzs2 : (zs.map enc).length = size := by simpa using hzl
 have hbig : ¬ (1 * size > 2 ^ 24) := by omega
 have hne : ¬ (1 * size = 0) := by omega
 have r1 : (Instr.buildSlice t 1 #[(0, .agg (zs.map enc).toArray)]).run P W = .ok (.slice (some ⟨W.heap.size, 0, none⟩) 1 1) (W.alloc (.cells (zs.map enc).toArray e)) := by
  have hz1 : (zeroValue e).run P W = .ok z0 W := by simp [zeroValue, typeInfo, hi0, hz0]
  have hs1 : (Go.sizeOf e).run P W = .ok size W := by simp [Go.sizeOf, typeInfo, hi0, hisz]
  simp only [Instr.buildSlice, Sem.run_bind, run_underlying ht, Result.andThen_ok, hs1, hbig, if_false, hne, hz1, Sem.run_pure]
  rw [show (1 * size) = size from by omega, hfill]
  rfl
 refine s_run rfl hw (W' := W.alloc (.cells (zs.map enc).toArray e)) (v := .slice (some ⟨W.heap.size, 0, none⟩) 1 1) (by simp only [execOp, List.map_toArray, List.map_cons, List.map_nil, hx, Sem.run_bind, r1, Result.andThen_ok]; rfl) (h _ _ ?_)
 refine H.more (A := [ownN size (.slice (some ⟨W.heap.size, 0, none⟩) 1 1) 1 (zs.map enc) e]) ⟨?_, by simp [ids, ownN, Value.ownBlock], by simp [ids, ownN, Value.ownBlock], Only.of_below ((Below.refl _ _).alloc (Nat.le_refl _) _) _⟩
 intro E hE; rw [List.mem_singleton.1 hE]
 have hzl2 : (zs.map enc).length = 1 * size := by rw [hzs2, Nat.one_mul]
 exact ⟨hzl2, .inr ⟨_, 1, _, rfl, Nat.zero_le _, heap_alloc_new W _, Nat.le_refl _, by decide, by simpa using hzl2, List.take_of_length_le (Nat.le_of_eq hzl2)⟩⟩
end
/-- some of the entries -/
theorem Heap.subl {w0 W : World} {F : List Nat} {L A : List Ent} (H : Heap w0 F L W) (p : List Nat) (hp : (p ++ (List.range L.length).filter (fun i => !p.contains i)).isPerm (List.range L.length) = true) (hA : p.filterMap (fun i => L[i]?) = A) : Heap w0 F A W := by
 have h := H.order (p ++ (List.range L.length).filter (fun i => !p.contains i)) hp rfl
 rw [List.filterMap_append, hA] at h
 exact h.drops
theorem k_trS {P : Program} {l : List Oper} {Q : Exit → Act → World → Prop} {n : Sz} {id : Nat} {f : Nat → Value} {W w0 : World} {F : List Nat} {L A : List Ent} (hm : P.follows .mixedOrders = true) (H : Heap w0 F L W) (p : List Nat) (hA : p.filterMap (fun i => L[i]?) = A) (h : TR P l.toArray Q (fun W' => Heap w0 F A W') l.length (Array.replicate l.length false) n f W.drew) : CW P (Code.region id l.toArray true) Q n f W :=
 .alone rfl (wp_region_held hm h.out)
end Go.Proofs.Ytlakbclnilakbaa
end

section
namespace Go.Proofs.Ytlakbclnilakbaa
open Go.RowKit Go.MapKept
open Go.Maps (Keyed)
open Go.ChangeMaps (setBlock)
section plain
variable {α β : Type} [DecidableEq α]
def mget : List (α × β) → α → Option β
 | [], _ => none
 | p :: l, a => if p.1 = a then some p.2 else mget l a
def mput : List (α × β) → α → β → List (α × β)
 | [], a, v => [(a, v)]
 | p :: l, a, v => if p.1 = a then (a, v) :: l else p :: mput l a v
def mdel : List (α × β) → α → List (α × β)
 | [], _ => []
 | p :: l, a => if p.1 = a then l else p :: mdel l a
theorem m_none : ∀ (l : List (α × β)) (a : α), (∀ p ∈ l, p.1 ≠ a) → mget l a = none ∧ (∀ v, mput l a v = l ++ [(a, v)]) ∧ mdel l a = l
 | [], a, _ => ⟨rfl, fun _ => rfl, rfl⟩
 | p :: l, a, h => by
  obtain ⟨h1, h2, h3⟩ := m_none l a fun q hq => h q (by simp [hq])
  have hp := h p (by simp)
  exact ⟨by rw [mget, if_neg hp]; exact h1, fun v => by rw [mput, if_neg hp, h2]; rfl, by rw [mdel, if_neg hp, h3]⟩
theorem m_some : ∀ (l : List (α × β)) (j : Nat) (p : α × β), l[j]? = some p → (l.map Prod.fst).Nodup → mget l p.1 = some p.2 ∧ (∀ v, mput l p.1 v = l.set j (p.1, v)) ∧ mdel l p.1 = l.eraseIdx j
 | [], j, p, h, _ => by simp at h
 | q :: l, 0, p, h, _ => by
  obtain rfl : q = p := by simpa using h
  exact ⟨by rw [mget, if_pos rfl], fun v => by rw [mput, if_pos rfl]; rfl, by rw [mdel, if_pos rfl]; rfl⟩
 | q :: l, j + 1, p, h, hd => by
  have h' : l[j]? = some p := by simpa using h
  simp only [List.map_cons, List.nodup_cons] at hd
  have hne : q.1 ≠ p.1 := fun e => hd.1 (e ▸ List.mem_map.2 ⟨p, List.mem_of_getElem? h', rfl⟩)
  obtain ⟨h1, h2, h3⟩ := m_some l j p h' hd.2
  exact ⟨by rw [mget, if_neg hne]; exact h1, fun v => by rw [mput, if_neg hne, h2]; rfl, by rw [mdel, if_neg hne, h3]; rfl⟩
theorem mget_iff (l : List (α × β)) (a : α) : mget l a = none ↔ ∀ p ∈ l, p.1 ≠ a := by
 constructor
 ·intro h p hp e
  induction l with
  | nil => simp at hp
  | cons q l ih =>
   unfold mget at h
   by_cases hq : q.1 = a
   ·rw [if_pos hq] at h; cases h
   ·rw [if_neg hq] at h
    rcases List.mem_cons.1 hp with rfl | hp
    ·exact hq e
    ·exact ih h hp
 ·intro h; exact (m_none l a h).1
end plain
/-- how a map's keys are coded -/
structure KC (P : Program) (k : TypeId) (α : Type) where
 enc : α → Value
 Gd : α → Prop
 K : Keyed P k
 good : ∀ a, Gd a → ∃ l, keyOf P k (enc a) = some l
 inj : ∀ a b, enc a = enc b → a = b
structure MapOk {P : Program} {k : TypeId} {α β : Type} (C : KC P k α) (venc : β → Value) (es : Array MapEntry) (clock : Nat) (l : List (α × β)) : Prop where
 rd : es.toList.map (fun e => (e.key, e.val)) = l.map (fun p => (C.enc p.1, venc p.2))
 gd : ∀ p ∈ l, C.Gd p.1
 nd : (l.map Prod.fst).Nodup
 born : ∀ x ∈ es.toList, x.born < clock
 bn : (es.toList.map (·.born)).Nodup
section
variable {P : Program} {k : TypeId} {α β : Type} [DecidableEq α] {C : KC P k α} {venc : β → Value} {es : Array MapEntry} {clock : Nat} {l : List (α × β)}
theorem MapOk.nil : MapOk C venc #[] 0 [] := ⟨rfl, by simp, by simp, by simp, by simp⟩
theorem MapOk.len (h : MapOk C venc es clock l) : es.size = l.length := by
 have := congrArg List.length h.rd; simpa using this
theorem MapOk.at (h : MapOk C venc es clock l) (j : Nat) (e : MapEntry) (he : es.toList[j]? = some e) : ∃ p, l[j]? = some p ∧ e.key = C.enc p.1 ∧ e.val = venc p.2 := by
 have h1 := congrArg (fun x => x[j]?) h.rd
 simp only [List.getElem?_map, he, Option.map_some] at h1
 cases hl : l[j]? with
 | none => rw [hl] at h1; cases h1
 | some p =>
  rw [hl] at h1
  simp only [Option.map_some, Option.some.injEq, Prod.mk.injEq] at h1
  exact ⟨p, rfl, h1.1, h1.2⟩
theorem MapOk.keys (h : MapOk C venc es clock l) : ∀ e ∈ es.toList, ∃ lit, keyOf P k e.key = some lit := fun e he => by
 obtain ⟨j, hj⟩ := List.getElem?_of_mem he
 obtain ⟨p, hp, hk, _⟩ := h.at j e hj
 rw [hk]; exact C.good _ (h.gd p (List.mem_of_getElem? hp))
theorem MapOk.find (h : MapOk C venc es clock l) (a : α) (ga : C.Gd a) (W : World) :
  ((∀ p ∈ l, p.1 ≠ a) ∧ (Instr.findKey k (C.enc a) es.toList).run P W = .ok none W) ∨
  ∃ j p e, l[j]? = some p ∧ p.1 = a ∧ es.toList[j]? = some e ∧ e.key = C.enc a ∧ e.val = venc p.2 ∧ (Instr.findKey k (C.enc a) es.toList).run P W = .ok (some (j, venc p.2)) W := by
 obtain ⟨lit, hk⟩ := C.good a ga
 rcases C.K.find W hk es.toList h.keys with ⟨h1, h2⟩ | ⟨j, e, h1, h2, h3⟩
 ·refine .inl ⟨fun p hp e => ?_, h1⟩
  obtain ⟨j, hj⟩ := List.getElem?_of_mem hp
  have h4 := congrArg (fun x => x[j]?) h.rd
  simp only [List.getElem?_map, hj, Option.map_some] at h4
  cases he : es.toList[j]? with
  | none => rw [he] at h4; cases h4
  | some x =>
   rw [he] at h4
   simp only [Option.map_some, Option.some.injEq, Prod.mk.injEq] at h4
   exact h2 x (List.mem_of_getElem? he) (by rw [h4.1, e])
 ·obtain ⟨p, hp, hpk, hpv⟩ := h.at j e h2
  refine .inr ⟨j, p, e, hp, C.inj _ _ (hpk ▸ h3), h2, h3, hpv, ?_⟩
  rw [← hpv]; exact h1
/-- m[a] -/
theorem MapOk.look {t e : TypeId} (h : MapOk C venc es clock l) (ht : P.underlying t = some (.map k e)) {z : Value} {W : World} (hz : (zeroValue e).run P W = .ok z W) {b : Nat} (hb : W.heap[b]? = some (.map es clock)) (a : α) (ga : C.Gd a) (ok : Bool) :
  (Instr.lookup t (.map (some b)) (C.enc a) ok).run P W = .ok (if ok then .tuple #[((mget l a).map venc).getD z, .bool (mget l a).isSome] else ((mget l a).map venc).getD z) W := by
 obtain ⟨lit, hk⟩ := C.good a ga
 rcases h.find a ga W with ⟨h1, h2⟩ | ⟨j, p, x, h1, rfl, h3, h4, h5, h6⟩
 ·rw [(m_none l a h1).1]
  simp [Instr.lookup, run_underlying ht, MapKept.run_getObj_map hb, C.K.check W _ hk, h2, hz, Result.andThen]
 ·rw [(m_some l j p h1 h.nd).1]
  simp [Instr.lookup, run_underlying ht, MapKept.run_getObj_map hb, C.K.check W _ hk, h6, Result.andThen]
/-- m[a] = v -/
theorem MapOk.put {t e : TypeId} (h : MapOk C venc es clock l) (ht : P.underlying t = some (.map k e)) {W : World} {b : Nat} (hb : W.heap[b]? = some (.map es clock)) (a : α) (ga : C.Gd a) (v : β) :
  ∃ es' clock', (Instr.mapUpdate t (.map (some b)) (C.enc a) (venc v)).run P W = .ok () (setBlock W b (.map es' clock')) ∧ MapOk C venc es' clock' (mput l a v) := by
 obtain ⟨lit, hk⟩ := C.good a ga
 rcases h.find a ga W with ⟨h1, h2⟩ | ⟨j, p, x, h1, rfl, h3, h4, h5, h6⟩
 ·refine ⟨es.push ⟨C.enc a, venc v, clock⟩, clock + 1, ?_, ?_⟩
  ·simp [Instr.mapUpdate, run_underlying ht, MapKept.run_getObj_map hb, C.K.check W _ hk, h2, MapKept.run_setObj_map _ hb, Result.andThen, setBlock]
  ·rw [(m_none l a h1).2.1]
   refine ⟨?_, fun p hp => ?_, ?_, fun x hx => ?_, ?_⟩
   ·rw [Array.toList_push, List.map_append, List.map_append, h.rd]; rfl
   ·rcases List.mem_append.1 hp with hp | hp
    ·exact h.gd p hp
    ·rw [List.mem_singleton.1 hp]; exact ga
   ·rw [List.map_append]
    refine List.nodup_append.2 ⟨h.nd, by simp, fun x hx y hy e => ?_⟩
    obtain ⟨p, hp, rfl⟩ := List.mem_map.1 hx
    simp at hy
    exact h1 p hp (e.trans hy)
   ·rw [Array.toList_push] at hx
    rcases List.mem_append.1 hx with hx | hx
    ·have := h.born x hx; omega
    ·rw [List.mem_singleton.1 hx]; exact Nat.lt_succ_self _
   ·rw [Array.toList_push, List.map_append]
    refine List.nodup_append.2 ⟨h.bn, by simp, fun x hx y hy e => ?_⟩
    obtain ⟨p, hp, rfl⟩ := List.mem_map.1 hx
    simp at hy
    have := h.born p hp; omega
 ·have hst := C.K.stays W hk
  have hj : j < es.size := by have := (List.getElem?_eq_some_iff.1 h3).1; simpa using this
  have hxa : es[j]? = some x := by rw [← Array.getElem?_toList]; exact h3
  refine ⟨es.modify j fun e => { e with key := C.enc p.1, val := venc v }, clock, ?_, ?_⟩
  ·simp [Instr.mapUpdate, run_underlying ht, MapKept.run_getObj_map hb, C.K.check W _ hk, h6, hxa, h4, hst, MapKept.run_setObj_map _ hb, Result.andThen, setBlock]
  ·have hes : (es.modify j fun e => { e with key := C.enc p.1, val := venc v }).toList = es.toList.set j { x with key := C.enc p.1, val := venc v } := by
    rw [Array.toList_modify]
    apply List.ext_getElem?
    intro i
    rw [List.getElem?_modify, List.getElem?_set]
    by_cases e : j = i
    ·subst e; rw [if_pos rfl, h3, if_pos (by simpa using hj)]; simp
    ·rw [if_neg e]; simp [e]
   rw [(m_some l j p h1 h.nd).2.1]
   have hfst : (l.set j (p.1, v)).map Prod.fst = l.map Prod.fst := by
    rw [List.map_set]
    apply List.ext_getElem?
    intro i
    rw [List.getElem?_set]
    by_cases e : j = i
    ·subst e
     rw [if_pos rfl, List.getElem?_map, h1]
     have := (List.getElem?_eq_some_iff.1 h1).1
     rw [if_pos (by simpa using this)]; rfl
    ·rw [if_neg e]
   have hbn : (es.toList.set j { x with key := C.enc p.1, val := venc v }).map (·.born) = es.toList.map (·.born) := by
    rw [List.map_set]
    apply List.ext_getElem?
    intro i
    rw [List.getElem?_set]
    by_cases e : j = i
    ·subst e
     rw [if_pos rfl, List.getElem?_map, h3, if_pos (by simpa using hj)]; rfl
    ·rw [if_neg e]
   refine ⟨?_, fun q hq => ?_, by rw [hfst]; exact h.nd, fun y hy => ?_, by rw [hes, hbn]; exact h.bn⟩
   ·rw [hes, List.map_set, List.map_set, h.rd]
   ·rcases List.mem_or_eq_of_mem_set hq with hq | rfl
    ·exact h.gd q hq
    ·exact h.gd p (List.mem_of_getElem? h1)
   ·rw [hes] at hy
    rcases List.mem_or_eq_of_mem_set hy with hy | rfl
    ·exact h.born y hy
    ·exact h.born x (List.mem_of_getElem? h3)
end
end Go.Proofs.Ytlakbclnilakbaa
end

section
namespace Go.Proofs.Ytlakbclnilakbaa
open Go.RowKit Go.MapKept
open Go.Maps (Keyed)
open Go.ChangeMaps (setBlock)
/-- what is still to come -/
def mleft {α β : Type} (lb : List ((α × β) × Bool)) : List (α × β) := (lb.filter (·.2)).map (·.1)
theorem mleft_set {α β : Type} : ∀ (lb : List ((α × β) × Bool)) (j : Nat) (p : α × β), lb[j]? = some (p, true) → (mleft lb).Perm (p :: mleft (lb.set j (p, false)))
 | [], j, p, h => by simp at h
 | q :: lb, 0, p, h => by
  obtain rfl : q = (p, true) := by simpa using h
  simp [mleft]
 | q :: lb, j + 1, p, h => by
  have ih := mleft_set lb j p (by simpa using h)
  obtain ⟨q1, q2⟩ := q
  cases q2 with
  | false => simpa [mleft] using ih
  | true =>
   have : (q1 :: mleft lb).Perm (p :: q1 :: mleft (lb.set j (p, false))) := (ih.cons q1).trans (List.Perm.swap _ _ _)
   simpa [mleft] using this
theorem mleft_all {α β : Type} (l : List (α × β)) : mleft (l.map fun p => (p, true)) = l := by
 unfold mleft
 induction l with
 | nil => rfl
 | cons p l ih => simpa using ih
theorem mleft_nil {α β : Type} (lb : List ((α × β) × Bool)) : mleft lb = [] ↔ ∀ q ∈ lb, q.2 = false := by
 unfold mleft
 rw [List.map_eq_nil_iff, List.filter_eq_nil_iff]
 constructor
 ·intro h q hq; have := h q hq; simpa using this
 ·intro h q hq; rw [h q hq]; simp
structure IterOk {P : Program} {k : TypeId} {α β : Type} (C : KC P k α) (venc : β → Value) (es : Array MapEntry) (clock since : Nat) (seen : Array Nat) (c0 : Nat) (lb : List ((α × β) × Bool)) : Prop where
 ok : MapOk C venc es clock (lb.map (·.1))
 fl : es.toList.map (fun e => !seen.contains e.born) = lb.map (·.2)
 old : ∀ x ∈ es.toList, x.born < since
 s0 : since ≤ c0
 s1 : since ≤ clock
section
variable {P : Program} {k : TypeId} {α β : Type} [DecidableEq α] {C : KC P k α} {venc : β → Value} {es : Array MapEntry} {clock since c0 : Nat} {seen : Array Nat} {lb : List ((α × β) × Bool)} {l : List (α × β)}
theorem IterOk.start (h : MapOk C venc es clock l) : IterOk C venc es clock clock #[] clock (l.map fun p => (p, true)) := by
 have e : (l.map fun p => (p, true)).map (·.1) = l := by rw [List.map_map]; exact List.map_id' l
 refine ⟨by rw [e]; exact h, ?_, h.born, Nat.le_refl _, Nat.le_refl _⟩
 have hl : es.toList.length = l.length := by rw [Array.length_toList]; exact h.len
 rw [List.map_map]
 apply List.ext_getElem?
 intro i
 rw [List.getElem?_map, List.getElem?_map]
 by_cases hi : i < l.length
 ·rw [List.getElem?_eq_getElem (by omega), List.getElem?_eq_getElem hi]; simp
 ·rw [List.getElem?_eq_none (by omega), List.getElem?_eq_none (by omega)]; rfl
theorem IterOk.at (h : IterOk C venc es clock since seen c0 lb) (j : Nat) (e : MapEntry) (he : es.toList[j]? = some e) : ∃ p, lb[j]? = some (p, !seen.contains e.born) ∧ e.key = C.enc p.1 ∧ e.val = venc p.2 := by
 obtain ⟨p, hp, h1, h2⟩ := h.ok.at j e he
 have h3 := congrArg (fun x => x[j]?) h.fl
 simp only [List.getElem?_map, he, Option.map_some] at h3 hp
 cases hq : lb[j]? with
 | none => rw [hq] at hp; cases hp
 | some q =>
  rw [hq] at hp h3
  simp only [Option.map_some, Option.some.injEq] at hp h3
  obtain ⟨q1, q2⟩ := q
  simp only at hp h3
  exact ⟨p, by rw [hp, h3], h1, h2⟩
/-- the step -/
theorem IterOk.next (h : IterOk C venc es clock since seen c0 lb) {W : World} {b r : Nat} (hb : W.heap[b]? = some (.map es clock)) (hr : W.heap[r]? = some (.mapIter (some b) since seen c0)) (ty : TypeId) :
  (mleft lb = [] ∧ (Instr.next (.pointer (some ⟨r, 0, none⟩)) false ty).run P W = .ok (.tuple #[.bool false]) W) ∨
  (mleft lb ≠ [] ∧ ∃ j p e, ∃ w1 : World, (w1 = W ∨ w1 = W.drew) ∧ lb[j]? = some (p, true) ∧ e ∈ es.toList ∧ e.key = C.enc p.1 ∧ e.val = venc p.2 ∧ (Instr.next (.pointer (some ⟨r, 0, none⟩)) false ty).run P W = .ok (.tuple #[.bool true, C.enc p.1, venc p.2]) (setBlock w1 r (.mapIter (some b) since (seen.push e.born) clock)) ∧ IterOk C venc es clock since (seen.push e.born) clock (lb.set j (p, false))) := by
 rcases run_next_at (P := P) W ty r b since c0 seen es clock hr hb h.old h.s0 with ⟨h0, hrun⟩ | ⟨e, he, w1, hal, hrun⟩
 ·refine .inl ⟨(mleft_nil lb).2 fun q hq => ?_, hrun⟩
  obtain ⟨j, hj⟩ := List.getElem?_of_mem hq
  have h3 := congrArg (fun x => x[j]?) h.fl
  simp only [List.getElem?_map, hj, Option.map_some] at h3
  cases hx : es.toList[j]? with
  | none => rw [hx] at h3; cases h3
  | some x =>
   rw [hx] at h3
   simp only [Option.map_some, Option.some.injEq] at h3
   rw [← h3, all_seen es seen h0 x (List.mem_of_getElem? hx)]; rfl
 ·obtain ⟨hem, hes⟩ := mem_left he
  obtain ⟨j, hj⟩ := List.getElem?_of_mem hem
  obtain ⟨p, hp, hk, hv⟩ := h.at j e hj
  rw [hes] at hp
  refine .inr ⟨fun hn => ?_, j, p, e, w1, hal, hp, hem, hk, hv, by rw [← hk, ← hv]; exact hrun, ?_⟩
  ·have := (mleft_nil lb).1 hn _ (List.mem_of_getElem? hp); cases this
  ·have hfst : (lb.set j (p, false)).map (·.1) = lb.map (·.1) := by
    rw [List.map_set]
    apply List.ext_getElem?
    intro i
    rw [List.getElem?_set]
    by_cases e : j = i
    ·subst e
     rw [if_pos rfl, List.getElem?_map, hp]
     have := (List.getElem?_eq_some_iff.1 hp).1
     rw [if_pos (by simpa using this)]; rfl
    ·rw [if_neg e]
   refine ⟨by rw [hfst]; exact h.ok, ?_, h.old, h.s1, h.s1⟩
   have hlen := congrArg List.length h.fl
   simp only [List.length_map] at hlen
   rw [List.map_set]
   apply List.ext_getElem?
   intro i
   rw [List.getElem?_set]
   have h3 := congrArg (fun x => x[i]?) h.fl
   simp only [List.getElem?_map] at h3 ⊢
   by_cases e2 : j = i
   ·subst e2
    rw [if_pos rfl, hj, if_pos (by have := (List.getElem?_eq_some_iff.1 hp).1; simpa using this)]
    simp
   ·rw [if_neg e2, ← h3]
    cases hx : es.toList[i]? with
    | none => rfl
    | some x =>
     have hne : x.born ≠ e.born := fun hbe => by
      have g1 := h.ok.bn
      have hi := (List.getElem?_eq_some_iff.1 hx).1
      have hj' := (List.getElem?_eq_some_iff.1 hj).1
      have a1 : (es.toList.map (·.born))[i]? = some x.born := by rw [List.getElem?_map, hx]; rfl
      have a2 : (es.toList.map (·.born))[j]? = some x.born := by rw [List.getElem?_map, hj, hbe]; rfl
      exact e2 (((List.getElem?_inj (by simpa using hi) g1).1 (a1.trans a2.symm)).symm)
     simp [hne]
end
end Go.Proofs.Ytlakbclnilakbaa
end

section
namespace Go.Proofs.Ytlakbclnilakbaa
open Go.RowKit Go.MapKept
open Go.Maps (Keyed)
open Go.ChangeMaps (setBlock)
section
variable {P : Program} {kt : TypeId} {α β : Type}
/-- a map -/
def mp (C : KC P kt α) (venc : β → Value) (b : Nat) (l : List (α × β)) : Ent :=
 ⟨[b], fun W => ∃ es clock, W.heap[b]? = some (.map es clock) ∧ MapOk C venc es clock l, by
  rintro W ⟨es, clock, h, _⟩ i hi
  rw [List.mem_singleton.1 hi]; exact arr_lt h, by
  rintro W W' h ⟨es, clock, hb, hk⟩
  exact ⟨es, clock, by rw [h b (by simp)]; exact hb, hk⟩⟩
end
theorem only_sb (W : World) (b : Nat) (o : Obj) : Only [b] W (setBlock W b o) :=
 ⟨rfl, rfl, rfl, by simp [setBlock], fun i _ hi => by
  have : b ≠ i := fun e => hi (by rw [e]; simp)
  simp [setBlock, Array.getElem?_setIfInBounds, this]⟩
theorem set_at (W : World) (b : Nat) (o o1 : Obj) (h : W.heap[b]? = some o1) : (setBlock W b o).heap[b]? = some o := by
 have := arr_lt h
 simp [setBlock, Array.getElem?_setIfInBounds, this]
section
variable {P : Program} {kt : TypeId} {α β : Type} [DecidableEq α] {C : KC P kt α} {venc : β → Value} {b r : Nat} {l : List (α × β)} {lb : List ((α × β) × Bool)} {cur : Option (α × β)} {W w0 : World} {F : List Nat} {L : List Ent}
theorem Heap.mp_get (H : Heap w0 F L W) (j : Nat) (hj : L[j]? = some (mp C venc b l)) : ∃ es clock, W.heap[b]? = some (.map es clock) ∧ MapOk C venc es clock l := H.ok _ (List.mem_of_getElem? hj)
theorem Heap.mp_set (H : Heap w0 F L W) (j : Nat) (hj : L[j]? = some (mp C venc b l)) {es : Array MapEntry} {clock : Nat} {l' : List (α × β)} (hk : MapOk C venc es clock l') : Heap w0 F (L.set j (mp C venc b l')) (setBlock W b (.map es clock)) := by
 obtain ⟨es0, clock0, hb, _⟩ := H.mp_get j hj
 refine H.at j hj (F' := [b]) ⟨?_, by simp [ids, mp], by simp [ids, mp], only_sb W b _⟩ (by simp [mp])
 intro E hE
 rw [List.mem_singleton.1 hE]
 exact ⟨es, clock, set_at W b _ _ hb, hk⟩
end
section
variable {P : Program} {ops : Array Oper} {rest : List Oper} {n : Sz} {k : Nat} {f : Nat → Value} {W W' w0 : World} {F : List Nat} {L : List Ent} {Q : Exit → Act → World → Prop} {ty : TypeId} {pos : String} {af : Array Edge} {g : Option (Nat × Bool)} {dst : Option Tmp} {x y u : Operand} {v z : Value} {t e kt : TypeId}
variable {α β : Type} [DecidableEq α] {C : KC P kt α} {venc : β → Value} {b r : Nat} {l : List (α × β)} {lb : List ((α × β) × Bool)} {cur : Option (α × β)} {a : α} {q : β}
/-- make(map[K]V) -/
theorem s_mm (C : KC P kt α) (venc : β → Value) (H : Heap w0 F L W) (hw : Region.wanted ⟨some k, .makeMap t none, ty, pos, af, g⟩ (yl n f ops) = true)
  (h : ∀ b W', Heap w0 F (mp C venc b ([] : List (α × β)) :: L) W' → SL P ops Q rest n (upd f k (.map (some b))) W') : SL P ops Q (⟨some k, .makeMap t none, ty, pos, af, g⟩ :: rest) n f W := by
 refine s_run rfl hw (W' := W.alloc (.map #[] 0)) rfl (h _ _ (H.more (A := [mp C venc W.heap.size []]) ⟨?_, by simp [ids, mp], by simp [ids, mp], ?_⟩))
 ·intro E hE
  rw [List.mem_singleton.1 hE]
  exact ⟨#[], 0, heap_alloc_new W _, MapOk.nil⟩
 ·exact Only.of_below ((Below.refl _ _).alloc (Nat.le_refl _) _) _
/-- m[a] -/
theorem r_lk (H : Heap w0 F L W) (j : Nat) (hj : L[j]? = some (mp C venc b l)) (hx : ev n f x = .map (some b)) (hy : ev n f y = C.enc a) (ga : C.Gd a) (ht : P.underlying t = some (.map kt e)) (hz : ∀ W, (zeroValue e).run P W = .ok z W) (ok : Bool) :
  (execOp (ev n f) ⟨dst, .lookup t x y ok, ty, pos, af, g⟩).run P W = .ok (.value (if ok then .tuple #[((mget l a).map venc).getD z, .bool (mget l a).isSome] else ((mget l a).map venc).getD z)) W := by
 obtain ⟨es, clock, hb, hk⟩ := H.mp_get j hj
 have h := hk.look ht (hz W) hb a ga ok
 simp only [execOp, hx, hy, Sem.run_bind, h, Result.andThen_ok, Sem.run_pure]
theorem r_lkS (H : Heap w0 F L W) (j : Nat) (hj : L[j]? = some (mp C venc b l)) (hx : ev n f x = .map (some b)) (hy : ev n f y = C.enc a) (ga : C.Gd a) (hm : mget l a = some q) (ht : P.underlying t = some (.map kt e)) (hz : ∀ W, (zeroValue e).run P W = .ok z W) (hv : venc q = v) :
  (execOp (ev n f) ⟨dst, .lookup t x y false, ty, pos, af, g⟩).run P W = .ok (.value v) W := by
 have h := r_lk (dst := dst) (ty := ty) (pos := pos) (af := af) (g := g) H j hj hx hy ga ht hz false
 rw [h, hm, ← hv]; rfl
theorem r_lkN (H : Heap w0 F L W) (j : Nat) (hj : L[j]? = some (mp C venc b l)) (hx : ev n f x = .map (some b)) (hy : ev n f y = C.enc a) (ga : C.Gd a) (hm : mget l a = none) (ht : P.underlying t = some (.map kt e)) (hz : ∀ W, (zeroValue e).run P W = .ok z W) :
  (execOp (ev n f) ⟨dst, .lookup t x y false, ty, pos, af, g⟩).run P W = .ok (.value z) W := by
 have h := r_lk (dst := dst) (ty := ty) (pos := pos) (af := af) (g := g) H j hj hx hy ga ht hz false
 rw [h, hm]; rfl
/-- m[a] = q -/
theorem s_mu (H : Heap w0 F L W) (j : Nat) (hw : Region.wanted ⟨none, .mapUpdate t x y u, ty, pos, af, g⟩ (yl n f ops) = true) (hj : L[j]? = some (mp C venc b l)) (hx : ev n f x = .map (some b)) (hy : ev n f y = C.enc a) (hu : ev n f u = venc q) (ga : C.Gd a) (ht : P.underlying t = some (.map kt e))
  (h : ∀ W', Heap w0 F (L.set j (mp C venc b (mput l a q))) W' → SL P ops Q rest n f W') : SL P ops Q (⟨none, .mapUpdate t x y u, ty, pos, af, g⟩ :: rest) n f W := by
 obtain ⟨es, clock, hb, hk⟩ := H.mp_get j hj
 obtain ⟨es', clock', hrun, hk'⟩ := hk.put ht hb a ga q
 exact s_do rfl hw (by simp only [execOp, hx, hy, hu, Sem.run_bind, hrun, Result.andThen_ok, Sem.run_pure]) (h _ (H.mp_set j hj hk'))
end
theorem zv_of {P : Program} {t : TypeId} {z : Value} {size bytes : Nat} (hi : Inf P t z size bytes) : ∀ W, (zeroValue t).run P W = .ok z W := by
 obtain ⟨i, h1, h2, _, _⟩ := hi.ex
 exact fun W => by simp [zeroValue, typeInfo, h1, h2]
/-- keys that are ints -/
def kI (P : Program) (kt : TypeId) (h : P.underlying kt = some (.int .i64)) : KC P kt Int :=
 ⟨Value.int .i64, fun a => -9223372036854775808 ≤ a ∧ a ≤ 9223372036854775807, Go.Maps.int_keyed h, fun a ha => ⟨_, Go.Maps.keyOf_int_mk h (wf_i64 ha)⟩, fun a b e => by injection e⟩
end Go.Proofs.Ytlakbclnilakbaa
end

section
namespace Go.Proofs.Ytlakbclnilakbaa
open Go.RowKit
theorem set_perm {α : Type _} (L : List α) (k : Nat) (E : α) (hk : k < L.length) : (L.set k E).Perm (E :: L.eraseIdx k) := by
 have : (L.set k E).eraseIdx k = L.eraseIdx k := by
  apply List.ext_getElem?
  intro i
  simp only [List.getElem?_eraseIdx, List.getElem?_set]
  split
  ·rw [if_neg (by omega)]
  ·rw [if_neg (by omega)]
 rw [← this]
 have h2 := pick_perm (L.set k E) k (by simpa using hk)
 rwa [List.getElem_set_self] at h2
theorem tk_snoc {α : Type} {l : List α} {k : Nat} {x : α} (h : l[k]? = some x) : l.take k ++ [x] = l.take (k + 1) := by rw [List.take_add_one, h]; rfl
section
variable {P : Program} {n : Sz} {f : Nat → Value} {W w0 : World} {dst : Option Tmp} {ty : TypeId} {pos : String} {af : Array Edge} {g : Option (Nat × Bool)} {x y : Operand} {t t2 e : TypeId} {v : Value} {k k2 : IntKind} {a b : Int}
/-- s[:hi:max] -/
theorem r_shm {A : Option Addr} {l c : Nat} {hi mx : Operand} {j j2 m : Nat} (hx : ev n f x = .slice A l c) (hh : ev n f hi = .int k a) (ha : a = (j : Int)) (hq : ev n f mx = .int k2 b) (hb : b = (j2 : Int)) (hj : j ≤ j2) (hj2 : j2 ≤ c) (h : P.underlying t = some (.slice e)) (hm : ∀ W, (Go.sizeOf e).run P W = .ok m W) :
  (execOp (ev n f) ⟨dst, .slice t x none (some hi) (some mx), ty, pos, af, g⟩).run P W = .ok (.value (.slice A j j2)) W := by
 subst ha; subst hb
 have h1 : (0 : Int) ≤ j ∧ (j : Int) ≤ j2 := by omega
 have h2 : (0 : Int) ≤ j2 ∧ (j2 : Int) ≤ c := by omega
 have h0 : ∀ p : Addr, p.add 0 = p := fun p => by simp [Addr.add]
 simp only [execOp, Instr.sliceAt, Instr.slice, Instr.sliceBounds, Instr.sliceBound, hx, hh, hq, asIntOf, Option.map_some, Option.map_none, Sem.run_bind, run_underlying h, Result.andThen_ok, Sem.run_pure, h1, h2, and_self, if_true, hm, Int.toNat_natCast, Nat.zero_mul, Nat.sub_zero]
 cases A <;> simp [h0]
/-- s[lo:] of any slice -/
def sloA (A : Option Addr) (c i m : Nat) : Option Addr := A.map fun p => if c = i then p else p.add (i * m)
theorem r_sloA {A : Option Addr} {l c : Nat} {lo : Operand} {i m : Nat} (hx : ev n f x = .slice A l c) (hl : ev n f lo = .int k a) (ha : a = (i : Int)) (hi : i ≤ l) (h : P.underlying t = some (.slice e)) (hm : ∀ W, (Go.sizeOf e).run P W = .ok m W) :
  (execOp (ev n f) ⟨dst, .slice t x (some lo) none none, ty, pos, af, g⟩).run P W = .ok (.value (.slice (sloA A c i m) (l - i) (c - i))) W := by
 subst ha
 have h1 : (0 : Int) ≤ i ∧ (i : Int) ≤ l := by omega
 simp only [execOp, Instr.sliceAt, Instr.slice, Instr.sliceBounds, Instr.sliceBound, hx, hl, asIntOf, Option.map_some, Option.map_none, Sem.run_bind, run_underlying h, Result.andThen_ok, Sem.run_pure, h1, and_self, if_true, hm, Int.toNat_natCast]
 cases A with
 | none => simp [sloA]
 | some p => by_cases h2 : c = i <;> simp [sloA, h2]
theorem Sees.slo {α : Type} {enc : α → Value} {w : World} {F : List Nat} {A : Option Addr} {xs : List α} (h : Sees enc w F A xs) {c : Nat} (i : Nat) (hc : xs.length ≤ c) : Sees enc w F (sloA A c i 1) (xs.drop i) := by
 intro h0
 rw [List.length_drop] at h0
 obtain ⟨b, o, e, hb, hr⟩ := h (by omega)
 subst e
 refine ⟨b, o + i, ?_, hb, fun j z hj => ?_⟩
 ·show some (if c = i then _ else _) = _
  rw [if_neg (by omega)]; simp [Addr.add]
 ·rw [List.getElem?_drop] at hj
  rw [Nat.add_assoc]; exact hr _ z hj
theorem Sees.head {α : Type} {enc : α → Value} {w : World} {F : List Nat} {A : Option Addr} {xs : List α} (h : Sees enc w F A xs) (k : Nat) : Sees enc w F A (xs.take k) := by
 intro h0
 obtain ⟨b, o, e, hb, hr⟩ := h (by rw [List.length_take] at h0; omega)
 refine ⟨b, o, e, hb, fun j z hj => hr j z ?_⟩
 rw [List.getElem?_take] at hj
 split at hj
 ·exact hj
 ·cases hj
theorem own_cap {size m c : Nat} {A : Option Addr} {xs : List Value} {T : TypeId} {F : List Nat} {L : List Ent} (H : Heap w0 F L W) (j : Nat) (hj : L[j]? = some (ownN size (.slice A m c) m xs T)) : m ≤ c := by
 rcases (H.own_get j hj).2 with ⟨e, h0⟩ | ⟨g, cap, cur, e, _, _, h, _⟩
 ·injection e with _ _ e; omega
 ·injection e with _ _ e; omega
theorem own_seesC {α : Type} {enc : α → Value} {size : Nat} {F : List Nat} {L : List Ent} (H : Heap w0 F L W) (j : Nat) {A : Option Addr} {n c : Nat} {xs : List α} {T : TypeId} (hj : L[j]? = some (ownN size (.slice A n c) n (xs.map enc) T)) : Sees enc W [] A xs := by
 intro h0
 obtain ⟨b, e, _, hr⟩ := H.own_seesN j hj h0
 exact ⟨b, 0, e, by simp, hr⟩
end
section
variable {P : Program} {ops : Array Oper} {rest : List Oper} {n : Sz} {k k2 : Nat} {f : Nat → Value} {W w0 : World} {F : List Nat} {L : List Ent} {Q : Exit → Act → World → Prop} {ty ty2 : TypeId} {pos pos2 : String} {af af2 : Array Edge} {g : Option (Nat × Bool)} {x y s : Operand} {v u : Value} {t e : TypeId}
theorem owns_any {W : World} {lo : Nat} {T : TypeId} {size : Nat} {v : Value} {n : Nat} {xs : List Value} (h : W.ownsRow lo T size v n xs) : W.ownsRow 0 T size v n xs :=
 ⟨h.1, h.2.imp id fun ⟨g, cap, cur, e, hg, r⟩ => ⟨g, cap, cur, e, Nat.zero_le _, r⟩⟩
/-- append(s, y...): s is full; both are only read -/
theorem s_apG {α : Type} {enc : α → Value} {z0 : Value} {bytes m l c : Nat} {A B : Option Addr} {xs zs : List α} (H : Heap w0 F L W) (hS : Sees enc W [] A xs) (hl : xs.length = m) (hZ : Sees enc W [] B zs) (hzl : zs.length = l) (h0 : 0 < l)
  (hw : Region.wanted ⟨some k, .call ⟨.builtin .append, #[s, y], #[t, t]⟩, ty, pos, af, g⟩ (yl n f ops) = true) (hs : ev n f s = .slice A m m) (hy : ev n f y = .slice B l c) (h1 : ∀ z, (enc z).oneCell' = true)
  (hm : m + l ≤ 100000000000 ∧ (m + l) * bytes ≤ 140737488355328) (ht : P.underlying t = some (.slice e)) (hi : Inf P e z0 1 bytes) (hz : z0.oneCell' = true)
  (h : ∀ A' c' W', Heap w0 F (ownN 1 (.slice A' (m + l) c') (m + l) ((xs ++ zs).map enc) e :: L) W' → SL P ops Q rest n (upd f k (.slice A' (m + l) c')) W') :
  SL P ops Q (⟨some k, .call ⟨.builtin .append, #[s, y], #[t, t]⟩, ty, pos, af, g⟩ :: rest) n f W := by
 obtain ⟨i, hi0, hz0, hsz, hby⟩ := hi.ex
 obtain ⟨bz, oz, rfl, _, hrz⟩ := hZ (by omega)
 have hnew : ∀ q u, (zs.map enc)[q]? = some u → W.cell? ((⟨bz, oz, none⟩ : Addr).add q) = some u := fun q u hq => by
  rw [List.getElem?_map] at hq
  cases hzq : zs[q]? with
  | none => rw [hzq] at hq; simp at hq
  | some z => rw [hzq] at hq; rw [add_plain, hrz q z hzq]; simpa using hq
 have hone : ∀ u ∈ zs.map enc, u.oneCell' = true := fun u hu => by
  obtain ⟨z, _, rfl⟩ := List.mem_map.1 hu; exact h1 z
 obtain ⟨v', W2, hr, o1, o2⟩ : ∃ v' W2, (Builtin.append_ #[t, t] ty #[.slice A m m, .slice (some ⟨bz, oz, none⟩) l c]).run P W = .ok v' W2 ∧ W2.ownsRow W.heap.size e 1 v' (m + l) (xs.map enc ++ zs.map enc) ∧ W.grownBy W2 none := by
  cases A with
  | none =>
   have h0 : xs.length = 0 := by
    rcases Nat.eq_zero_or_pos xs.length with h0 | h0
    ·exact h0
    ·obtain ⟨q, r, e0, _⟩ := hS (by omega); cases e0
   obtain rfl : xs = [] := List.eq_nil_of_length_eq_zero h0
   obtain rfl : m = 0 := by simpa using hl.symm
   obtain ⟨v2, W2, hr2, h22, h23, _⟩ := run_append_own (P := P) W W.heap.size t ty e i z0 1 bytes ht hi0 hz0 hsz hby (by simp [one_cells hz]) (by omega) (.slice none 0 0) 0 [] (World.ownsRow_nil _ _ e 1) ⟨bz, oz, none⟩ l c (zs.map enc) (by simp [hzl]) hnew hone (by unfold maxLen; omega) hm.2 (Nat.le_refl _)
   exact ⟨v2, W2, hr2, by simpa using h22, h23⟩
  | some p =>
   have holds : ∀ j u, (xs.map enc)[j]? = some u → W.cell? (p.add j) = some u := fun j u hj => by
    rw [List.getElem?_map] at hj
    cases hzj : xs[j]? with
    | none => rw [hzj] at hj; simp at hj
    | some x' =>
     rw [hzj] at hj
     obtain ⟨b, o, e0, hb, hr⟩ := hS (by have := (List.getElem?_eq_some_iff.1 hzj).1; omega)
     injection e0 with e0
     subst e0
     rw [add_plain, hr j x' hzj]; simpa using hj
   obtain ⟨v2, W2, hr2, h22, h23⟩ := run_append_arg_grows (P := P) (w := W) t ty e i z0 1 bytes ht hi0 hz0 hsz hby (by simp [one_cells hz]) (by omega) p m m (xs.map enc) (by simp [hl]) holds ⟨bz, oz, none⟩ l c (zs.map enc) (by simp [hzl]) hnew (by omega) (by unfold maxLen; omega) hm.2
   exact ⟨v2, W2, hr2, h22, h23⟩
 obtain ⟨A', c', rfl⟩ : ∃ A c, v' = .slice A (m + l) c := by
  rcases o1.2 with ⟨rfl, h0⟩ | ⟨g, cap, cur, rfl, _⟩
  ·omega
  ·exact ⟨_, cap, rfl⟩
 have H3 : Heap w0 F (ownN 1 (.slice A' (m + l) c') (m + l) ((xs ++ zs).map enc) e :: L) W2 := by
  refine H.more (A := [ownN 1 (.slice A' (m + l) c') (m + l) ((xs ++ zs).map enc) e]) ⟨?_, ?_, ?_, ?_⟩
  ·intro E hE; rw [List.mem_singleton.1 hE]
   have := owns_any o1
   show W2.ownsRow 0 e 1 _ _ _
   rw [List.map_append]; exact this
  ·simp only [ids, ownN, List.flatMap_cons, List.flatMap_nil, List.append_nil]; exact nodup_opt _
  ·intro i hi
   simp only [ids, ownN, List.flatMap_cons, List.flatMap_nil, List.append_nil, Option.mem_toList] at hi
   exact .inr (o1.lt i hi).1
  ·exact ⟨o2.os, o2.tape, o2.output, o2.size, fun k hk hf => o2.block k hk (by simp)⟩
 exact s_run rfl hw (W' := W2) (v := .slice A' (m + l) c') (by
  simp only [execOp, resolve, invoke, builtin, List.map_toArray, List.map_cons, List.map_nil, hs, hy, Sem.run_bind, Sem.run_pure, Result.andThen_ok, hr]) (h A' c' W2 H3)
end
end Go.Proofs.Ytlakbclnilakbaa
end

section
namespace Go.Proofs.Ytlakbclnilakbaa
open Go.RowKit Go.MapKept
open Go.Maps (Keyed)
open Go.ChangeMaps (setBlock)
section
variable {P : Program} {kt : TypeId} {α β : Type}
/-- a map that lies where nothing changes -/
structure MapAt (C : KC P kt α) (venc : β → Value) (w0 : World) (F : List Nat) (b : Nat) (es : Array MapEntry) (clock : Nat) (l : List (α × β)) : Prop where
 hb : w0.heap[b]? = some (.map es clock)
 hk : MapOk C venc es clock l
 hF : b ∉ F
theorem MapAt.now {C : KC P kt α} {venc : β → Value} {w0 W : World} {F : List Nat} {b : Nat} {es : Array MapEntry} {clock : Nat} {l : List (α × β)} (M : MapAt C venc w0 F b es clock l) (hO : Only F w0 W) : W.heap[b]? = some (.map es clock) :=
 (hO.block b (arr_lt M.hb) M.hF).trans M.hb
theorem MapAt.nd {C : KC P kt α} {venc : β → Value} {w0 : World} {F : List Nat} {b : Nat} {es : Array MapEntry} {clock : Nat} {l : List (α × β)} (M : MapAt C venc w0 F b es clock l) : (l.map Prod.fst).Nodup := M.hk.nd
theorem Ents.map_at [DecidableEq α] {C : KC P kt α} {venc : β → Value} {w : World} {A : List Ent} {b : Nat} {l : List (α × β)} (hE : Ents A w) (j : Nat) (hj : A[j]? = some (mp C venc b l)) : ∃ es clock, MapAt C venc w [] b es clock l := by
 obtain ⟨es, clock, h1, h2⟩ := (Heap.start hE).mp_get j hj
 exact ⟨es, clock, h1, h2, by simp⟩
/-- the iterator of a map that is only read -/
def mri (C : KC P kt α) (venc : β → Value) (es : Array MapEntry) (clock b r : Nat) (lb : List ((α × β) × Bool)) (cur : Option (α × β)) : Ent :=
 ⟨[r], fun W => ∃ since seen c0, W.heap[r]? = some (.mapIter (some b) since seen c0) ∧ IterOk C venc es clock since seen c0 lb ∧
   ∀ p, cur = some p → ∃ (e : MapEntry) (seen' : Array Nat), seen = seen'.push e.born ∧ c0 = clock ∧ e ∈ es.toList ∧ e.key = C.enc p.1 ∧ e.val = venc p.2, by
  rintro W ⟨since, seen, c0, hr, _⟩ i hi
  rw [List.mem_singleton.1 hi]; exact arr_lt hr, by
  rintro W W' h ⟨since, seen, c0, hr, hk⟩
  exact ⟨since, seen, c0, by rw [h r (by simp)]; exact hr, hk⟩⟩
end
section
variable {P : Program} {ops : Array Oper} {rest : List Oper} {n : Sz} {k : Nat} {f : Nat → Value} {W w0 : World} {F : List Nat} {L : List Ent} {Q : Exit → Act → World → Prop} {ty : TypeId} {pos : String} {af : Array Edge} {g : Option (Nat × Bool)} {x y u : Operand} {t e kt : TypeId} {v z : Value} {dst : Option Tmp}
variable {α β : Type} [DecidableEq α] {C : KC P kt α} {venc : β → Value} {b r : Nat} {l : List (α × β)} {lb : List ((α × β) × Bool)} {cur : Option (α × β)} {a : α} {q : β} {es : Array MapEntry} {clock : Nat}
theorem Heap.mri_get (H : Heap w0 F L W) (j : Nat) (hj : L[j]? = some (mri C venc es clock b r lb cur)) : ∃ since seen c0, W.heap[r]? = some (.mapIter (some b) since seen c0) ∧ IterOk C venc es clock since seen c0 lb ∧
   ∀ p, cur = some p → ∃ (e : MapEntry) (seen' : Array Nat), seen = seen'.push e.born ∧ c0 = clock ∧ e ∈ es.toList ∧ e.key = C.enc p.1 ∧ e.val = venc p.2 := H.ok _ (List.mem_of_getElem? hj)
theorem s_rmR (M : MapAt C venc w0 F b es clock l) (H : Heap w0 F L W) (hw : Region.wanted ⟨some k, .range t x, ty, pos, af, g⟩ (yl n f ops) = true) (hx : ev n f x = .map (some b)) (ht : P.underlying t = some (.map kt e))
  (h : ∀ r W', Heap w0 F (mri C venc es clock b r (l.map fun p => (p, true)) none :: L) W' → SL P ops Q rest n (upd f k (.pointer (some ⟨r, 0, none⟩))) W') : SL P ops Q (⟨some k, .range t x, ty, pos, af, g⟩ :: rest) n f W := by
 have hb := M.now H.only
 have hrun := run_range_map (P := P) W t kt e b es clock ht hb
 refine s_run rfl hw (W' := W.alloc (.mapIter (some b) clock #[] clock)) (by simp only [execOp, hx, Sem.run_bind, hrun, Result.andThen_ok, Sem.run_pure]) (h W.heap.size _ (H.more (A := [mri C venc es clock b W.heap.size (l.map fun p => (p, true)) none]) ⟨?_, ?_, ?_, ?_⟩))
 ·intro E hE
  rw [List.mem_singleton.1 hE]
  exact ⟨clock, #[], clock, (MapKept.heap_alloc W _).1, IterOk.start M.hk, fun p hp => by cases hp⟩
 ·simp [ids, mri]
 ·intro i hi
  simp [ids, mri] at hi
  exact .inr (by omega)
 ·exact (Only.of_below ((Below.refl _ _).alloc (Nat.le_refl _) _) _)
theorem s_nx0R (M : MapAt C venc w0 F b es clock l) (H : Heap w0 F L W) (j : Nat) (hl : mleft lb = []) (hw : Region.wanted ⟨some k, .next x false, ty, pos, af, g⟩ (yl n f ops) = true) (hx : ev n f x = .pointer (some ⟨r, 0, none⟩)) (hj : L[j]? = some (mri C venc es clock b r lb cur))
  (h : SL P ops Q rest n (upd f k (.tuple [.bool false].toArray)) W) : SL P ops Q (⟨some k, .next x false, ty, pos, af, g⟩ :: rest) n f W := by
 obtain ⟨since, seen, c0, hr, hk, _⟩ := H.mri_get j hj
 rcases hk.next (M.now H.only) hr ty with ⟨_, hrun⟩ | ⟨hn, _⟩
 ·exact s_run rfl hw (by simp only [execOp, hx, Sem.run_bind, hrun, Result.andThen_ok, Sem.run_pure]) h
 ·exact absurd hl hn
theorem s_nx1R (M : MapAt C venc w0 F b es clock l) (H : Heap w0 F L W) (j : Nat) (hl : mleft lb ≠ []) (hw : Region.wanted ⟨some k, .next x false, ty, pos, af, g⟩ (yl n f ops) = true) (hx : ev n f x = .pointer (some ⟨r, 0, none⟩)) (hj : L[j]? = some (mri C venc es clock b r lb cur))
  (h : ∀ i p W', lb[i]? = some (p, true) → C.Gd p.1 → Heap w0 F (L.set j (mri C venc es clock b r (lb.set i (p, false)) (some p))) W' → SL P ops Q rest n (upd f k (.tuple [.bool true, C.enc p.1, venc p.2].toArray)) W') : SL P ops Q (⟨some k, .next x false, ty, pos, af, g⟩ :: rest) n f W := by
 obtain ⟨since, seen, c0, hr, hk, _⟩ := H.mri_get j hj
 rcases hk.next (M.now H.only) hr ty with ⟨hn, _⟩ | ⟨_, i, p, e0, w1, hal, hp, hem, hkey, hval, hrun, hk'⟩
 ·exact absurd hn hl
 ·have hr1 : w1.heap[r]? = some (.mapIter (some b) since seen c0) := by rcases hal with rfl | rfl <;> exact hr
  have ho : Only [] W w1 := by
   rcases hal with rfl | rfl
   ·exact Only.refl _ _
   ·exact ⟨rfl, rfl, rfl, Nat.le_refl _, fun _ _ _ => rfl⟩
  have gp : C.Gd p.1 := hk.ok.gd p (List.mem_map.2 ⟨(p, true), List.mem_of_getElem? hp, rfl⟩)
  refine s_run rfl hw (W' := setBlock w1 r (.mapIter (some b) since (seen.push e0.born) clock)) (by simp only [execOp, hx, Sem.run_bind, hrun, Result.andThen_ok, Sem.run_pure]) (h i p _ hp gp (H.at j hj (F' := [r]) ⟨?_, ?_, ?_, ?_⟩ (by simp [mri])))
  ·intro E hE
   rw [List.mem_singleton.1 hE]
   exact ⟨since, seen.push e0.born, clock, set_at w1 r _ _ hr1, hk', fun p' hp' => by
    injection hp' with hp'
    subst hp'
    exact ⟨e0, seen, rfl, rfl, hem, hkey, hval⟩⟩
  ·simp [ids, mri]
  ·intro i hi
   simp [ids, mri] at hi
   exact .inl (by simp [hi])
  ·exact (ho.mono (by simp)).trans (only_sb w1 r _)
theorem r_enR {p : α × β} (M : MapAt C venc w0 F b es clock l) (H : Heap w0 F L W) (j : Nat) (hj : L[j]? = some (mri C venc es clock b r lb (some p))) (hx : ev n f x = .pointer (some ⟨r, 0, none⟩)) : (execOp (ev n f) ⟨dst, .entry x, ty, pos, af, g⟩).run P W = .ok (.value (.tuple [C.enc p.1, venc p.2].toArray)) W := by
 obtain ⟨since, seen, c0, hr, hk, hc⟩ := H.mri_get j hj
 obtain ⟨e0, seen', rfl, rfl, hem, hkey, hval⟩ := hc p rfl
 have hrun := run_entry_at (P := P) W r b since seen' es c0 e0 hr (M.now H.only) hem hk.ok.bn
 rw [hkey, hval] at hrun
 simp only [execOp, hx, Sem.run_bind, hrun, Result.andThen_ok, Sem.run_pure]
end
end Go.Proofs.Ytlakbclnilakbaa
end
