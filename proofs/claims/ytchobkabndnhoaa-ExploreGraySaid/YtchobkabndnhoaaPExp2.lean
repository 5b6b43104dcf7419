/- Plain lemmas: spread numbers rise. -/
import Derived.Test.YtchobkabndnhoaaPExp
import Derived.Laws.BitsAllLaws
namespace Go.Proofs.Ytchobkabndnhoaa.Xp
set_option linter.unusedVariables false
open Go
theorem spread_pair (v m : Int) (j : Nat) (x y : Int) (hx : (spread v m)[j + 1]? = some x) (hy : (spread v m)[j]? = some y) : y < x ∧ x < v ∧ 0 ≤ y := by
  by_cases h : 1 ≤ v ∧ 1 ≤ m
  · obtain ⟨n, hn, e⟩ := spread_in v m h.1 h.2
    have hb := many_bd v m h.1 h.2
    rw [hn] at hb
    rw [e] at hx hy
    have hj : j + 1 < n := by
      have := (List.getElem?_eq_some_iff.1 hx).1
      rwa [spr_len] at this
    rw [spr_get _ _ _ _ hj] at hx
    rw [spr_get _ _ _ _ (by omega)] at hy
    have hx : sat v n (j + 1) = x := Option.some.inj hx
    have hy : sat v n j = y := Option.some.inj hy
    have a := sat_rise v n (by omega) (by omega) j
    have b := sat_lt v n (by omega) (by omega) (j + 1) (by omega)
    have c := (sat_bd v n (by omega) (by omega) j (by omega)).1
    omega
  · rw [spread_out v m h] at hx; simp at hx
theorem spread_wf (v m : Int) (hv : v ≤ 1125899906842624) : ∀ x ∈ spread v m, 0 ≤ x ∧ x ≤ 1125899906842624 := by
  intro x hx
  by_cases h : 1 ≤ v ∧ 1 ≤ m
  · obtain ⟨n, hn, e⟩ := spread_in v m h.1 h.2
    have hb := many_bd v m h.1 h.2
    rw [hn] at hb
    rw [e] at hx
    obtain ⟨i, hi, rfl⟩ := List.mem_map.1 hx
    have := List.mem_range.1 hi
    have h2 := sat_bd v n (by omega) (by omega) i (by omega)
    unfold sat at h2
    omega
  · rw [spread_out v m h] at hx; simp at hx
theorem spread_len (v m : Int) : (spread v m).length ≤ 4096 := by
  by_cases h : 1 ≤ v ∧ 1 ≤ m
  · obtain ⟨n, hn, e⟩ := spread_in v m h.1 h.2
    have hb := many_bd v m h.1 h.2
    rw [e, spr_len]; omega
  · rw [spread_out v m h]; simp
/-- the Gray way of k, its first n lines: 2 kept, 0 lost -/
def gray (k n : Nat) : List Int := (List.range n).map fun i => if gb k i then 2 else 0
theorem gray_zero (k : Nat) : gray k 0 = [] := rfl
theorem gray_succ (k n : Nat) : gray k (n + 1) = gray k n ++ [if gb k n then 2 else 0] := by simp [gray, List.range_succ]
theorem gray_len (k n : Nat) : (gray k n).length = n := by simp [gray]
theorem gray_get (k n i : Nat) (h : i < n) : (gray k n)[i]? = some (if gb k i then 2 else 0) := by simp [gray, h]
theorem and_one (i : Int) (h1 : -9223372036854775808 ≤ i) (h2 : i ≤ 9223372036854775807) : bits .and .i64 i 1 = i % 2 := by
  have e : (BitVec.ofInt 64 i &&& BitVec.ofInt 64 1).toNat = (i % 2).toNat := by
    rw [BitVec.toNat_and, BitVec.toNat_ofInt, BitVec.toNat_ofInt]
    have : ((1 : Int) % ((2 : Nat) ^ 64 : Nat)).toNat = 1 := by decide
    rw [this, Nat.and_one_is_mod]
    have : ((2 : Nat) ^ 64 : Nat) = 18446744073709551616 := by decide
    rw [this]; omega
  show IntKind.i64.wrap ((BitVec.ofInt 64 i &&& BitVec.ofInt 64 1).toNat : Int) = _
  rw [e, IntKind.wrap_i64]; omega
theorem xor_i64 (a b : Nat) (ha : a < 2 ^ 62) (hb : b < 2 ^ 62) : bits .xor .i64 (a : Int) (b : Int) = ((a ^^^ b : Nat) : Int) ∧ a ^^^ b < 2 ^ 62 := by
  have h := Nat.xor_lt_two_pow ha hb
  refine ⟨?_, h⟩
  have e : (BitVec.ofInt 64 (a : Int) ^^^ BitVec.ofInt 64 (b : Int)).toNat = a ^^^ b := by
    rw [BitVec.toNat_xor, BitVec.ofInt_natCast, BitVec.ofInt_natCast, BitVec.toNat_ofNat, BitVec.toNat_ofNat, Nat.mod_eq_of_lt (by omega), Nat.mod_eq_of_lt (by omega)]
  show IntKind.i64.wrap ((BitVec.ofInt 64 (a : Int) ^^^ BitVec.ofInt 64 (b : Int)).toNat : Int) = _
  rw [e, IntKind.wrap_i64]; omega
theorem gray_code (k j : Nat) (hk : k ≤ 65536) : (bits .and .i64 (bits .xor .i64 (k : Int) ((k : Int) / 2) / 2 ^ j) 1 == 1) = gb k j := by
  have e1 : ((k : Int) / 2) = ((k / 2 : Nat) : Int) := by omega
  obtain ⟨e2, hlt⟩ := xor_i64 k (k / 2) (by omega) (by omega)
  have e3 : (((k ^^^ k / 2 : Nat) : Int) / 2 ^ j) = (((k ^^^ k / 2) / 2 ^ j : Nat) : Int) := by simp
  have hq : (k ^^^ k / 2) / 2 ^ j ≤ k ^^^ k / 2 := Nat.div_le_self _ _
  have e5 : bits .and .i64 (((k ^^^ k / 2) / 2 ^ j : Nat) : Int) 1 = (((k ^^^ k / 2) / 2 ^ j : Nat) : Int) % 2 := by
    generalize (k ^^^ k / 2) / 2 ^ j = y at *
    exact and_one _ (by omega) (by omega)
  rw [e1, e2, e3, e5]
  have e4 : gb k j = Nat.testBit (k ^^^ k / 2) j := by
    unfold gb
    rw [Nat.testBit_xor, Nat.testBit_succ]
  rw [e4, Nat.testBit_eq_decide_div_mod_eq]
  rw [Bool.eq_iff_iff]; simp; omega
end Go.Proofs.Ytchobkabndnhoaa.Xp
