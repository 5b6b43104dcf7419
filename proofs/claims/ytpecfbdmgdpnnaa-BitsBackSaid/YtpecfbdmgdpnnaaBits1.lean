/- What the functions of package bits, and those of its reference, compute: one contract each. -/
import Derived.Test.YtpecfbdmgdpnnaaCom
import Derived.Test.YtpecfbdmgdpnnaaPBits
namespace Go.Proofs.Ytpecfbdmgdpnnaa
open Go.RowKit
set_option linter.unusedVariables false
set_option maxHeartbeats 400000
theorem mask_any (k : Int) (w : World) (h1 : -9223372036854775808 ≤ k) (h2 : k ≤ 9223372036854775807) :
    Calls Try.prog 63 #[.int .i64 k] w fun e w' => e = .returned (.int .u64 (Bt.mask k)) ∧ w = w' := by
  by_cases a : k ≤ 0
  · go_enter Try.func63, Try.ntmps63
    go_wp2
    go_ret
    exact ⟨ret_int (by rw [Bt.mask_le0 k a]), rfl⟩
  · by_cases b : 64 ≤ k
    · go_enter Try.func63, Try.ntmps63
      go_wp2
      go_ret
      exact ⟨ret_int (by rw [Bt.mask_ge k b]), rfl⟩
    · go_enter Try.func63, Try.ntmps63
      go_wp2
      go_ret
      exact ⟨ret_int (Bt.mask_mid k (by omega) (by omega)), rfl⟩
theorem get_any (x a k : Int) (w : World) (x1 : 0 ≤ x) (x2 : x ≤ 18446744073709551615) (a1 : -9223372036854775808 ≤ a) (a2 : a ≤ 9223372036854775807) (h1 : -9223372036854775808 ≤ k) (h2 : k ≤ 9223372036854775807) :
    Calls Try.prog 40 #[.int .u64 x, .int .i64 a, .int .i64 k] w fun e w' => e = .returned (.int .u64 (Bt.get x a k)) ∧ w = w' := by
  have m1 := Bt.mask_nonneg k
  have m2 := Bt.mask_le k
  by_cases c : a < 0
  · go_enter Try.func40, Try.ntmps40
    go_wp2_with fail
    go_ret
    exact ⟨ret_int (Bt.get_out x a k (.inl c)).symm, rfl⟩
  · by_cases b : 64 ≤ a
    · go_enter Try.func40, Try.ntmps40
      go_wp2_with fail
      go_ret
      exact ⟨ret_int (Bt.get_out x a k (.inr b)).symm, rfl⟩
    · go_enter Try.func40, Try.ntmps40
      go_wp2_with fail
      refine (mask_any _ _ (by omega) (by omega)).mono ?_
      rintro e w' ⟨rfl, rfl⟩
      go_wp2_with fail
      go_ret
      exact ⟨ret_int (Bt.get_in x a k x1 x2 (by omega) (by omega)), rfl⟩
theorem put_any (x a k n : Int) (w : World) (x1 : 0 ≤ x) (x2 : x ≤ 18446744073709551615) (a1 : -9223372036854775808 ≤ a) (a2 : a ≤ 9223372036854775807) (h1 : -9223372036854775808 ≤ k) (h2 : k ≤ 9223372036854775807)
    (n1 : 0 ≤ n) (n2 : n ≤ 18446744073709551615) :
    Calls Try.prog 39 #[.int .u64 x, .int .i64 a, .int .i64 k, .int .u64 n] w fun e w' => e = .returned (.int .u64 (Bt.put x a k n)) ∧ w = w' := by
  have m1 := Bt.mask_nonneg k
  have m2 := Bt.mask_le k
  by_cases c : a < 0
  · go_enter Try.func39, Try.ntmps39
    go_wp2_with fail
    go_ret
    exact ⟨ret_int (Bt.put_out x a k n x1 (.inl c)).symm, rfl⟩
  · by_cases b : 64 ≤ a
    · go_enter Try.func39, Try.ntmps39
      go_wp2_with fail
      go_ret
      exact ⟨ret_int (Bt.put_out x a k n x1 (.inr b)).symm, rfl⟩
    · go_enter Try.func39, Try.ntmps39
      go_wp2_with fail
      refine (mask_any _ _ (by omega) (by omega)).mono ?_
      rintro e w' ⟨rfl, rfl⟩
      go_wp2_with fail
      go_ret
      exact ⟨ret_int (Bt.put_in x a k n x1 x2 n1 n2 (by omega) (by omega)), rfl⟩
theorem fits_any (n k : Int) (w : World) (n1 : 0 ≤ n) (n2 : n ≤ 18446744073709551615) (h1 : -9223372036854775808 ≤ k) (h2 : k ≤ 9223372036854775807)  :
    Calls Try.prog 43 #[.int .u64 n, .int .i64 k] w fun e w' => e = .returned (.bool (Bt.fits n k)) ∧ w = w' := by
  have m1 := Bt.mask_nonneg k
  have m2 := Bt.mask_le k
  go_enter Try.func43, Try.ntmps43
  go_wp2_with fail
  refine (mask_any _ _ (by omega) (by omega)).mono ?_
  rintro e w' ⟨rfl, rfl⟩
  go_wp2_with fail
  go_ret
  exact ⟨ret_bool (Bt.fits_code n k n1 n2), rfl⟩
theorem rBit_any (x i : Int) (w : World) (x1 : 0 ≤ x) (x2 : x ≤ 18446744073709551615) (h2 : i ≤ 9223372036854775807) :
    Calls Try.prog 64 #[.int .u64 x, .int .i64 i] w fun e w' => e = .returned (.bool (Bt.bit x i)) ∧ w = w' := by
  obtain ⟨X, rfl⟩ := Int.eq_ofNat_of_zero_le x1
  go_enter Try.func64, Try.ntmps64
  go_wp2_with fail
  go_loop [0, 5] (fun x t => ∃ j : Nat, j ≤ i.toNat ∧ t = .int .i64 j ∧ x = .int .u64 (Bt.hf X j)) (fun _ t => i.toNat - (intOf t).toNat)
  case atStart => exact ⟨0, by omega, rfl, by rw [Bt.hf_zero]⟩
  case round =>
    obtain ⟨j, hj, rfl, rfl⟩ := hrel
    have p1 := Bt.hf_nonneg X j
    have p2 := Bt.hf_le X j (by omega)
    by_cases hlt : (j : Int) < i
    · go_wp2
      go_round
      case rel => exact ⟨j + 1, by omega, by go_num, by rw [Bt.hf_succ]⟩
      case measure => simp [intOf]; omega
    · go_wp2
      go_ret
      exact ⟨ret_bool (Bt.hf_bit X i j (by omega)), rfl⟩
theorem rone_any (i : Int) (w : World) (h0 : 0 ≤ i) (h2 : i < 64) :
    Calls Try.prog 65 #[.int .i64 i] w fun e w' => e = .returned (.int .u64 (Bt.pw i.toNat)) ∧ w = w' := by
  go_enter Try.func65, Try.ntmps65
  go_wp2_with fail
  go_loop [3, 4] (fun x t => ∃ j : Nat, j ≤ i.toNat ∧ t = .int .i64 j ∧ x = .int .u64 (Bt.pw j)) (fun _ t => i.toNat - (intOf t).toNat)
  case atStart => exact ⟨0, by omega, rfl, rfl⟩
  case round =>
    obtain ⟨j, hj, rfl, rfl⟩ := hrel
    by_cases hlt : (j : Int) < i
    · have hs := Bt.one_step j (by omega)
      have hb := Bt.pw_bd j (by omega)
      go_wp2
      go_round
      case rel => exact ⟨j + 1, by omega, by go_num, by first | rfl | rw [hs]⟩
      case measure => simp [intOf]; omega
    · go_wp2
      go_ret
      exact ⟨ret_int (by rw [show i.toNat = j from by omega]), rfl⟩
end Go.Proofs.Ytpecfbdmgdpnnaa
