/- What the functions of package bits, and those of its reference, compute: one contract each. -/
import Derived.Test.YtchobkabndnhoaaCom
import Derived.Test.YtchobkabndnhoaaPBits
namespace Go.Proofs.Ytchobkabndnhoaa
open Go.RowKit
set_option linter.unusedVariables false
set_option maxHeartbeats 400000
theorem mask_any (k : Int) (w : World) (h1 : -9223372036854775808 ≤ k) (h2 : k ≤ 9223372036854775807) :
    Calls Try.prog 49 #[.int .i64 k] w fun e w' => e = .returned (.int .u64 (Bt.mask k)) ∧ w = w' := by
  by_cases a : k ≤ 0
  · go_enter Try.func49, Try.ntmps49
    go_wp2
    go_ret
    exact ⟨ret_int (by rw [Bt.mask_le0 k a]), rfl⟩
  · by_cases b : 64 ≤ k
    · go_enter Try.func49, Try.ntmps49
      go_wp2
      go_ret
      exact ⟨ret_int (by rw [Bt.mask_ge k b]), rfl⟩
    · go_enter Try.func49, Try.ntmps49
      go_wp2
      go_ret
      exact ⟨ret_int (Bt.mask_mid k (by omega) (by omega)), rfl⟩
theorem get_any (x a k : Int) (w : World) (x1 : 0 ≤ x) (x2 : x ≤ 18446744073709551615) (a1 : -9223372036854775808 ≤ a) (a2 : a ≤ 9223372036854775807) (h1 : -9223372036854775808 ≤ k) (h2 : k ≤ 9223372036854775807) :
    Calls Try.prog 39 #[.int .u64 x, .int .i64 a, .int .i64 k] w fun e w' => e = .returned (.int .u64 (Bt.get x a k)) ∧ w = w' := by
  have m1 := Bt.mask_nonneg k
  have m2 := Bt.mask_le k
  by_cases c : a < 0
  · go_enter Try.func39, Try.ntmps39
    go_wp2_with fail
    go_ret
    exact ⟨ret_int (Bt.get_out x a k (.inl c)).symm, rfl⟩
  · by_cases b : 64 ≤ a
    · go_enter Try.func39, Try.ntmps39
      go_wp2_with fail
      go_ret
      exact ⟨ret_int (Bt.get_out x a k (.inr b)).symm, rfl⟩
    · go_enter Try.func39, Try.ntmps39
      go_wp2_with fail
      refine (mask_any _ _ (by omega) (by omega)).mono ?_
      rintro e w' ⟨rfl, rfl⟩
      go_wp2_with fail
      go_ret
      exact ⟨ret_int (Bt.get_in x a k x1 x2 (by omega) (by omega)), rfl⟩
end Go.Proofs.Ytchobkabndnhoaa
