/- What the functions of package bits that count and turn, and those of its reference, compute: one contract each. -/
import Derived.Test.YtchobkabndnhoaaBits2
import Derived.Test.YtchobkabndnhoaaPHigh
namespace Go.Proofs.Ytchobkabndnhoaa
open Go.RowKit
set_option linter.unusedVariables false
set_option maxHeartbeats 400000
theorem up_any (n b : Int) (w : World) (x1 : -9223372036854775808 ≤ n) (x2 : n ≤ 9223372036854775807) (a1 : -9223372036854775808 ≤ b) (a2 : b ≤ 9223372036854775807) :
    Calls Try.prog 40 #[.int .i64 n, .int .i64 b] w fun e w' => e = .returned (.int .i64 (Bt.up n b)) ∧ w = w' := by
  by_cases h1 : n ≤ 0
  · go_enter Try.func40, Try.ntmps40
    go_wp2_with fail
    go_ret
    exact ⟨ret_int (Bt.up_out n b (.inl h1)).symm, rfl⟩
  · by_cases h2 : b ≤ 0
    · go_enter Try.func40, Try.ntmps40
      go_wp2_with fail
      go_ret
      exact ⟨ret_int (Bt.up_out n b (.inr h2)).symm, rfl⟩
    · go_enter Try.func40, Try.ntmps40
      go_wp2_with fail
      go_ret
      exact ⟨ret_int (Bt.up_in n b (by omega) (by omega) x2), rfl⟩
theorem awake1_any (w : World) :
    Calls Try.prog 11 #[] w fun e w' => e = .returned (.bool true) ∧ w = w' := by
  go_enter Try.func11, Try.ntmps11
  go_wp2
  go_ret
  exact ⟨rfl, rfl⟩
end Go.Proofs.Ytchobkabndnhoaa
