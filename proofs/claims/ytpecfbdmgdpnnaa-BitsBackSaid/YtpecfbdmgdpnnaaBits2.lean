/- What the functions of the reference of package bits compute: one contract each. -/
import Derived.Test.YtpecfbdmgdpnnaaBits1
import Derived.BigQuiet
import Derived.Outline
import Derived.Deep.QuietTactic
namespace Go.Proofs.Ytpecfbdmgdpnnaa
open Go.RowKit
set_option linter.unusedVariables false
set_option maxHeartbeats 400000
theorem rGet_any (x a k : Int) (w : World) (x1 : 0 ≤ x) (x2 : x ≤ 18446744073709551615) (a1 : -9223372036854775808 ≤ a) (a2 : a ≤ 9223372036854775807) (h1 : -9223372036854775808 ≤ k) (h2 : k ≤ 9223372036854775807) :
    Calls Try.prog 41 #[.int .u64 x, .int .i64 a, .int .i64 k] w fun e w' => e = .returned (.int .u64 (Bt.get x a k)) ∧ w = w' := by
  have hl := Bt.getLen_le a k
  go_enter Try.func41, Try.ntmps41
  go_wp2_with fail
  go_loop [7, 8] (fun x' t => ∃ j : Nat, j ≤ Bt.getLen a k ∧ t = .int .i64 j ∧ x' = .int .u64 (Bt.getRef x a j)) (fun _ t => 64 - (intOf t).toNat)
  case atStart => exact ⟨0, by omega, rfl, rfl⟩
  case round =>
    obtain ⟨j, hj, rfl, rfl⟩ := hrel
    have hb := Bt.getRef_bd x a j (by omega)
    by_cases hlt : j < Bt.getLen a k
    · have g : 0 ≤ a ∧ a < 64 ∧ (j : Int) < k ∧ j < 64 ∧ (j : Int) < 64 - a := by unfold Bt.getLen at hlt; split at hlt <;> omega
      obtain ⟨g1, g2, g3, g4, g5⟩ := g
      cases hbit : Bt.bit x (a + j)
      · have hn := Lib.hid (Bt.getRef_no x a j g1 hbit)
        go_wp2_with (first | (go_at_call 64; refine (rBit_any _ _ _ (by omega) (by omega) (by omega)).mono ?_; rintro e w' ⟨rfl, rfl⟩))
        all_goals
          go_round
          case rel => exact ⟨j + 1, by omega, by go_num, by rw [← hn.out]⟩
          case measure => simp [intOf]; omega
      · have hn := Lib.hid (Bt.getRef_yes x a j g1 g4 hbit)
        go_wp2_with (first | (go_at_call 64; refine (rBit_any _ _ _ (by omega) (by omega) (by omega)).mono ?_; rintro e w' ⟨rfl, rfl⟩) | (go_at_call 65; refine (rone_any _ _ (by omega) (by omega)).mono ?_; rintro e w' ⟨rfl, rfl⟩))
        all_goals
          go_round
          case rel => exact ⟨j + 1, by omega, by go_num, by rw [hn.out]⟩
          case measure => simp [intOf]; omega
    · have g : ¬ (0 ≤ a ∧ a < 64 ∧ (j : Int) < k ∧ j < 64 ∧ (j : Int) < 64 - a) := by unfold Bt.getLen at hlt; split at hlt <;> omega
      go_wp2_with fail
      all_goals first | (exfalso; omega) | (go_ret; exact ⟨ret_int (by rw [← Bt.getRef_eq x a k x2]; congr 1; omega), rfl⟩)
theorem rPut_any (x a k n : Int) (w : World) (x1 : 0 ≤ x) (x2 : x ≤ 18446744073709551615) (a1 : -9223372036854775808 ≤ a) (a2 : a ≤ 9223372036854775807) (h1 : -9223372036854775808 ≤ k) (h2 : k ≤ 9223372036854775807)
    (n1 : 0 ≤ n) (n2 : n ≤ 18446744073709551615) :
    Calls Try.prog 42 #[.int .u64 x, .int .i64 a, .int .i64 k, .int .u64 n] w fun e w' => e = .returned (.int .u64 (Bt.put x a k n)) ∧ w = w' := by
  go_enter Try.func42, Try.ntmps42
  go_wp2_with fail
  go_loop [9, 10] (fun x' t => ∃ j : Nat, j ≤ 64 ∧ t = .int .i64 j ∧ x' = .int .u64 (Bt.putRef x a k n j)) (fun _ t => 64 - (intOf t).toNat)
  case atStart => exact ⟨0, by omega, rfl, rfl⟩
  case round =>
    obtain ⟨j, hj, rfl, rfl⟩ := hrel
    have hb := Bt.putRef_bd x a k n j (by omega)
    by_cases hlt : j < 64
    · have pb := Bt.pw_bd j hlt
      go_wp2_with (first | (go_at_call 64; refine (rBit_any _ _ _ (by omega) (by omega) (by omega)).mono ?_; rintro e w' ⟨rfl, rfl⟩) | (go_at_call 65; refine (rone_any _ _ (by omega) (by omega)).mono ?_; rintro e w' ⟨rfl, rfl⟩))
      all_goals
        go_round
        case rel =>
          refine ⟨j + 1, by omega, by go_num, ?_⟩
          first
            | (rw [Bt.putRef_yes x a k n j hlt]; unfold Bt.putBit; split <;> first | assumption | (exfalso; omega))
            | (rw [← Bt.putRef_no x a k n j]; unfold Bt.putBit; split <;> first | assumption | (exfalso; omega))
        case measure => simp [intOf]; omega
    · go_wp2_with fail
      go_ret
      exact ⟨ret_int (by rw [← Bt.putRef_eq x a k n x1 x2]; congr 1; omega), rfl⟩
end Go.Proofs.Ytpecfbdmgdpnnaa
