/- The statement BitsBack: the Go function answers true. -/
import Derived.Test.YtpecfbdmgdpnnaaBits3
import Derived.Test.YtpecfbdmgdpnnaaPBack
namespace Go.Proofs.Ytpecfbdmgdpnnaa
open Go.RowKit
set_option linter.unusedVariables false
set_option maxHeartbeats 400000
theorem walk_BitsBack (x n p q : Int) (w : World) (w0 : (Lit.int .u64 x).wf = true) (w1 : (Lit.int .u64 n).wf = true) (w2 : (Lit.int .u8 p).wf = true) (w3 : (Lit.int .u8 q).wf = true) :
    Calls Try.prog 9 #[.int .u64 x, .int .u64 n, .agg #[.int .u8 p, .int .u8 q]] w fun e w' => e = .returned (.bool true) ∧ Below w.heap.size w w' := by
  have b0 := bounds_u64 w0
  have b1 := bounds_u64 w1
  have b2 := bounds_u8 w2
  have b3 := bounds_u8 w3
  clear w0 w1 w2 w3
  have a1 : 0 ≤ p % 64 := by omega
  have a2 : p % 64 < 64 := by omega
  have k1 : 0 ≤ q % 65 := by omega
  have k2 : q % 65 ≤ 64 := by omega
  have t0 := Bt.put_nonneg x (p % 64) (q % 65) n
  have t1 := Bt.put_le x (p % 64) (q % 65) n b0.2
  have g0 := Bt.get_nonneg x (p % 64) (q % 65)
  have g1 := Bt.get_le x (p % 64) (q % 65)
  have e4 := Bt.back4 x n (p % 64) (q % 65) a1 a2 k1 k2 b0.1 b0.2
  have e2 := Bt.back2 x n (p % 64) (q % 65) a1 a2
  by_cases hc : p % 64 + q % 65 ≤ 64
  · have e1 := Bt.back1 x n (p % 64) (q % 65) (p % 64 + q % 65) a1 a2 k1 k2 (by rw [if_pos hc])
    have e1b : p % 64 + q % 65 - p % 64 = q % 65 := by omega
    rw [e1b] at e1
    have e3 := Bt.back3 x n (p % 64) (q % 65) (p % 64 + q % 65) a1 a2 k1 k2 b0.1 b0.2 (by rw [if_pos hc])
    go_enter Try.func9, Try.ntmps9
    go_wp2_with (first
      | (go_at_call 25; refine (awake1_any _).mono ?_; rintro e w' ⟨rfl, rfl⟩))
    go_quiet (fail)
    go_wp2_with (first
      | (go_at_call 40; refine (get_any _ _ _ _ (by omega) (by omega) (by omega) (by omega) (by omega) (by omega)).mono ?_; rintro e w' ⟨rfl, rfl⟩)
      | (go_at_call 39; refine (put_any _ _ _ _ _ (by omega) (by omega) (by omega) (by omega) (by omega) (by omega) (by omega) (by omega)).mono ?_; rintro e w' ⟨rfl, rfl⟩))
    go_ret
    exact ⟨ret_bool rfl, below_drewN ((Below.refl _ _).alloc (Nat.le_refl _) _) _⟩
  · have e1 := Bt.back1 x n (p % 64) (q % 65) 64 a1 a2 k1 k2 (by rw [if_neg hc])
    have e3 := Bt.back3 x n (p % 64) (q % 65) 64 a1 a2 k1 k2 b0.1 b0.2 (by rw [if_neg hc])
    go_enter Try.func9, Try.ntmps9
    go_wp2_with (first
      | (go_at_call 25; refine (awake1_any _).mono ?_; rintro e w' ⟨rfl, rfl⟩))
    go_quiet (fail)
    go_wp2_with (first
      | (go_at_call 40; refine (get_any _ _ _ _ (by omega) (by omega) (by omega) (by omega) (by omega) (by omega)).mono ?_; rintro e w' ⟨rfl, rfl⟩)
      | (go_at_call 39; refine (put_any _ _ _ _ _ (by omega) (by omega) (by omega) (by omega) (by omega) (by omega) (by omega) (by omega)).mono ?_; rintro e w' ⟨rfl, rfl⟩))
    go_ret
    exact ⟨ret_bool rfl, below_drewN ((Below.refl _ _).alloc (Nat.le_refl _) _) _⟩
end Go.Proofs.Ytpecfbdmgdpnnaa
