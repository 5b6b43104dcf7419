/- The statements of package bits: the Go functions answer true. -/
import Derived.Test.YtpecfbdmgdpnnaaBits3
namespace Go.Proofs.Ytpecfbdmgdpnnaa
open Go.RowKit
set_option linter.unusedVariables false
set_option maxHeartbeats 400000
theorem walk_BitsUp (a0 a1 : Int) (w : World) (w0 : (Lit.int .i64 a0).wf = true) (w1 : (Lit.int .i64 a1).wf = true) :
    Calls Try.prog 5 #[.int .i64 a0, .int .i64 a1] w fun e w' => e = .returned (.bool true) ∧ Below w.heap.size w w' := by
  have b0 := bounds_i64 w0
  have b1 := bounds_i64 w1
  clear w0 w1
  go_enter Try.func5, Try.ntmps5
  go_wp2_with (first
      | (go_at_call 25; refine (awake1_any _).mono ?_; rintro e w' ⟨rfl, rfl⟩)
      | (go_at_call 26; refine (up_any _ _ _ (by omega) (by omega) (by omega) (by omega)).mono ?_; rintro e w' ⟨rfl, rfl⟩)
      | (go_at_call 27; refine (rUp_any _ _ _ (by omega) (by omega) (by omega) (by omega)).mono ?_; rintro e w' ⟨rfl, rfl⟩))
  go_ret
  exact ⟨ret_bool rfl, Below.refl _ _⟩
theorem walk_BitsCounts (a0 : Int) (w : World) (w0 : (Lit.int .u64 a0).wf = true) :
    Calls Try.prog 13 #[.int .u64 a0] w fun e w' => e = .returned (.bool true) ∧ Below w.heap.size w w' := by
  have b0 := bounds_u64 w0
  clear w0
  go_enter Try.func13, Try.ntmps13
  go_wp2_with (first
      | (go_at_call 25; refine (awake1_any _).mono ?_; rintro e w' ⟨rfl, rfl⟩)
      | (go_at_call 47; refine (count_any _ _ (by omega) (by omega)).mono ?_; rintro e w' ⟨rfl, rfl⟩)
      | (go_at_call 48; refine (rCount_any _ _ (by omega) (by omega)).mono ?_; rintro e w' ⟨rfl, rfl⟩)
      | (go_at_call 53; refine (lowest_any _ _ (by omega) (by omega)).mono ?_; rintro e w' ⟨rfl, rfl⟩)
      | (go_at_call 54; refine (rLowest_any _ _ (by omega) (by omega)).mono ?_; rintro e w' ⟨rfl, rfl⟩)
      | (go_at_call 55; refine (highest_any _ _ (by omega) (by omega)).mono ?_; rintro e w' ⟨rfl, rfl⟩)
      | (go_at_call 56; refine (rHighest_any _ _ (by omega) (by omega)).mono ?_; rintro e w' ⟨rfl, rfl⟩))
  go_ret
  exact ⟨ret_bool rfl, Below.refl _ _⟩
theorem walk_BitsFields (a0 a1_0 a2_0 a2_1 : Int) (w : World) (w0 : (Lit.int .u64 a0).wf = true) (w1 : (Lit.int .u64 a1_0).wf = true) (w2 : (Lit.int .i64 a2_0).wf = true) (w3 : (Lit.int .i64 a2_1).wf = true) :
    Calls Try.prog 10 #[.int .u64 a0, .agg #[.int .u64 a1_0], .agg #[.int .i64 a2_0, .int .i64 a2_1]] w fun e w' => e = .returned (.bool true) ∧ Below w.heap.size w w' := by
  have b0 := bounds_u64 w0
  have b1 := bounds_u64 w1
  have b2 := bounds_i64 w2
  have b3 := bounds_i64 w3
  clear w0 w1 w2 w3
  go_enter Try.func10, Try.ntmps10
  go_wp2_with fail
  go_quiet (fail)
  go_wp2_with (first
      | (go_at_call 25; refine (awake1_any _).mono ?_; rintro e w' ⟨rfl, rfl⟩)
      | (go_at_call 40; refine (get_any _ _ _ _ (by omega) (by omega) (by omega) (by omega) (by omega) (by omega)).mono ?_; rintro e w' ⟨rfl, rfl⟩)
      | (go_at_call 41; refine (rGet_any _ _ _ _ (by omega) (by omega) (by omega) (by omega) (by omega) (by omega)).mono ?_; rintro e w' ⟨rfl, rfl⟩)
      | (go_at_call 39; refine (put_any _ _ _ _ _ (by omega) (by omega) (by omega) (by omega) (by omega) (by omega) (by omega) (by omega)).mono ?_; rintro e w' ⟨rfl, rfl⟩)
      | (go_at_call 42; refine (rPut_any _ _ _ _ _ (by omega) (by omega) (by omega) (by omega) (by omega) (by omega) (by omega) (by omega)).mono ?_; rintro e w' ⟨rfl, rfl⟩)
      | (go_at_call 43; refine (fits_any _ _ _ (by omega) (by omega) (by omega) (by omega)).mono ?_; rintro e w' ⟨rfl, rfl⟩)
      | (go_at_call 44; refine (rFits_any _ _ _ (by omega) (by omega) (by omega) (by omega)).mono ?_; rintro e w' ⟨rfl, rfl⟩))
  go_ret
  exact ⟨ret_bool rfl, below_drewN (((Below.refl _ _).alloc (Nat.le_refl _) _).alloc (by simp) _) _⟩
theorem walk_BitsTurns (a0 a1 : Int) (w : World) (w0 : (Lit.int .u64 a0).wf = true) (w1 : (Lit.int .i8 a1).wf = true) :
    Calls Try.prog 11 #[.int .u64 a0, .int .i8 a1] w fun e w' => e = .returned (.bool true) ∧ Below w.heap.size w w' := by
  have b0 := bounds_u64 w0
  have b1 := bounds_i8 w1
  clear w0 w1
  have t0 := Bt.turn_bd a0 a1 b0.1 b0.2
  have e1 := Bt.turn_back a0 a1 b0.1 b0.2
  have e2 := Bt.count_turn a0 a1 b0.1 b0.2
  go_enter Try.func11, Try.ntmps11
  go_wp2_with (first
      | (go_at_call 25; refine (awake1_any _).mono ?_; rintro e w' ⟨rfl, rfl⟩)
      | (go_at_call 45; refine (turn_any _ _ _ (by omega) (by omega) (by omega) (by omega)).mono ?_; rintro e w' ⟨rfl, rfl⟩)
      | (go_at_call 46; refine (rTurn_any _ _ _ (by omega) (by omega) (by omega) (by omega)).mono ?_; rintro e w' ⟨rfl, rfl⟩)
      | (go_at_call 47; refine (count_any _ _ (by omega) (by omega)).mono ?_; rintro e w' ⟨rfl, rfl⟩)
      | (go_at_call 48; refine (rCount_any _ _ (by omega) (by omega)).mono ?_; rintro e w' ⟨rfl, rfl⟩))
  go_ret
  exact ⟨ret_bool rfl, Below.refl _ _⟩
end Go.Proofs.Ytpecfbdmgdpnnaa
