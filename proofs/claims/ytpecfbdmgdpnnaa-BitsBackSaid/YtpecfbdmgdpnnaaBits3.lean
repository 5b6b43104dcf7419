/- What the functions of package bits that count and turn, and those of its reference, compute: one contract each. -/
import Derived.Test.YtpecfbdmgdpnnaaBits2
import Derived.Test.YtpecfbdmgdpnnaaPHigh
namespace Go.Proofs.Ytpecfbdmgdpnnaa
open Go.RowKit
set_option linter.unusedVariables false
set_option maxHeartbeats 400000
theorem count_any (x : Int) (w : World) (x1 : 0 ≤ x) (x2 : x ≤ 18446744073709551615) :
    Calls Try.prog 47 #[.int .u64 x] w fun e w' => e = .returned (.int .i64 (Bt.count x)) ∧ w = w' := by
  go_enter Try.func47, Try.ntmps47
  go_wp2_with fail
  go_ret
  exact ⟨ret_int (Bt.count_code x x1 x2), rfl⟩
theorem turn_any (x b : Int) (w : World) (x1 : 0 ≤ x) (x2 : x ≤ 18446744073709551615) (a1 : -9223372036854775808 ≤ b) (a2 : b ≤ 9223372036854775807) :
    Calls Try.prog 45 #[.int .u64 x, .int .i64 b] w fun e w' => e = .returned (.int .u64 (Bt.turn x b)) ∧ w = w' := by
  have fin := Lib.hid (Bt.turn_code x b x1 x2)
  obtain ⟨c, hc⟩ : ∃ c, IntKind.u64.wrap b = c := ⟨_, rfl⟩
  have c1 : 0 ≤ c := by rw [← hc, IntKind.wrap_u64]; omega
  have c2 : c ≤ 18446744073709551615 := by rw [← hc, IntKind.wrap_u64]; omega
  have k1 : 0 ≤ c % 64 := by omega
  have k2 : c % 64 < 64 := by omega
  have e3 : IntKind.u64.wrap (64 - c % 64) = 64 - c % 64 := by rw [IntKind.wrap_u64]; omega
  go_enter Try.func45, Try.ntmps45
  go_wp2_with fail
  go_ret
  exact ⟨ret_int (by rw [← hc]; exact fin.out), rfl⟩
theorem up_any (n b : Int) (w : World) (x1 : -9223372036854775808 ≤ n) (x2 : n ≤ 9223372036854775807) (a1 : -9223372036854775808 ≤ b) (a2 : b ≤ 9223372036854775807) :
    Calls Try.prog 26 #[.int .i64 n, .int .i64 b] w fun e w' => e = .returned (.int .i64 (Bt.up n b)) ∧ w = w' := by
  by_cases h1 : n ≤ 0
  · go_enter Try.func26, Try.ntmps26
    go_wp2_with fail
    go_ret
    exact ⟨ret_int (Bt.up_out n b (.inl h1)).symm, rfl⟩
  · by_cases h2 : b ≤ 0
    · go_enter Try.func26, Try.ntmps26
      go_wp2_with fail
      go_ret
      exact ⟨ret_int (Bt.up_out n b (.inr h2)).symm, rfl⟩
    · go_enter Try.func26, Try.ntmps26
      go_wp2_with fail
      go_ret
      exact ⟨ret_int (Bt.up_in n b (by omega) (by omega) x2), rfl⟩
theorem rUp_any (n b : Int) (w : World) (x1 : -9223372036854775808 ≤ n) (x2 : n ≤ 9223372036854775807) (a1 : -9223372036854775808 ≤ b) (a2 : b ≤ 9223372036854775807) :
    Calls Try.prog 27 #[.int .i64 n, .int .i64 b] w fun e w' => e = .returned (.int .i64 (Bt.up n b)) ∧ w = w' := by
  by_cases h1 : n ≤ 0
  · go_enter Try.func27, Try.ntmps27
    go_wp2_with fail
    go_ret
    exact ⟨ret_int (Bt.up_out n b (.inl h1)).symm, rfl⟩
  · by_cases h2 : b ≤ 0
    · go_enter Try.func27, Try.ntmps27
      go_wp2_with fail
      go_ret
      exact ⟨ret_int (Bt.up_out n b (.inr h2)).symm, rfl⟩
    · go_enter Try.func27, Try.ntmps27
      go_wp2_with fail
      all_goals go_ret
      · exact ⟨ret_int (Bt.up_mod n b (by omega) (by omega) x2 (by simpa using ‹(n % b != 0) = true›)), rfl⟩
      · exact ⟨ret_int (Bt.up_even n b (by omega) (by omega) (by simpa using ‹(n % b != 0) = false›)), rfl⟩
theorem rFits_any (n k : Int) (w : World) (n1 : 0 ≤ n) (n2 : n ≤ 18446744073709551615) (h1 : -9223372036854775808 ≤ k) (h2 : k ≤ 9223372036854775807) :
    Calls Try.prog 44 #[.int .u64 n, .int .i64 k] w fun e w' => e = .returned (.bool (Bt.fits n k)) ∧ w = w' := by
  by_cases hk : k < 0
  · go_enter Try.func44, Try.ntmps44
    go_wp2_with fail
    go_loop [5] (fun t => ∃ j : Int, 0 ≤ j ∧ k ≤ j ∧ j ≤ 9223372036854775807 ∧ t = .int .i64 j ∧ Bt.fitsTo n k j) (fun t => (64 - intOf t).toNat)
    case atStart => exact ⟨_, by omega, by omega, by omega, rfl, Bt.fitsTo_start n k _ (by omega)⟩
    case round =>
      obtain ⟨j, hj, hj1, hj2, rfl, hn⟩ := hrel
      by_cases hlt : j < 64
      · cases hbit : Bt.bit n j
        · have hs := Bt.fitsTo_succ n k j hj hn hbit
          clear hn
          go_wp2_with (first | (go_at_call 64; refine (rBit_any _ _ _ (by omega) (by omega) (by omega)).mono ?_; rintro e w' ⟨rfl, rfl⟩))
          go_round
          case rel => exact ⟨j + 1, by omega, by omega, by omega, rfl, hs⟩
          case measure => simp [intOf]; omega
        · have hs := Lib.hid (Bt.fits_not n k j hj hj1 hlt hbit)
          clear hn
          go_wp2_with (first | (go_at_call 64; refine (rBit_any _ _ _ (by omega) (by omega) (by omega)).mono ?_; rintro e w' ⟨rfl, rfl⟩))
          go_ret
          exact ⟨ret_bool hs.out.symm, rfl⟩
      · have hs := Lib.hid (Bt.fits_all n k j n2 (by omega) hn)
        clear hn
        go_wp2_with fail
        go_ret
        exact ⟨ret_bool hs.out.symm, rfl⟩
  · go_enter Try.func44, Try.ntmps44
    go_wp2_with fail
    go_loop [5] (fun t => ∃ j : Int, 0 ≤ j ∧ k ≤ j ∧ j ≤ 9223372036854775807 ∧ t = .int .i64 j ∧ Bt.fitsTo n k j) (fun t => (64 - intOf t).toNat)
    case atStart => exact ⟨_, by omega, by omega, by omega, rfl, Bt.fitsTo_start n k _ (by omega)⟩
    case round =>
      obtain ⟨j, hj, hj1, hj2, rfl, hn⟩ := hrel
      by_cases hlt : j < 64
      · cases hbit : Bt.bit n j
        · have hs := Bt.fitsTo_succ n k j hj hn hbit
          clear hn
          go_wp2_with (first | (go_at_call 64; refine (rBit_any _ _ _ (by omega) (by omega) (by omega)).mono ?_; rintro e w' ⟨rfl, rfl⟩))
          go_round
          case rel => exact ⟨j + 1, by omega, by omega, by omega, rfl, hs⟩
          case measure => simp [intOf]; omega
        · have hs := Lib.hid (Bt.fits_not n k j hj hj1 hlt hbit)
          clear hn
          go_wp2_with (first | (go_at_call 64; refine (rBit_any _ _ _ (by omega) (by omega) (by omega)).mono ?_; rintro e w' ⟨rfl, rfl⟩))
          go_ret
          exact ⟨ret_bool hs.out.symm, rfl⟩
      · have hs := Lib.hid (Bt.fits_all n k j n2 (by omega) hn)
        clear hn
        go_wp2_with fail
        go_ret
        exact ⟨ret_bool hs.out.symm, rfl⟩
theorem rCount_any (x : Int) (w : World) (x1 : 0 ≤ x) (x2 : x ≤ 18446744073709551615) :
    Calls Try.prog 48 #[.int .u64 x] w fun e w' => e = .returned (.int .i64 (Bt.count x)) ∧ w = w' := by
  go_enter Try.func48, Try.ntmps48
  go_wp2_with fail
  go_loop [3, 4] (fun n t => ∃ j : Nat, j ≤ 64 ∧ t = .int .i64 j ∧ n = .int .i64 (Bt.cntRef x j)) (fun _ t => 64 - (intOf t).toNat)
  case atStart => exact ⟨0, by omega, rfl, rfl⟩
  case round =>
    obtain ⟨j, hj, rfl, rfl⟩ := hrel
    have hb := Bt.cntRef_bd x j
    by_cases hlt : j < 64
    · go_wp2_with (first | (go_at_call 64; refine (rBit_any _ _ _ (by omega) (by omega) (by omega)).mono ?_; rintro e w' ⟨rfl, rfl⟩))
      all_goals
        go_round
        case rel =>
          refine ⟨j + 1, by omega, by go_num, ?_⟩
          first
            | (rw [← Bt.cntRef_yes x j (by assumption)]; done)
            | (rw [← Bt.cntRef_no x j (by assumption)]; done)
        case measure => simp [intOf]; omega
    · go_wp2_with fail
      go_ret
      exact ⟨ret_int (by rw [← Bt.cntRef_eq]; congr 1; omega), rfl⟩
theorem rLowest_any (x : Int) (w : World) (x1 : 0 ≤ x) (x2 : x ≤ 18446744073709551615) :
    Calls Try.prog 54 #[.int .u64 x] w fun e w' => e = .returned (.int .i64 (Bt.lowest x)) ∧ w = w' := by
  go_enter Try.func54, Try.ntmps54
  go_wp2_with fail
  go_loop [3] (fun t => ∃ j : Nat, j ≤ 64 ∧ t = .int .i64 j ∧ Bt.noneBelow x j) (fun t => 64 - (intOf t).toNat)
  case atStart => exact ⟨0, by omega, rfl, Bt.noneBelow_zero x⟩
  case round =>
    obtain ⟨j, hj, rfl, hn⟩ := hrel
    by_cases hlt : j < 64
    · cases hbit : Bt.bit x j
      · go_wp2_with (first | (go_at_call 64; refine (rBit_any _ _ _ (by omega) (by omega) (by omega)).mono ?_; rintro e w' ⟨rfl, rfl⟩))
        go_round
        case rel => exact ⟨j + 1, by omega, by go_num, Bt.noneBelow_succ x j hn hbit⟩
        case measure => simp [intOf]; omega
      · go_wp2_with (first | (go_at_call 64; refine (rBit_any _ _ _ (by omega) (by omega) (by omega)).mono ?_; rintro e w' ⟨rfl, rfl⟩))
        go_ret
        exact ⟨ret_int (Bt.lowest_at x j hj hn (fun _ => hbit)).symm, rfl⟩
    · go_wp2_with fail
      go_ret
      exact ⟨ret_int (Bt.lowest_at x j hj hn (fun h => absurd h hlt)).symm, rfl⟩
theorem rHighest_any (x : Int) (w : World) (x1 : 0 ≤ x) (x2 : x ≤ 18446744073709551615) :
    Calls Try.prog 56 #[.int .u64 x] w fun e w' => e = .returned (.int .i64 (Bt.highest x)) ∧ w = w' := by
  go_enter Try.func56, Try.ntmps56
  go_wp2_with fail
  go_loop [3] (fun t => ∃ j : Int, -1 ≤ j ∧ j ≤ 63 ∧ t = .int .i64 j ∧ Bt.noneAbove x j) (fun t => (intOf t + 1).toNat)
  case atStart => exact ⟨63, by omega, by omega, rfl, Bt.noneAbove_start x x2⟩
  case round =>
    obtain ⟨j, hj, hj2, rfl, hn⟩ := hrel
    by_cases hlt : 0 ≤ j
    · cases hbit : Bt.bit x j
      · go_wp2_with (first | (go_at_call 64; refine (rBit_any _ _ _ (by omega) (by omega) (by omega)).mono ?_; rintro e w' ⟨rfl, rfl⟩))
        go_round
        case rel => exact ⟨j - 1, by omega, by omega, rfl, Bt.noneAbove_pred x j hlt hn hbit⟩
        case measure => simp [intOf]; omega
      · go_wp2_with (first | (go_at_call 64; refine (rBit_any _ _ _ (by omega) (by omega) (by omega)).mono ?_; rintro e w' ⟨rfl, rfl⟩))
        go_ret
        exact ⟨ret_int (Bt.highest_at x j hlt hn hbit).symm, rfl⟩
    · go_wp2_with fail
      go_ret
      exact ⟨ret_int (by rw [Bt.highest_none x j (by omega) hn]; omega), rfl⟩
theorem lowest_any (x : Int) (w : World) (x1 : 0 ≤ x) (x2 : x ≤ 18446744073709551615) :
    Calls Try.prog 53 #[.int .u64 x] w fun e w' => e = .returned (.int .i64 (Bt.lowest x)) ∧ w = w' := by
  have fin := Lib.hid (Bt.lowest_code x x1 x2)
  go_enter Try.func53, Try.ntmps53
  go_wp2_with fail
  refine (count_any _ _ (by rw [IntKind.wrap_u64]; omega) (by rw [IntKind.wrap_u64]; omega)).mono ?_
  rintro e w' ⟨rfl, rfl⟩
  go_wp2_with fail
  go_ret
  exact ⟨ret_int fin.out, rfl⟩
theorem highest_any (x : Int) (w : World) (x1 : 0 ≤ x) (x2 : x ≤ 18446744073709551615) :
    Calls Try.prog 55 #[.int .u64 x] w fun e w' => e = .returned (.int .i64 (Bt.highest x)) ∧ w = w' := by
  have hbd := Bt.highest_bd x x2
  go_enter Try.func55, Try.ntmps55
  go_wp2_with fail
  go_loop [0, 3, 4] (fun x' n t => ∃ (y m s : Int), x' = .int .u64 y ∧ n = .int .i64 m ∧ t = .int .i64 s ∧ Bt.HiAt x y m s) (fun _ _ t => (intOf t).toNat)
  case atStart => exact ⟨x, -1, 32, rfl, rfl, rfl, Bt.HiAt_start x x1 x2⟩
  case round =>
    obtain ⟨y, m, s, rfl, rfl, rfl, hh⟩ := hrel
    have hs := Bt.HiAt_cases hh
    have hy := Bt.HiAt_bd hh
    rcases hs with rfl | rfl | rfl | rfl | rfl | rfl | rfl
    · by_cases hz : y / 4294967296 = 0
      · have hn := Bt.HiAt_no hh 4294967296 16 (by omega) hz
        clear hh
        have hz2 : (y / 4294967296 != 0) = false := by simpa using hz
        go_wp2
        go_round
        case rel => exact ⟨_, _, _, rfl, rfl, rfl, hn⟩
        case measure => simp [intOf]
      · have hn := Bt.HiAt_yes x2 hh 4294967296 16 (by omega) hz
        clear hh
        have hz2 : (y / 4294967296 != 0) = true := by simpa using hz
        clear hz
        go_wp2
        go_round
        case rel => exact ⟨_, _, _, rfl, rfl, rfl, hn⟩
        case measure => simp [intOf]
    · by_cases hz : y / 65536 = 0
      · have hn := Bt.HiAt_no hh 65536 8 (by omega) hz
        clear hh
        have hz2 : (y / 65536 != 0) = false := by simpa using hz
        go_wp2
        go_round
        case rel => exact ⟨_, _, _, rfl, rfl, rfl, hn⟩
        case measure => simp [intOf]
      · have hn := Bt.HiAt_yes x2 hh 65536 8 (by omega) hz
        clear hh
        have hz2 : (y / 65536 != 0) = true := by simpa using hz
        clear hz
        go_wp2
        go_round
        case rel => exact ⟨_, _, _, rfl, rfl, rfl, hn⟩
        case measure => simp [intOf]
    · by_cases hz : y / 256 = 0
      · have hn := Bt.HiAt_no hh 256 4 (by omega) hz
        clear hh
        have hz2 : (y / 256 != 0) = false := by simpa using hz
        go_wp2
        go_round
        case rel => exact ⟨_, _, _, rfl, rfl, rfl, hn⟩
        case measure => simp [intOf]
      · have hn := Bt.HiAt_yes x2 hh 256 4 (by omega) hz
        clear hh
        have hz2 : (y / 256 != 0) = true := by simpa using hz
        clear hz
        go_wp2
        go_round
        case rel => exact ⟨_, _, _, rfl, rfl, rfl, hn⟩
        case measure => simp [intOf]
    · by_cases hz : y / 16 = 0
      · have hn := Bt.HiAt_no hh 16 2 (by omega) hz
        clear hh
        have hz2 : (y / 16 != 0) = false := by simpa using hz
        go_wp2
        go_round
        case rel => exact ⟨_, _, _, rfl, rfl, rfl, hn⟩
        case measure => simp [intOf]
      · have hn := Bt.HiAt_yes x2 hh 16 2 (by omega) hz
        clear hh
        have hz2 : (y / 16 != 0) = true := by simpa using hz
        clear hz
        go_wp2
        go_round
        case rel => exact ⟨_, _, _, rfl, rfl, rfl, hn⟩
        case measure => simp [intOf]
    · by_cases hz : y / 4 = 0
      · have hn := Bt.HiAt_no hh 4 1 (by omega) hz
        clear hh
        have hz2 : (y / 4 != 0) = false := by simpa using hz
        go_wp2
        go_round
        case rel => exact ⟨_, _, _, rfl, rfl, rfl, hn⟩
        case measure => simp [intOf]
      · have hn := Bt.HiAt_yes x2 hh 4 1 (by omega) hz
        clear hh
        have hz2 : (y / 4 != 0) = true := by simpa using hz
        clear hz
        go_wp2
        go_round
        case rel => exact ⟨_, _, _, rfl, rfl, rfl, hn⟩
        case measure => simp [intOf]
    · by_cases hz : y / 2 = 0
      · have hn := Bt.HiAt_no hh 2 0 (by omega) hz
        clear hh
        have hz2 : (y / 2 != 0) = false := by simpa using hz
        go_wp2
        go_round
        case rel => exact ⟨_, _, _, rfl, rfl, rfl, hn⟩
        case measure => simp [intOf]
      · have hn := Bt.HiAt_yes x2 hh 2 0 (by omega) hz
        clear hh
        have hz2 : (y / 2 != 0) = true := by simpa using hz
        clear hz
        go_wp2
        go_round
        case rel => exact ⟨_, _, _, rfl, rfl, rfl, hn⟩
        case measure => simp [intOf]
    · have hn := Lib.hid (Bt.HiAt_end hh)
      have hy2 := Bt.HiAt_last hh
      clear hh
      go_wp2
      go_ret
      exact ⟨ret_int hn.out, rfl⟩
theorem rTurn_any (x b : Int) (w : World) (x1 : 0 ≤ x) (x2 : x ≤ 18446744073709551615) (a1 : -9223372036854775808 ≤ b) (a2 : b ≤ 9223372036854775807) :
    Calls Try.prog 46 #[.int .u64 x, .int .i64 b] w fun e w' => e = .returned (.int .u64 (Bt.turn x b)) ∧ w = w' := by
  obtain ⟨r, hr⟩ : ∃ r, b.tmod 64 = r := ⟨_, rfl⟩
  have hrb : -64 < r ∧ r < 64 := by rw [← hr]; exact Bt.tmod_bd b
  by_cases hneg : r < 0
  · have hm := Lib.hid (show b % 64 = r + 64 from by rw [← hr] at *; exact Bt.tmod_neg b hneg)
    go_enter Try.func46, Try.ntmps46
    go_wp2_with fail
    go_loop [0, 6, 7] (fun x' t _u => ∃ j : Nat, (j : Int) ≤ r + 64 ∧ t = .int .i64 j ∧ x' = .int .u64 (Bt.rotRef x j)) (fun _ t _ => 64 - (intOf t).toNat)
    case atStart => exact ⟨0, by omega, rfl, by rw [Bt.rotRef_zero x x1]⟩
    case round =>
      obtain ⟨j, hj, rfl, rfl⟩ := hrel
      have hb := Bt.rotRef_bd x j x1 x2
      by_cases hlt : (j : Int) < r + 64
      · cases hbit : Bt.bit (Bt.rotRef x j) 63
        · have hs := Lib.hid (Bt.rotRef_no x j x1 x2 hbit)
          go_wp2_with (first | (go_at_call 64; refine (rBit_any _ _ _ (by omega) (by omega) (by omega)).mono ?_; rintro e w' ⟨rfl, rfl⟩))
          go_round
          case rel => exact ⟨j + 1, by omega, by go_num, by rw [← hs.out]⟩
          case measure => simp [intOf]; omega
        · have hs := Lib.hid (Bt.rotRef_yes x j x1 x2 hbit)
          go_wp2_with (first | (go_at_call 64; refine (rBit_any _ _ _ (by omega) (by omega) (by omega)).mono ?_; rintro e w' ⟨rfl, rfl⟩))
          go_round
          case rel => exact ⟨j + 1, by omega, by go_num, by rw [← hs.out]⟩
          case measure => simp [intOf]; omega
      · go_wp2_with fail
        go_ret
        exact ⟨ret_int (Bt.rotRef_end x b j x1 x2 (by rw [hm.out]; omega)), rfl⟩
  · have hm := Lib.hid (show b % 64 = r from by rw [← hr] at *; exact Bt.tmod_pos b (by omega))
    go_enter Try.func46, Try.ntmps46
    go_wp2_with fail
    go_loop [0, 6, 7] (fun x' t _u => ∃ j : Nat, (j : Int) ≤ r ∧ t = .int .i64 j ∧ x' = .int .u64 (Bt.rotRef x j)) (fun _ t _ => 64 - (intOf t).toNat)
    case atStart => exact ⟨0, by omega, rfl, by rw [Bt.rotRef_zero x x1]⟩
    case round =>
      obtain ⟨j, hj, rfl, rfl⟩ := hrel
      have hb := Bt.rotRef_bd x j x1 x2
      by_cases hlt : (j : Int) < r
      · cases hbit : Bt.bit (Bt.rotRef x j) 63
        · have hs := Lib.hid (Bt.rotRef_no x j x1 x2 hbit)
          go_wp2_with (first | (go_at_call 64; refine (rBit_any _ _ _ (by omega) (by omega) (by omega)).mono ?_; rintro e w' ⟨rfl, rfl⟩))
          go_round
          case rel => exact ⟨j + 1, by omega, by go_num, by rw [← hs.out]⟩
          case measure => simp [intOf]; omega
        · have hs := Lib.hid (Bt.rotRef_yes x j x1 x2 hbit)
          go_wp2_with (first | (go_at_call 64; refine (rBit_any _ _ _ (by omega) (by omega) (by omega)).mono ?_; rintro e w' ⟨rfl, rfl⟩))
          go_round
          case rel => exact ⟨j + 1, by omega, by go_num, by rw [← hs.out]⟩
          case measure => simp [intOf]; omega
      · go_wp2_with fail
        go_ret
        exact ⟨ret_int (Bt.rotRef_end x b j x1 x2 (by rw [hm.out]; omega)), rfl⟩
theorem awake1_any (w : World) :
    Calls Try.prog 25 #[] w fun e w' => e = .returned (.bool true) ∧ w = w' := by
  go_enter Try.func25, Try.ntmps25
  go_wp2
  go_ret
  exact ⟨rfl, rfl⟩
end Go.Proofs.Ytpecfbdmgdpnnaa
