/- What the functions of package crc on bytes, and those of its reference, compute: one contract each. -/
import Derived.Test.YtgcjagffoeoldaaCrc0
import Derived.Test.YtgcjagffoeoldaaMem
namespace Go.Proofs.Ytgcjagffoeoldaa
open Go.RowKit
set_option linter.unusedVariables false
set_option maxHeartbeats 400000
theorem more_any (s : Int) (A : Option Addr) (len cap : Nat) (xs : List Int) (B : Nat) (w : World) (h1 : 0 ≤ s) (h2 : s ≤ 4294967295) (hr : RowAt w B A len (xs.map (Value.int .u8))) (hi : Ints .u8 xs) (hl : len ≤ 9223372036854775807) :
    Calls Try.prog 85 #[.int .u32 s, .slice A len cap] w fun e w' => e = .returned (.int .u32 (Cr.more s xs)) ∧ w = w' := by
  have hb : ∀ b ∈ xs, 0 ≤ b ∧ b ≤ 255 := fun b hb => bounds_u8 (hi b hb)
  have HB := Lib.hid hb
  have HI := Lib.hid hi
  have HR := Lib.hid hr
  have hlen : xs.length = len := by simpa using hr.1
  have HL := Lib.hid hlen
  clear hb hi hr hlen
  have hn := Cr.not_code s h1 h2
  have hfin := Lib.hid (Cr.more_code s xs h1 h2 HB.out)
  go_enter Try.func85, Try.ntmps85
  go_wp2_with fail
  go_loop [0, 6, 11] (fun s' _u t => ∃ j : Nat, j ≤ len ∧ t = .int .i64 j ∧ s' = .int .u32 (Cr.run (4294967295 - s) (xs.take j))) (fun _ _ t => len - (intOf t).toNat)
  case atStart => exact ⟨0, by omega, rfl, rfl⟩
  case round =>
    obtain ⟨j, hj, rfl, rfl⟩ := hrel
    have hbd := Cr.run_bd (xs.take j) (4294967295 - s) (by omega) (by omega) (fun b hb => HB.out b (List.mem_of_mem_take hb))
    by_cases hlt : j < len
    · obtain ⟨b, off, z, rfl, hbl, hz, hwz, hc⟩ := HR.out.int HI.out hlt
      have hzb := bounds_u8 hwz
      have HN := Lib.hid (Cr.run_snoc (4294967295 - s) (xs.take j) z)
      have HT := Lib.hid (take_succ_of hz)
      clear hz hwz
      generalize Cr.run (4294967295 - s) (xs.take j) = r at *
      have hh := Cr.half_code r z hbd.1 hbd.2 hzb.1 hzb.2
      obtain ⟨s1, hs1⟩ : ∃ s1, bits .xor .u32 (Cr.tabI (bits .xor .u8 (r % 256) z)) (r / 16) = s1 := ⟨_, rfl⟩
      have hsb := Cr.half_bd r z s1 hbd.1 hbd.2 hzb.1 hzb.2 hs1
      have hcode := Cr.byte_code r z s1 hbd.1 hbd.2 hzb.1 hzb.2 hs1
      have hh2 := (Cr.half_code s1 (z / 16) hsb.1 hsb.2 (by omega) (by omega)).2
      have hh1 := hh.2
      clear hh
      have t1 := Cr.tabI_bd (bits .xor .u8 (r % 256) z)
      go_wp2_with (first
      | (go_at_call 86; refine (table_any _ _ (by omega) (by omega)).mono ?_; rintro e w' ⟨rfl, rfl⟩))
      go_round
      case rel => exact ⟨j + 1, by omega, by go_num, by rw [HT.out, HN.out]⟩
      case measure => simp [intOf]; omega
    · go_wp2_with fail
      go_ret
      exact ⟨ret_int (by rw [← hfin.out]; congr 2; rw [List.take_of_length_le (by rw [HL.out]; omega)]), rfl⟩
theorem rMore_any (s : Int) (A : Option Addr) (len cap : Nat) (xs : List Int) (B : Nat) (w : World) (h1 : 0 ≤ s) (h2 : s ≤ 4294967295) (hr : RowAt w B A len (xs.map (Value.int .u8))) (hi : Ints .u8 xs) (hl : len ≤ 9223372036854775807) :
    Calls Try.prog 74 #[.int .u32 s, .slice A len cap] w fun e w' => e = .returned (.int .u32 (Cr.more s xs)) ∧ w = w' := by
  have hb : ∀ b ∈ xs, 0 ≤ b ∧ b ≤ 255 := fun b hb => bounds_u8 (hi b hb)
  have HB := Lib.hid hb
  have HI := Lib.hid hi
  have HR := Lib.hid hr
  have hlen : xs.length = len := by simpa using hr.1
  have HL := Lib.hid hlen
  clear hb hi hr hlen
  have hmb := Cr.more_bd s xs h1 h2 HB.out
  go_enter Try.func74, Try.ntmps74
  go_wp2_with fail
  go_loop [5, 6, 7, 8] (fun s' t _u _v => ∃ j : Nat, j ≤ len ∧ t = .int .i64 j ∧ s' = .int .u32 (Cr.run (4294967295 - s) (xs.take j))) (fun _ t _ _ => len - (intOf t).toNat)
  case atStart => exact ⟨0, by omega, rfl, rfl⟩
  case round =>
    obtain ⟨j, hj, rfl, rfl⟩ := hrel
    have hbd := Cr.run_bd (xs.take j) (4294967295 - s) (by omega) (by omega) (fun b hb => HB.out b (List.mem_of_mem_take hb))
    by_cases hlt : j < len
    · obtain ⟨b, off, z, rfl, hbl, hz, hwz, hc⟩ := HR.out.int HI.out hlt
      have hzb := bounds_u8 hwz
      have HN := Lib.hid (Cr.run_snoc (4294967295 - s) (xs.take j) z)
      have HT := Lib.hid (take_succ_of hz)
      clear hz hwz
      generalize Cr.run (4294967295 - s) (xs.take j) = r at *
      have hx := Cr.xor_byte r z hbd.1 hbd.2 hzb.1 hzb.2
      have HX := Lib.hid hx.2.2
      have hx1 := hx.1
      have hx2 := hx.2.1
      clear hx
      generalize hq : bits .xor .u32 r z = q at *
      go_wp2_with fail
      go_loop [5, 7, 8] (fun s' t _u => ∃ k : Nat, k ≤ 8 ∧ t = .int .i64 k ∧ s' = .int .u32 (Cr.stepI q k)) (fun _ t _ => 8 - (intOf t).toNat)
      case atStart => exact ⟨0, by omega, rfl, by rw [Cr.stepI_zero q hx1]⟩
      case round =>
        obtain ⟨k, hk, rfl, rfl⟩ := hrel
        have hkb := Cr.stepI_bd q k hx1 hx2
        by_cases hlk : k < 8
        · by_cases ho : Cr.stepI q k % 2 = 1
          · have HO := Lib.hid (Cr.stepI_odd q k hx1 hx2 ho)
            have ho2 : (Cr.stepI q k % 2 == 1) = true := by simpa using ho
            clear ho
            go_wp2_with fail
            go_round
            case rel => exact ⟨k + 1, by omega, by go_num, by rw [HO.out]⟩
            case measure => simp [intOf]; omega
          · have HO := Lib.hid (Cr.stepI_even q k hx1 hx2 ho)
            have ho2 : (Cr.stepI q k % 2 == 1) = false := by simpa using ho
            clear ho
            go_wp2_with fail
            go_round
            case rel => exact ⟨k + 1, by omega, by go_num, by rw [HO.out]⟩
            case measure => simp [intOf]; omega
        · obtain rfl : k = 8 := by omega
          go_wp2_with fail
          go_round
          case rel => exact ⟨j + 1, by omega, by go_num, by rw [HT.out, HN.out, HX.out]⟩
          case measure => simp [intOf]; omega
    · have hfin : Cr.run (4294967295 - s) (xs.take j) = Cr.run (4294967295 - s) xs := by rw [List.take_of_length_le (by rw [HL.out]; omega)]
      go_wp2_with fail
      go_ret
      exact ⟨ret_int (by unfold Cr.more; omega), rfl⟩
theorem sum_any (A : Option Addr) (len cap : Nat) (xs : List Int) (B : Nat) (w : World) (hr : RowAt w B A len (xs.map (Value.int .u8))) (hi : Ints .u8 xs) (hl : len ≤ 9223372036854775807) :
    Calls Try.prog 72 #[.slice A len cap] w fun e w' => e = .returned (.int .u32 (Cr.more 0 xs)) ∧ w = w' := by
  go_enter Try.func72, Try.ntmps72
  go_wp2_with fail
  refine (more_any 0 A len cap xs B _ (by omega) (by omega) hr hi hl).mono ?_
  rintro e w' ⟨rfl, rfl⟩
  go_wp2_with fail
  go_ret
  exact ⟨rfl, rfl⟩
theorem sum_nine : Cr.more 0 [49, 50, 51, 52, 53, 54, 55, 56, 57] = 3421780262 := by decide +kernel
end Go.Proofs.Ytgcjagffoeoldaa
