/- The bytes of words: what the code and the reference make. -/
import Derived.Test.YtgcjagffoeoldaaMem
import Derived.Test.YtgcjagffoeoldaaPBytes
namespace Go.Proofs.Ytgcjagffoeoldaa
open Go.RowKit
set_option linter.unusedVariables false
set_option maxHeartbeats 400000
set_option maxRecDepth 100000
theorem rBytes_any (A : Option Addr) (len cap : Nat) (xs : List Int) (B : Nat) (w : World) (hr : RowAt w B A len (xs.map (Value.int .u64))) (hi : Ints .u64 xs) (hl : len ≤ 1099511627776) (hB : B ≤ w.heap.size) :
    Calls Try.prog 75 #[.slice A len cap] w fun e w' => ∃ v, e = .returned v ∧ w'.ownsRow w.heap.size 5 1 v (8 * len) ((By.bytes xs).map (Value.int .u8)) ∧ Below w.heap.size w w' := by
  obtain ⟨i0, hi0, hz0, hz1, hz2⟩ := info_parts info_u8
  have HI := Lib.hid hi
  have HR := Lib.hid hr
  have hlen : xs.length = len := by simpa using hr.1
  have HL := Lib.hid hlen
  clear hi hr hlen
  go_enter Try.func75, Try.ntmps75
  go_wp2_with fail
  go_loopw [3, 4, 5, 6] (fun v t _a _b wr => ∃ j : Nat, j ≤ len ∧ t = .int .i64 j ∧ wr.ownsRow w.heap.size 5 1 v (8 * j) ((By.bytes (xs.take j)).map (Value.int .u8)) ∧ Below w.heap.size w wr) (fun _ t _ _ _ => len - (intOf t).toNat)
  case atStart => exact ⟨0, by omega, rfl, World.ownsRow_nil _ _ _ _, Below.refl _ _⟩
  case round =>
    obtain ⟨j, hj, rfl, hown, hbe⟩ := hrel
    have hsz := hbe.size
    by_cases hlt : j < len
    · obtain ⟨b, off, z, rfl, hbl, hz, hwz, hc⟩ := HR.out.int HI.out hlt
      have hzb := bounds_u64 hwz
      have hc2 := (hbe.cell (p := ⟨b, off + j, none⟩) (by simp; omega)).trans hc
      have HT := Lib.hid (take_succ_of hz)
      clear hz hwz hc
      go_wp2_with fail
      go_loopw [3, 5, 6] (fun v x t wr => ∃ k : Nat, k ≤ 8 ∧ t = .int .i64 k ∧ x = .int .u64 (By.rest z k) ∧ wr.ownsRow w.heap.size 5 1 v (8 * j + k) ((By.bytes (xs.take j) ++ By.bytesTo z k).map (Value.int .u8)) ∧ Below w.heap.size w wr) (fun _ _ t _ => 8 - (intOf t).toNat)
      case atStart => exact ⟨0, by omega, rfl, by rw [By.rest_zero z hzb.1], by rw [By.bytesTo_zero, List.append_nil]; exact hown, hbe⟩
      case round =>
        clear hown hbe hc2 hsz
        obtain ⟨k, hk, rfl, rfl, hown, hbe⟩ := hrel
        have hsz := hbe.size
        have hkb := By.rest_bd z k hzb.2
        have hks := Lib.hid (By.rest_succ z k)
        have hbs := Lib.hid (By.bytesTo_succ z k)
        by_cases hlk : k < 8
        · have hba : By.rest z k % 256 = By.byteAt z k := rfl
          have hbb := By.byteAt_bd z k
          have HBA := Lib.hid hba
          go_wp2_with (first
            | (at_builtin; refine wpList_app1 (P := Try.prog) rfl (.tmp 21) (.tmp 25) 73 rfl w.heap.size 5 i0 (.int .u8 0) 1 Try.underlying73 hi0 hz0 hz1 hz2 rfl _ _ _ rfl hown _ _ rfl rfl (by unfold maxLen; omega) (by omega) hsz w.heap.size w hbe (Nat.le_refl _) ?_; intro v' w' hown' hbe' hlt' _))
          go_roundw
          case rel =>
            refine ⟨k + 1, by omega, by go_num, by rw [hks.out], ?_, hbe'⟩
            rw [hbs.out, ← List.append_assoc, By.map_snoc, ← HBA.out]
            exact hown'
          case measure => simp [intOf]; omega
        · obtain rfl : k = 8 := by omega
          go_wp2_with fail
          go_roundw
          case rel =>
            refine ⟨j + 1, by omega, by go_num, ?_, hbe⟩
            rw [HT.out, By.bytes_snoc]
            exact hown
          case measure => simp [intOf]; omega
    · go_wp2_with fail
      go_ret
      obtain rfl : j = len := by omega
      rw [List.take_of_length_le (by rw [HL.out]; exact Nat.le_refl _)] at hown
      exact ⟨_, rfl, hown, hbe⟩
theorem bytes_any (A : Option Addr) (len cap : Nat) (xs : List Int) (B : Nat) (w : World) (hr : RowAt w B A len (xs.map (Value.int .u64))) (hi : Ints .u64 xs) (hl : len ≤ 1099511627776) (hB : B ≤ w.heap.size) :
    Calls Try.prog 73 #[.slice A len cap] w fun e w' => ∃ v, e = .returned v ∧ w'.ownsRow w.heap.size 5 1 v (8 * len) ((By.bytes xs).map (Value.int .u8)) ∧ Below w.heap.size w w' := by
  obtain ⟨i0, hi0, hz0, hz1, hz2⟩ := info_parts info_u8
  have HI := Lib.hid hi
  have HR := Lib.hid hr
  have hlen : xs.length = len := by simpa using hr.1
  have HL := Lib.hid hlen
  clear hi hr hlen
  go_enter Try.func73, Try.ntmps73
  go_wp2_with (first
    | (at_make; refine wpList_make_own (P := Try.prog) _ rfl _ _ 73 rfl w.heap.size 5 i0 (.int .u8 0) 1 Try.underlying73 hi0 hz0 hz1 .i64 .i64 (8 * (len : Int)) (8 * len) rfl rfl (by omega) (by rw [hz2]; omega) (by unfold maxLen; omega) (Nat.le_refl _) ?_; intro w1 hown0 hg0))
  have hb0 : Below w.heap.size w w1 := (Below.refl _ _).grown hg0 (Nat.le_refl _) (by intro k hk; cases hk)
  clear hg0
  go_loopw [3, 5, 6, 13, 17] (fun v _a _b t _c wr => ∃ j : Nat, j ≤ len ∧ t = .int .i64 j ∧ wr.ownsRow w.heap.size 5 1 v (8 * j) ((By.bytes (xs.take j)).map (Value.int .u8)) ∧ Below w.heap.size w wr) (fun _ _ _ t _ _ => len - (intOf t).toNat)
  case atStart => exact ⟨0, by omega, rfl, hown0, hb0⟩
  case round =>
    clear hown0 hb0
    obtain ⟨j, hj, rfl, hown, hbe⟩ := hrel
    have hsz := hbe.size
    by_cases hlt : j < len
    · obtain ⟨b, off, z, rfl, hbl, hz, hwz, hc⟩ := HR.out.int HI.out hlt
      have hzb := bounds_u64 hwz
      have hc2 := (hbe.cell (p := ⟨b, off + j, none⟩) (by simp; omega)).trans hc
      have HT := Lib.hid (take_succ_of hz)
      clear hz hwz hc
      go_wp2_with fail
      go_loopw [3, 6, 17] (fun v _b t wr => ∃ k : Nat, k ≤ 8 ∧ t = .int .i64 k ∧ wr.ownsRow w.heap.size 5 1 v (8 * j + k) ((By.bytes (xs.take j) ++ By.bytesTo z k).map (Value.int .u8)) ∧ Below w.heap.size w wr) (fun _ _ t _ => 8 - (intOf t).toNat)
      case atStart => exact ⟨0, by omega, rfl, by rw [By.bytesTo_zero, List.append_nil]; exact hown, hbe⟩
      case round =>
        clear hown hbe hc2 hsz
        obtain ⟨k, hk, rfl, hown, hbe⟩ := hrel
        have hsz := hbe.size
        have hkb := By.rest_bd z k hzb.2
        have hbs := Lib.hid (By.bytesTo_succ z k)
        by_cases hlk : k < 8
        · have hba : By.rest z k % 256 = By.byteAt z k := rfl
          have hbb := By.byteAt_bd z k
          have HBA := Lib.hid hba
          clear hba
          have hsh := By.rest_shr z k hzb.1
          go_wp2_with (first
            | (at_builtin; refine wpList_app1 (P := Try.prog) rfl (.tmp 20) (.tmp 27) 73 rfl w.heap.size 5 i0 (.int .u8 0) 1 Try.underlying73 hi0 hz0 hz1 hz2 rfl _ _ _ rfl hown _ _ rfl rfl (by unfold maxLen; omega) (by omega) hsz w.heap.size w hbe (Nat.le_refl _) ?_; intro v' w' hown' hbe' hlt' _))
          clear hsh
          go_roundw
          case rel =>
            refine ⟨k + 1, by omega, by go_num, ?_, hbe'⟩
            rw [hbs.out, ← List.append_assoc, By.map_snoc, ← HBA.out]
            exact hown'
          case measure => simp [intOf]; omega
        · obtain rfl : k = 8 := by omega
          go_wp2_with fail
          go_roundw
          case rel =>
            refine ⟨j + 1, by omega, by go_num, ?_, hbe⟩
            rw [HT.out, By.bytes_snoc]
            exact hown
          case measure => simp [intOf]; omega
    · go_wp2_with fail
      go_ret
      obtain rfl : j = len := by omega
      rw [List.take_of_length_le (by rw [HL.out]; exact Nat.le_refl _)] at hown
      exact ⟨_, rfl, hown, hbe⟩
end Go.Proofs.Ytgcjagffoeoldaa
