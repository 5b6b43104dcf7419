/- The words of bytes: what the reference makes. -/
import Derived.Test.YtchobkabndnhoaaBytes2
namespace Go.Proofs.Ytchobkabndnhoaa
open Go.RowKit
set_option linter.unusedVariables false
set_option maxHeartbeats 1000000
set_option maxRecDepth 100000
theorem rwords_any8 (A : Option Addr) (n cap : Nat) (xs : List Int) (B : Nat) (w : World) (hr : RowAt w B A n (xs.map (Value.int .u8))) (hi : Ints .u8 xs) (hl : n ≤ 1000000) (hB : B ≤ w.heap.size) :
    Calls Try.prog 16 #[.slice A n cap] w (OwnInts .u64 65 (By.words xs) w) := by
  obtain ⟨i0, hi0, hz0, hz1, hz2⟩ := info_parts info_u64
  have hlen : xs.length = n := by simpa using hr.1
  have HL := Lib.hid hlen
  have HR := Lib.hid hr
  have HI := Lib.hid hi
  have HB := Lib.hid (isBytes_of hi)
  clear hlen hr hi
  go_enter Try.func16, Try.ntmps16
  go_wp2_with fail
  go_loopw [3, 4, 5, 6] (fun v t _a _b wr => ∃ j : Nat, 8 * j < n + 8 ∧ t = .int .i64 (8 * (j : Int)) ∧ wr.ownsRow w.heap.size 65 1 v j (((List.range j).map (By.word xs)).map (Value.int .u64)) ∧ Below w.heap.size w wr) (fun _ t _ _ _ => n - (intOf t).toNat)
  case atStart => exact ⟨0, by omega, rfl, World.ownsRow_nil _ _ _ _, Below.refl _ _⟩
  case round =>
    obtain ⟨j, hj, rfl, hown, hbe⟩ := hrel
    have hsz := hbe.size
    by_cases hlt : 8 * j < n
    · go_wp2_with fail
      go_loop [5, 6] (fun x t => ∃ (m : Nat) (T : Int), m ≤ 8 ∧ t = .int .i64 T ∧ T + m = 7 ∧ x = .int .u64 (By.high xs (8 * j) m)) (fun _ t => (intOf t + 1).toNat)
      case atStart => exact ⟨0, 7, by omega, rfl, by omega, rfl⟩
      case round =>
        obtain ⟨m, T, hm, rfl, hT, rfl⟩ := hrel
        by_cases h8 : m = 8
        · subst h8
          obtain rfl : T = -1 := by omega
          have hw := Lib.hid (By.high_low xs (8 * j))
          clear hT
          go_wp2_with (first
            | (at_builtin; refine wpList_app1 (P := Try.prog) rfl (.tmp 34) (.tmp 36) 22 rfl w.heap.size 65 i0 (.int .u64 0) 8 Try.underlying22 hi0 hz0 hz1 hz2 rfl _ _ _ rfl hown _ _ rfl rfl (by unfold maxLen; omega) (by omega) hsz w.heap.size w hbe (Nat.le_refl _) ?_; intro v' w' hown' hbe' hlt' _))
          go_roundw
          case rel =>
            refine ⟨j + 1, by omega, by go_num, ?_, hbe'⟩
            rw [hw.out] at hown'
            rw [List.range_succ, List.map_append, List.map_append]
            exact hown'
          case measure => simp [intOf] <;> omega
        · obtain ⟨p, hp⟩ : ∃ p : Nat, m + p = 7 := ⟨7 - m, by omega⟩
          obtain rfl : T = (p : Int) := by omega
          have hb := By.high_lt xs HB.out (8 * j) m (by omega)
          have hs := By.high_succ xs (8 * j) m
          rw [show 7 - m = p from by omega] at hs
          by_cases hin : 8 * j + p < n
          · obtain ⟨b, off, d, rfl, hbl, hd, hwd, hc0⟩ := HR.out.int HI.out hin
            have hcell := (hbe.cell (p := ⟨b, off + (8 * j + p), none⟩) (by simp; omega)).trans hc0
            have db := bounds_u8 hwd
            rw [List.getD_eq_getElem?_getD, hd, Option.getD_some] at hs
            have hs := Lib.hid hs
            clear hd hwd hc0 hT
            go_wp2_with fail
            go_round
            case rel => exact ⟨m + 1, (p : Int) - 1, by omega, by go_num, by omega, by rw [hs.out]⟩
            case measure => simp [intOf] <;> omega
          · rw [List.getD_eq_getElem?_getD, List.getElem?_eq_none (by rw [HL.out]; omega), Option.getD_none, Int.add_zero] at hs
            have hs := Lib.hid hs
            clear hT
            go_wp2_with fail
            go_round
            case rel => exact ⟨m + 1, (p : Int) - 1, by omega, by go_num, by omega, by rw [hs.out]⟩
            case measure => simp [intOf] <;> omega
    · go_wp2_with fail
      go_ret
      have hjn : (xs.length + 7) / 8 = j := by rw [HL.out]; omega
      exact OwnInts.mk _ rfl j (by rw [By.words_len]; exact hjn) (by unfold By.words; rw [hjn]; exact hown) hbe
end Go.Proofs.Ytchobkabndnhoaa
