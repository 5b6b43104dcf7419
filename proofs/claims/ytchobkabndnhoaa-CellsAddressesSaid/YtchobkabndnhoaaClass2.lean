/- What the functions of package class that search, and those of its reference, compute: one contract each. -/
import Derived.Test.YtchobkabndnhoaaClass1
namespace Go.Proofs.Ytchobkabndnhoaa
open Go.RowKit
set_option linter.unusedVariables false
set_option maxHeartbeats 400000
set_option maxRecDepth 100000
theorem rCells_any (k : Int) (w : World) (h1 : -9223372036854775808 ≤ k) (h2 : k ≤ 9223372036854775807) : Calls Try.prog 42 #[.int .i64 k] w fun e w' => e = .returned (.int .i64 (Cl.cells k)) ∧ Below w.heap.size w w' := by
  have hcb := Cl.cells_bd k
  have hwb := Cl.words_bd k
  go_enter Try.func42, Try.ntmps42
  go_wp2_with fail
  go_loopw [3] (fun t wr => ∃ m : Int, 0 ≤ m ∧ m ≤ Cl.cells k ∧ t = .int .i64 m ∧ Below w.heap.size w wr) (fun t _ => (256 - intOf t).toNat)
  case atStart => exact ⟨0, by omega, by omega, rfl, Below.refl _ _⟩
  case round =>
    obtain ⟨m, r1, r2, rfl, hbe⟩ := hrel
    have hsz := hbe.size
    by_cases c : 0 ≤ k ∧ k < 32
    · obtain ⟨c1, c2⟩ := c
      have hp := Cl.words_pos k c1 c2
      have hm0 : 0 ≤ (m + 1) * Cl.words k := Int.mul_nonneg (by omega) (by omega)
      have hm1 : (m + 1) * Cl.words k ≤ 257 * 256 := Int.mul_le_mul (by omega) (by omega) (by omega) (by omega)
      by_cases hlt : m < Cl.cells k
      · have hm2 := (Cl.cells_more k m c1 c2 r1).2 hlt
        go_wp2_with fail
        refine (rWords_any _ _ (by omega) (by omega)).mono ?_
        rintro e w2 ⟨rfl, hb2⟩
        have hs2 := hb2.size
        go_wp2_with fail
        refine (rWords_any _ _ (by omega) (by omega)).mono ?_
        rintro e w3 ⟨rfl, hb3⟩
        go_wp2_with fail
        go_roundw
        case rel => exact ⟨m + 1, by omega, by omega, rfl, (hbe.trans (hb2.mono hsz)).trans (hb3.mono (by omega))⟩
        case measure => simp [intOf]; omega
      · have hm2 : ¬ (m + 1) * Cl.words k ≤ 512 := fun h => hlt ((Cl.cells_more k m c1 c2 r1).1 h)
        go_wp2_with fail
        refine (rWords_any _ _ (by omega) (by omega)).mono ?_
        rintro e w2 ⟨rfl, hb2⟩
        have hs2 := hb2.size
        go_wp2_with fail
        refine (rWords_any _ _ (by omega) (by omega)).mono ?_
        rintro e w3 ⟨rfl, hb3⟩
        go_wp2_with fail
        go_ret
        exact ⟨ret_int (by omega), (hbe.trans (hb2.mono hsz)).trans (hb3.mono (by omega))⟩
    · have e0 := Cl.words_out k (by omega)
      have e1 := Lib.hid (Cl.cells_out k (by omega))
      go_wp2_with fail
      refine (rWords_any _ _ (by omega) (by omega)).mono ?_
      rintro e w2 ⟨rfl, hb2⟩
      go_wp2_with fail
      go_ret
      exact ⟨ret_int (by have := e1.out; omega), hbe.trans (hb2.mono hsz)⟩
end Go.Proofs.Ytchobkabndnhoaa
