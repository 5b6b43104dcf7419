/- Whether a slot is right: the code's and the reference's. -/
import Derived.Test.YtgcjagffoeoldaaCrc2
import Derived.Test.YtgcjagffoeoldaaBlk
import Derived.Test.YtgcjagffoeoldaaPSlot
import Derived.LoopN
namespace Go.Proofs.Ytgcjagffoeoldaa
open Go.RowKit
set_option linter.unusedVariables false
set_option linter.unusedSimpArgs false
set_option maxHeartbeats 4000000
set_option maxRecDepth 100000
def I64 (x : Int) : Prop := -9223372036854775808 ≤ x ∧ x ≤ 9223372036854775807
theorem roots_at (r0 r1 r2 r3 r4 r5 r6 r7 : Int) (k : Nat) (hk : k < 8) (w : World) : ∃ r, [r0, r1, r2, r3, r4, r5, r6, r7][k]? = some r ∧ (Instr.index 36 (.agg #[.int .i64 r0, .int .i64 r1, .int .i64 r2, .int .i64 r3, .int .i64 r4, .int .i64 r5, .int .i64 r6, .int .i64 r7]) (.int .i64 (k : Int))).run Try.prog w = .ok (.int .i64 r) w := by
  obtain ⟨i0, hi0, _⟩ := info_parts info_int
  obtain ⟨r, hr⟩ : ∃ r, [r0, r1, r2, r3, r4, r5, r6, r7][k]? = some r := ⟨_, List.getElem?_eq_getElem hk⟩
  refine ⟨r, hr, run_index_ints w Try.underlying36 Try.underlying3 (by kernel_rfl) hi0 _ .i64 k _ (by omega) (by omega) ?_⟩
  have e : (#[.int .i64 r0, .int .i64 r1, .int .i64 r2, .int .i64 r3, .int .i64 r4, .int .i64 r5, .int .i64 r6, .int .i64 r7] : Array Value) = ([r0, r1, r2, r3, r4, r5, r6, r7].map (Value.int .i64)).toArray := rfl
  rw [e, Int.toNat_natCast, List.getElem?_toArray, List.getElem?_map, hr]; rfl
theorem i64_of (r0 r1 r2 r3 r4 r5 r6 r7 : Int) (h : ∀ r ∈ [r0, r1, r2, r3, r4, r5, r6, r7], I64 r) (k : Nat) (r : Int) (hr : [r0, r1, r2, r3, r4, r5, r6, r7][k]? = some r) : I64 r := h r (List.mem_of_getElem? hr)
theorem slRight_any (E r0 r1 r2 r3 r4 r5 r6 r7 : Int) (w : World) (hE : 0 ≤ E ∧ E ≤ 18446744073709551615) (hR : ∀ r ∈ [r0, r1, r2, r3, r4, r5, r6, r7], I64 r) :
    Calls Try.prog 21 #[.agg #[.int .u64 E, .int .i64 r0, .int .i64 r1, .int .i64 r2, .int .i64 r3, .int .i64 r4, .int .i64 r5, .int .i64 r6, .int .i64 r7]] w fun e w' => e = .returned (.bool (St.rightB E [r0, r1, r2, r3, r4, r5, r6, r7])) ∧ Below w.heap.size w w' := by
  have HR := Lib.hid hR
  have HA := Lib.hid (roots_at r0 r1 r2 r3 r4 r5 r6 r7)
  clear hR
  go_enter Try.func21, Try.ntmps21
  go_wp2_with fail
  go_loop [4, 7] (fun _r t => ∃ k : Nat, k ≤ 8 ∧ t = .int .i64 k ∧ St.okR ([r0, r1, r2, r3, r4, r5, r6, r7].take k)) (fun _ t => 8 - (intOf t).toNat)
  case atStart => exact ⟨0, by omega, rfl, by intro x hx; simp at hx⟩
  case round =>
    obtain ⟨k, hk, rfl, hok⟩ := hrel
    have hok := Lib.hid hok
    by_cases hlt : k < 8
    · obtain ⟨r, hr, hidx⟩ := HA.out k hlt (w.alloc (.cells #[.int .u64 E, .int .i64 r0, .int .i64 r1, .int .i64 r2, .int .i64 r3, .int .i64 r4, .int .i64 r5, .int .i64 r6, .int .i64 r7] 38))
      have hb := i64_of _ _ _ _ _ _ _ _ HR.out k r hr
      unfold I64 at hb
      have hr := Lib.hid hr
      by_cases h1 : 0 ≤ r ∧ r ≤ 131071
      · have hs := Lib.hid (St.okR_take_succ _ k r hr.out hok.out h1)
        go_wp2_with fail
        go_round
        case rel => exact ⟨k + 1, by omega, by go_num, hs.out⟩
        case measure => simp [intOf] <;> omega
      · have ev := Lib.hid (St.rightB_no E _ (fun h => St.okR_not _ k r hr.out h1 h.1))
        rcases (show r < 0 ∨ (0 ≤ r ∧ 131071 < r) from by omega) with g | ⟨g1, g2⟩
        all_goals
          clear h1
          go_wp2_with fail
          go_ret
          exact ⟨ret_bool ev.out.symm, (Below.refl _ _).alloc (Nat.le_refl _) _⟩
    · obtain rfl : k = 8 := by omega
      by_cases h1 : 0 < E
      · have ev := Lib.hid (St.rightB_yes E _ hok.out h1)
        go_wp2_with fail
        go_ret
        exact ⟨by first | exact ret_bool ev.out.symm | (apply ret_bool; rw [show ([r0, r1, r2, r3, r4, r5, r6, r7].take 8) = [r0, r1, r2, r3, r4, r5, r6, r7] from rfl] at ev; rw [ev.out]; simp; omega), (Below.refl _ _).alloc (Nat.le_refl _) _⟩
      · have ev := Lib.hid (St.rightB_no E [r0, r1, r2, r3, r4, r5, r6, r7] (fun h => h1 h.2))
        go_wp2_with fail
        go_ret
        exact ⟨by first | exact ret_bool ev.out.symm | (apply ret_bool; rw [ev.out]; simp; omega), (Below.refl _ _).alloc (Nat.le_refl _) _⟩
end Go.Proofs.Ytgcjagffoeoldaa
