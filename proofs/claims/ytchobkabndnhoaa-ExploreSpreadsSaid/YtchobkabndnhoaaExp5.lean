/- ExploreSpreads walked. -/
import Derived.Test.YtchobkabndnhoaaExp4
import Derived.Test.YtchobkabndnhoaaExp3
import Derived.Test.YtchobkabndnhoaaPExp2
namespace Go.Proofs.Ytchobkabndnhoaa
open Go.RowKit
set_option linter.unusedVariables false
set_option maxHeartbeats 1000000
set_option maxRecDepth 100000
theorem ints_of (k : IntKind) (xs : List Int) (h : ∀ x ∈ xs, (Lit.int k x).wf = true) : Ints k xs := h
theorem walk_ExploreSpreads (v m : Int) (w : World) (l1 : (Lit.int .i64 v).wf = true) (c1 : (Lit.int .i64 m).wf = true) :
    Calls Try.prog 9 #[.int .i64 v, .int .i64 m] w fun e w' => e = .returned (.bool true) ∧ Below w.heap.size w w' := by
  have b0 := bounds_i64 l1
  have b1 := bounds_i64 c1
  clear l1 c1
  by_cases h : 1125899906842624 < v
  · go_enter Try.func9, Try.ntmps9
    go_wp2_with (first
      | (go_at_call 28; refine (awake36_any _).mono ?_; rintro e w1 ⟨rfl, hb⟩))
    go_ret
    exact ⟨by first | rfl | exact ret_bool rfl, hb⟩
  · have hwf : Ints .i64 (Xp.spread v m) := fun x hx => wf_i64 (by have := Xp.spread_wf v m (by omega) x hx; omega)
    have hwf := Lib.hid hwf
    have hlen := Xp.spread_len v m
    have hpair := Lib.hid (Xp.spread_pair v m)
    go_enter Try.func9, Try.ntmps9
    go_wp2_with (first
      | (go_at_call 28; refine (awake36_any _).mono ?_; rintro e w1 ⟨rfl, hb⟩))
    refine (xSpread_any _ _ _ (by omega) (by omega) (by omega) (by omega)).mono ?_
    rintro e w2 ⟨vv, rfl, ho, hb2⟩
    obtain ⟨A, c, rfl, hnc, hcm, hAn⟩ := own_shape ho
    have HR := Lib.hid (RowAt.of_own ho)
    have hB := hb.trans (hb2.mono hb.size)
    have hAn := Lib.hid hAn
    clear ho
    generalize hxs : Xp.spread v m = xs at *
    generalize hn : xs.length = n at *
    have hxs := Lib.hid hxs
    have hn := Lib.hid hn
    go_wp2_with fail
    go_loopw [6] (fun t wr => ∃ j q : Nat, (j = 0 ∨ j + 1 ≤ n) ∧ t = .int .i64 ((j : Int) + 1) ∧ wr = w2.drewN q) (fun t _ => n - (intOf t).toNat)
    case atStart => exact ⟨0, 0, .inl rfl, rfl, rfl⟩
    case round =>
      obtain ⟨j, q, hj, rfl, rfl⟩ := hrel
      by_cases hlt : j + 1 < n
      · obtain ⟨b, off, x, rfl, hbl, hx, hwx, hc⟩ := HR.out.int hwf.out hlt
        obtain ⟨b', off', y, hA, hbl', hy, hwy, hc'⟩ := HR.out.int hwf.out (show j < n by omega)
        obtain ⟨rfl, rfl⟩ : b = b' ∧ off = off' := by
          injection hA with hA; injection hA with h1 h2 _; exact ⟨h1, h2⟩
        have hp := hpair.out j x y hx hy
        clear hx hy hA hwx hwy
        have g1 : (j : Int) + 1 < (n : Int) := by omega
        have g2 : (j : Int) < (n : Int) := by omega
        have g3 : 0 ≤ (j : Int) + 1 := by omega
        have d1 : decide (x ≤ y) = false := by simp; omega
        have d2 : decide (v ≤ x) = false := by simp; omega
        have s1 : IntKind.i64.wrap ((j : Int) + 1 - 1) = (j : Int) := by rw [IntKind.wrap_i64]; omega
        have s2 : ((j : Int) + 1).toNat = j + 1 := by omega
        go_wp2_with fail
        go_quiet (fail)
        clear s1 s2
        go_wp2_with fail
        go_roundw
        case rel => exact ⟨j + 1, _, by omega, by go_num, by first | exact World.drewN_drewN .. | rfl⟩
        case measure => simp [intOf]; omega
      · go_wp2_with fail
        refine (rxSpread_any _ _ _ (by omega) (by omega) (by omega) (by omega)).mono ?_
        rintro e w3 ⟨vv, rfl, ho3, hb3⟩
        rw [hxs.out] at ho3
        rw [hn.out] at ho3
        obtain ⟨A3, c3, rfl, hnc3, hcm3, hAn3⟩ := own_shape ho3
        have HR3 := Lib.hid (RowAt.of_own ho3)
        have hAn3 := Lib.hid hAn3
        clear ho3
        go_wp2_with fail
        refine (ints_any A A3 n c n c3 xs xs _ _ _ ((HR.out.drewN q).below hb3) HR3.out hwf.out hwf.out (by unfold maxLen; omega) (by unfold maxLen; omega)).mono ?_
        rintro e w4 ⟨rfl, q4, rfl⟩
        go_wp2_with fail
        go_ret
        exact ⟨ret_bool (eqB_yes _ _ rfl), below_drewN ((below_drewN hB q).trans (hb3.mono hB.size)) _⟩
end Go.Proofs.Ytchobkabndnhoaa
