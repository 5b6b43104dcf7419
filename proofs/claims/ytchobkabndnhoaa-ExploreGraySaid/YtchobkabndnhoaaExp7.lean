/- ExploreGray walked. -/
import Derived.Test.YtchobkabndnhoaaExp6
import Derived.Test.YtchobkabndnhoaaExp3
import Derived.Test.YtchobkabndnhoaaInts
namespace Go.Proofs.Ytchobkabndnhoaa
open Go.RowKit
set_option linter.unusedVariables false
set_option maxHeartbeats 2000000
set_option maxRecDepth 100000
theorem xGray_next (n k : Nat) (w : World) (h : n ≤ 60) (hk : k + 1 ≤ 65536) :
    Calls Try.prog 33 #[.int .i64 n, .int .i64 ((k : Int) + 1)] w (OwnInts .u8 5 (Xp.gray (k + 1) n) w) := by
  have := xGray_any n (k + 1) w h hk
  rw [Int.natCast_add] at this
  exact this
theorem gray_at {W : World} {A : Option Addr} {B n k j : Nat} (h : RowAt W B A n ((Xp.gray k n).map (Value.int .u8))) (hj : j < n) :
    ∃ b off, A = some ⟨b, off, none⟩ ∧ W.cell? ⟨b, off + j, none⟩ = some (.int .u8 (if Xp.gb k j then 2 else 0)) := by
  obtain ⟨b, off, u, e, hb, hx, hc⟩ := h.at_ hj
  rw [List.getElem?_map, Xp.gray_get k n j hj] at hx
  refine ⟨b, off, e, ?_⟩
  rw [hc, ← hx]; rfl
theorem walk_ExploreGray (a k m : Int) (w : World) (l1 : (Lit.int .u8 a).wf = true) (c1 : (Lit.int .u16 k).wf = true) (d1 : (Lit.int .u16 m).wf = true) :
    Calls Try.prog 8 #[.int .u8 a, .int .u16 k, .int .u16 m] w fun e w' => e = .returned (.bool true) ∧ Below w.heap.size w w' := by
  have b0 := bounds_u8 l1
  have b1 := bounds_u16 c1
  have b2 := bounds_u16 d1
  clear l1 c1 d1
  obtain ⟨k, rfl⟩ := Int.eq_ofNat_of_zero_le b1.1
  obtain ⟨m, rfl⟩ := Int.eq_ofNat_of_zero_le b2.1
  obtain ⟨n, hn⟩ := Int.eq_ofNat_of_zero_le (show 0 ≤ a % 70 from Int.emod_nonneg _ (by omega))
  have hn2 : n < 70 := by omega
  by_cases h : 60 < n
  · go_enter Try.func8, Try.ntmps8
    go_wp2_with (first
      | (go_at_call 28; refine (awake36_any _).mono ?_; rintro e w1 ⟨rfl, hb⟩)
      | (go_at_call 33; refine (xGray_out _ _ _ (by omega) (by omega) (by omega) (by omega) (by omega)).mono ?_; rintro e w' ⟨rfl, rfl⟩))
    go_ret
    exact ⟨by first | rfl | exact ret_bool rfl | exact ret_bool (by simp), hb⟩
  · have h60 : n ≤ 60 := by omega
    clear h
    go_enter Try.func8, Try.ntmps8
    go_wp2_with (first
      | (go_at_call 28; refine (awake36_any _).mono ?_; rintro e w1 ⟨rfl, hb⟩))
    refine (xGray_any n k _ (by omega) (by omega)).mono ?_
    rintro e w2 ⟨v1, rfl, ho1, hb2⟩
    rw [Xp.gray_len] at ho1
    obtain ⟨A1, c1, rfl, hnc1, hcm1, _⟩ := own_shape ho1
    have R1 := Lib.hid (RowAt.of_own ho1)
    clear ho1
    replace hb2 := hb.trans (hb2.mono hb.size)
    clear hb
    go_wp2_with fail
    refine (xGray_next n k _ (by omega) (by omega)).mono ?_
    rintro e w3 ⟨v2, rfl, ho2, hb3⟩
    rw [Xp.gray_len] at ho2
    obtain ⟨A2, c2, rfl, hnc2, hcm2, _⟩ := own_shape ho2
    have R2 := Lib.hid (RowAt.of_own ho2)
    replace R1 := Lib.hid (R1.out.below hb3)
    clear ho2
    have hb3' := hb2.trans (hb3.mono hb2.size)
    clear hb2
    go_wp2_with fail
    refine (xGray_any n m _ (by omega) (by omega)).mono ?_
    rintro e w4 ⟨v3, rfl, ho3, hb4⟩
    rw [Xp.gray_len] at ho3
    obtain ⟨A3, c3, rfl, hnc3, hcm3, _⟩ := own_shape ho3
    have R3 := Lib.hid (RowAt.of_own ho3)
    replace R1 := Lib.hid (R1.out.below (hb4.mono hb3.size))
    replace R2 := Lib.hid (R2.out.below hb4)
    clear ho3
    have hB := hb3'.trans (hb4.mono hb3'.size)
    clear hb3' hb3 hb4
    go_wp2_with (first
      | (go_at_call 33; refine (xGray_out _ _ _ (by omega) (by omega) (by omega) (by omega) (by omega)).mono ?_; rintro e w' ⟨rfl, rfl⟩))
    go_loopw [11, 12, 13] (fun d p t wr => ∃ j q : Nat, j ≤ n ∧ t = .int .i64 j ∧ d = .int .i64 ((Xp.gd k (k + 1) j : Nat) : Int) ∧ p = .int .i64 ((Xp.gd k m j : Nat) : Int) ∧ wr = w4.drewN q) (fun _ _ t _ => n - (intOf t).toNat)
    case atStart => exact ⟨0, 0, by omega, rfl, rfl, rfl, rfl⟩
    case round =>
      obtain ⟨j, q, hj, rfl, rfl, rfl, rfl⟩ := hrel
      have g1 := Xp.gd_le k (k + 1) j
      have g2 := Xp.gd_le k m j
      by_cases hlt : j < n
      · obtain ⟨x1, y1, rfl, h1⟩ := gray_at R1.out hlt
        obtain ⟨x2, y2, rfl, h2⟩ := gray_at R2.out hlt
        obtain ⟨x3, y3, rfl, h3⟩ := gray_at R3.out hlt
        have s1 := Xp.gd_succ k (k + 1) j
        have s2 := Xp.gd_succ k m j
        cases ha : Xp.gb k j <;> cases hb : Xp.gb (k + 1) j <;> cases hc : Xp.gb m j
        all_goals
          rw [ha] at h1 s1 s2
          rw [hb] at h2 s1
          rw [hc] at h3 s2
          simp only [if_true, if_false, Bool.false_eq_true, Bool.true_eq_false] at h1 h2 h3 s1 s2
          clear ha hb hc
          have S1 := Lib.hid s1
          have S2 := Lib.hid s2
          clear s1 s2
          go_wp2_with fail
          go_quiet (fail)
          go_wp2_with fail
          go_quiet (fail)
          go_wp2_with fail
          go_roundw
          case rel => exact ⟨j + 1, _, by omega, by go_num, by rw [S1.out]; go_num, by rw [S2.out]; go_num, by first | exact World.drewN_drewN .. | rfl⟩
          case measure => simp [intOf]; omega
      · obtain rfl : j = n := by omega
        obtain ⟨n1, n2⟩ := Xp.gd_next j k
        by_cases h17 : j < 17
        · generalize Xp.gd k (k + 1) j = D at *
          generalize Xp.gd k m j = P at *
          clear n2
          go_wp2_with fail
          go_ret
          exact ⟨by first | rfl | exact ret_bool rfl | exact ret_bool (by simp), below_drewN hB _⟩
        · have hp : (2 : Nat) ^ 17 ≤ 2 ^ j := Nat.pow_le_pow_right (by omega) (by omega)
          have hp17 : (2 : Nat) ^ 17 = 131072 := by decide
          have hD := n2 (by omega)
          have hP := Xp.gd_same j k m (by omega) (by omega)
          clear n2 hp hp17
          generalize Xp.gd k (k + 1) j = D at *
          generalize Xp.gd k m j = P at *
          subst hD
          by_cases e : k = m
          · have hP0 := hP.2 e
            subst hP0
            subst e
            clear hP
            go_wp2_with fail
            go_ret
            exact ⟨by first | rfl | exact ret_bool rfl | exact ret_bool (by simp), below_drewN hB _⟩
          · have e1 : (((P : Nat) : Int) == 0) = false := by simp; intro h; exact e (hP.1 h)
            have e2 : (((k : Nat) : Int) == (m : Int)) = false := by rw [beq_eq_false_iff_ne]; omega
            clear hP e
            go_wp2_with fail
            go_ret
            exact ⟨by first | rfl | exact ret_bool rfl | exact ret_bool (by simp [e1, e2]), below_drewN hB _⟩
end Go.Proofs.Ytchobkabndnhoaa
