/- What the functions of package explore, and those of its reference, compute: spread numbers. -/
import Derived.Test.YtchobkabndnhoaaExp2
import Derived.Test.YtchobkabndnhoaaInts
namespace Go.Proofs.Ytchobkabndnhoaa
open Go.RowKit
set_option linter.unusedVariables false
set_option maxHeartbeats 400000
set_option maxRecDepth 100000
theorem rxSpread_any (v m : Int) (w : World) (v1 : -9223372036854775808 ≤ v) (v2 : v ≤ 1125899906842624) (m1 : -9223372036854775808 ≤ m) (m2 : m ≤ 9223372036854775807) :
    Calls Try.prog 35 #[.int .i64 v, .int .i64 m] w (OwnInts .i64 3 (Xp.spread v m) w) := by
  by_cases h : 1 ≤ v ∧ 1 ≤ m
  · obtain ⟨i0, hi0, hz0, hz1, hz2⟩ := info_parts info_int
    obtain ⟨hv, hm⟩ := h
    obtain ⟨n, hn, e⟩ := Xp.spread_in v m hv hm
    have e := Lib.hid e
    have n1 := Xp.many_bd v m hv hm
    rw [hn] at n1
    have hn2 := hn
    unfold Xp.many at hn2
    have hz : ∀ k : Nat, k < n → 0 ≤ (k : Int) * v ∧ (k : Int) * v ≤ 4611686018427387904 := fun k hk => ⟨Int.mul_nonneg (by omega) (by omega), by
      have : (k : Int) * v ≤ 4096 * 1125899906842624 := Int.mul_le_mul (by omega) v2 (by omega) (by omega)
      omega⟩
    have hz := Lib.hid hz
    clear hn
    rcases (show (v = n ∧ (n : Int) < m) ∨ (v = n ∧ m = n) ∨ ((n : Int) < v ∧ m = n) ∨ (4096 < v ∧ 4096 < m ∧ n = 4096) from by omega) with ⟨rfl, g⟩ | ⟨rfl, rfl⟩ | ⟨g, rfl⟩ | ⟨g1, g2, rfl⟩
    · clear hn2
      go_enter Try.func35, Try.ntmps35
      go_wp2_with fail
      go_loopw [6, 7] (fun v' t wr => ∃ k : Nat, k ≤ n ∧ t = .int .i64 k ∧ wr.ownsRow w.heap.size 3 1 v' k ((Xp.spr ((n : Nat) : Int) ((n : Nat) : Int) k).map (Value.int .i64)) ∧ Below w.heap.size w wr) (fun _ t _ => n - (intOf t).toNat)
      case atStart => exact ⟨0, by omega, rfl, World.ownsRow_nil _ _ _ _, Below.refl _ _⟩
      case round =>
        obtain ⟨k, hk, rfl, hown, hbe⟩ := hrel
        have hsz := hbe.size
        by_cases hlt : k < n
        · have hzk := hz.out k hlt
          go_wp2_with (first
            | (at_builtin; refine wpList_app1 (P := Try.prog) rfl (.tmp 22) (.tmp 28) 36 rfl w.heap.size 3 i0 (.int .i64 0) 8 Try.underlying36 hi0 hz0 hz1 hz2 rfl _ _ _ rfl hown _ _ rfl rfl (by unfold maxLen; omega) (by omega) hsz w.heap.size w hbe (Nat.le_refl _) ?_; intro v' w' hown' hbe' hlt' _))
          go_roundw
          case rel =>
            refine ⟨k + 1, by omega, by go_num, ?_, hbe'⟩
            rw [Xp.spr_succ, List.map_append]
            exact hown'
          case measure => simp [intOf]; omega
        · go_wp2
          go_ret
          obtain rfl : k = n := by omega
          exact OwnInts.mk _ rfl k (by rw [e.out]; exact Xp.spr_len _ _ _) (by rw [e.out]; exact hown) hbe
    · clear hn2
      go_enter Try.func35, Try.ntmps35
      go_wp2_with fail
      go_loopw [6, 7] (fun v' t wr => ∃ k : Nat, k ≤ n ∧ t = .int .i64 k ∧ wr.ownsRow w.heap.size 3 1 v' k ((Xp.spr ((n : Nat) : Int) ((n : Nat) : Int) k).map (Value.int .i64)) ∧ Below w.heap.size w wr) (fun _ t _ => n - (intOf t).toNat)
      case atStart => exact ⟨0, by omega, rfl, World.ownsRow_nil _ _ _ _, Below.refl _ _⟩
      case round =>
        obtain ⟨k, hk, rfl, hown, hbe⟩ := hrel
        have hsz := hbe.size
        by_cases hlt : k < n
        · have hzk := hz.out k hlt
          go_wp2_with (first
            | (at_builtin; refine wpList_app1 (P := Try.prog) rfl (.tmp 22) (.tmp 28) 36 rfl w.heap.size 3 i0 (.int .i64 0) 8 Try.underlying36 hi0 hz0 hz1 hz2 rfl _ _ _ rfl hown _ _ rfl rfl (by unfold maxLen; omega) (by omega) hsz w.heap.size w hbe (Nat.le_refl _) ?_; intro v' w' hown' hbe' hlt' _))
          go_roundw
          case rel =>
            refine ⟨k + 1, by omega, by go_num, ?_, hbe'⟩
            rw [Xp.spr_succ, List.map_append]
            exact hown'
          case measure => simp [intOf]; omega
        · go_wp2
          go_ret
          obtain rfl : k = n := by omega
          exact OwnInts.mk _ rfl k (by rw [e.out]; exact Xp.spr_len _ _ _) (by rw [e.out]; exact hown) hbe
    · clear hn2
      go_enter Try.func35, Try.ntmps35
      go_wp2_with fail
      go_loopw [6, 7] (fun v' t wr => ∃ k : Nat, k ≤ n ∧ t = .int .i64 k ∧ wr.ownsRow w.heap.size 3 1 v' k ((Xp.spr v ((n : Nat) : Int) k).map (Value.int .i64)) ∧ Below w.heap.size w wr) (fun _ t _ => n - (intOf t).toNat)
      case atStart => exact ⟨0, by omega, rfl, World.ownsRow_nil _ _ _ _, Below.refl _ _⟩
      case round =>
        obtain ⟨k, hk, rfl, hown, hbe⟩ := hrel
        have hsz := hbe.size
        by_cases hlt : k < n
        · have hzk := hz.out k hlt
          go_wp2_with (first
            | (at_builtin; refine wpList_app1 (P := Try.prog) rfl (.tmp 22) (.tmp 28) 36 rfl w.heap.size 3 i0 (.int .i64 0) 8 Try.underlying36 hi0 hz0 hz1 hz2 rfl _ _ _ rfl hown _ _ rfl rfl (by unfold maxLen; omega) (by omega) hsz w.heap.size w hbe (Nat.le_refl _) ?_; intro v' w' hown' hbe' hlt' _))
          go_roundw
          case rel =>
            refine ⟨k + 1, by omega, by go_num, ?_, hbe'⟩
            rw [Xp.spr_succ, List.map_append]
            exact hown'
          case measure => simp [intOf]; omega
        · go_wp2
          go_ret
          obtain rfl : k = n := by omega
          exact OwnInts.mk _ rfl k (by rw [e.out]; exact Xp.spr_len _ _ _) (by rw [e.out]; exact hown) hbe
    · clear hn2
      go_enter Try.func35, Try.ntmps35
      go_wp2_with fail
      go_loopw [6, 7] (fun v' t wr => ∃ k : Nat, k ≤ 4096 ∧ t = .int .i64 k ∧ wr.ownsRow w.heap.size 3 1 v' k ((Xp.spr v (4096 : Int) k).map (Value.int .i64)) ∧ Below w.heap.size w wr) (fun _ t _ => 4096 - (intOf t).toNat)
      case atStart => exact ⟨0, by omega, rfl, World.ownsRow_nil _ _ _ _, Below.refl _ _⟩
      case round =>
        obtain ⟨k, hk, rfl, hown, hbe⟩ := hrel
        have hsz := hbe.size
        by_cases hlt : k < 4096
        · have hzk := hz.out k hlt
          go_wp2_with (first
            | (at_builtin; refine wpList_app1 (P := Try.prog) rfl (.tmp 22) (.tmp 28) 36 rfl w.heap.size 3 i0 (.int .i64 0) 8 Try.underlying36 hi0 hz0 hz1 hz2 rfl _ _ _ rfl hown _ _ rfl rfl (by unfold maxLen; omega) (by omega) hsz w.heap.size w hbe (Nat.le_refl _) ?_; intro v' w' hown' hbe' hlt' _))
          go_roundw
          case rel =>
            refine ⟨k + 1, by omega, by go_num, ?_, hbe'⟩
            rw [Xp.spr_succ, List.map_append]
            exact hown'
          case measure => simp [intOf]; omega
        · go_wp2
          go_ret
          obtain rfl : k = 4096 := by omega
          exact OwnInts.mk _ rfl 4096 (by rw [e.out]; exact Xp.spr_len _ _ _) (by rw [e.out]; exact hown) hbe
  · have e := Lib.hid (Xp.spread_out v m h)
    rcases (show v < 1 ∨ (1 ≤ v ∧ m < 1) from by omega) with g | ⟨g1, g2⟩
    all_goals
      clear h
      go_enter Try.func35, Try.ntmps35
      go_wp2
      go_ret
      exact OwnInts.nil e.out (Below.refl _ _)
theorem xSpread_any (v m : Int) (w : World) (v1 : -9223372036854775808 ≤ v) (v2 : v ≤ 1125899906842624) (m1 : -9223372036854775808 ≤ m) (m2 : m ≤ 9223372036854775807) :
    Calls Try.prog 34 #[.int .i64 v, .int .i64 m] w (OwnInts .i64 3 (Xp.spread v m) w) := by
  by_cases h : 1 ≤ v ∧ 1 ≤ m
  · obtain ⟨i0, hi0, hz0, hz1, hz2⟩ := info_parts info_int
    obtain ⟨hv, hm⟩ := h
    obtain ⟨n, hn, e⟩ := Xp.spread_in v m hv hm
    have e := Lib.hid e
    have n1 := Xp.many_bd v m hv hm
    rw [hn] at n1
    have hn2 := hn
    unfold Xp.many at hn2
    have hz : ∀ k : Nat, k < n → 0 ≤ (k : Int) * v ∧ (k : Int) * v ≤ 4611686018427387904 := fun k hk => ⟨Int.mul_nonneg (by omega) (by omega), by
      have : (k : Int) * v ≤ 4096 * 1125899906842624 := Int.mul_le_mul (by omega) v2 (by omega) (by omega)
      omega⟩
    have hz := Lib.hid hz
    clear hn
    rcases (show (v = n ∧ (n : Int) < m) ∨ (v = n ∧ m = n) ∨ ((n : Int) < v ∧ m = n) ∨ (4096 < v ∧ 4096 < m ∧ n = 4096) from by omega) with ⟨rfl, g⟩ | ⟨rfl, rfl⟩ | ⟨g, rfl⟩ | ⟨g1, g2, rfl⟩
    · clear hn2
      go_enter Try.func34, Try.ntmps34
      have q1 : 0 ≤ ((n : Nat) : Int) / ((n : Nat) : Int) ∧ ((n : Nat) : Int) / ((n : Nat) : Int) ≤ ((n : Nat) : Int) := ⟨Int.ediv_nonneg (by omega) (by omega), Int.ediv_le_self _ (by omega)⟩
      have q2 : 0 ≤ ((n : Nat) : Int) % ((n : Nat) : Int) ∧ ((n : Nat) : Int) % ((n : Nat) : Int) < ((n : Nat) : Int) := ⟨Int.emod_nonneg _ (by omega), Int.emod_lt_of_pos _ (by omega)⟩
      go_wp2_with fail
      go_quiet (fail)
      go_wp2_with fail
      go_loopw [5, 8, 9, 26] (fun v' at' ov t wr => ∃ k : Nat, k ≤ n ∧ t = .int .i64 k ∧ at' = .int .i64 (Xp.sat ((n : Nat) : Int) ((n : Nat) : Int) k) ∧ ov = .int .i64 (Xp.over ((n : Nat) : Int) ((n : Nat) : Int) k) ∧ wr.ownsRow w.heap.size 3 1 v' k ((Xp.spr ((n : Nat) : Int) ((n : Nat) : Int) k).map (Value.int .i64)) ∧ Below w.heap.size w wr) (fun _ _ _ t _ => n - (intOf t).toNat)
      case atStart => exact ⟨0, by omega, rfl, by rw [Xp.sat_zero], by rw [Xp.over_zero], World.ownsRow_nil _ _ _ _, below_drewN (Below.refl _ _) _⟩
      case round =>
        obtain ⟨k, hk, rfl, rfl, rfl, hown, hbe⟩ := hrel
        have hsz := hbe.size
        have s1 := Xp.over_bd ((n : Nat) : Int) ((n : Nat) : Int) (by omega) k
        have s2 := Xp.sat_bd ((n : Nat) : Int) ((n : Nat) : Int) (by omega) (by omega) k (by omega)
        by_cases hlt : k < n
        · have s3 := Xp.sat_bd ((n : Nat) : Int) ((n : Nat) : Int) (by omega) (by omega) (k + 1) (by omega)
          by_cases hc : ((n : Nat) : Int) ≤ Xp.over ((n : Nat) : Int) ((n : Nat) : Int) k + ((n : Nat) : Int) % ((n : Nat) : Int)
          · exfalso
            have := Int.emod_self (a := ((n : Nat) : Int))
            omega
          · obtain ⟨c1, c2⟩ := Xp.sat_plain ((n : Nat) : Int) ((n : Nat) : Int) (by omega) k (by omega) (by omega)
            rw [c1] at s3
            have C1 := Lib.hid c1
            have C2 := Lib.hid c2
            clear c1 c2
            go_wp2_with (first
              | (at_builtin; refine wpList_app1 (P := Try.prog) rfl (.tmp 28) (.tmp 30) 36 rfl w.heap.size 3 i0 (.int .i64 0) 8 Try.underlying36 hi0 hz0 hz1 hz2 rfl _ _ _ rfl hown _ _ rfl rfl (by unfold maxLen; omega) (by omega) hsz w.heap.size w hbe (Nat.le_refl _) ?_; intro v' w' hown' hbe' hlt' _))
            go_roundw
            case rel =>
              refine ⟨k + 1, by omega, by go_num, by rw [C1.out], by rw [C2.out, Int.emod_self, Int.add_zero], ?_, hbe'⟩
              rw [Xp.spr_succ, List.map_append]
              exact hown'
            case measure => simp [intOf]; omega
        · go_wp2
          go_ret
          obtain rfl : k = n := by omega
          exact OwnInts.mk _ rfl k (by rw [e.out]; exact Xp.spr_len _ _ _) (by rw [e.out]; exact hown) hbe
    · clear hn2
      go_enter Try.func34, Try.ntmps34
      have q1 : 0 ≤ ((n : Nat) : Int) / ((n : Nat) : Int) ∧ ((n : Nat) : Int) / ((n : Nat) : Int) ≤ ((n : Nat) : Int) := ⟨Int.ediv_nonneg (by omega) (by omega), Int.ediv_le_self _ (by omega)⟩
      have q2 : 0 ≤ ((n : Nat) : Int) % ((n : Nat) : Int) ∧ ((n : Nat) : Int) % ((n : Nat) : Int) < ((n : Nat) : Int) := ⟨Int.emod_nonneg _ (by omega), Int.emod_lt_of_pos _ (by omega)⟩
      go_wp2_with fail
      go_quiet (fail)
      go_wp2_with fail
      go_loopw [5, 8, 9, 26] (fun v' at' ov t wr => ∃ k : Nat, k ≤ n ∧ t = .int .i64 k ∧ at' = .int .i64 (Xp.sat ((n : Nat) : Int) ((n : Nat) : Int) k) ∧ ov = .int .i64 (Xp.over ((n : Nat) : Int) ((n : Nat) : Int) k) ∧ wr.ownsRow w.heap.size 3 1 v' k ((Xp.spr ((n : Nat) : Int) ((n : Nat) : Int) k).map (Value.int .i64)) ∧ Below w.heap.size w wr) (fun _ _ _ t _ => n - (intOf t).toNat)
      case atStart => exact ⟨0, by omega, rfl, by rw [Xp.sat_zero], by rw [Xp.over_zero], World.ownsRow_nil _ _ _ _, below_drewN (Below.refl _ _) _⟩
      case round =>
        obtain ⟨k, hk, rfl, rfl, rfl, hown, hbe⟩ := hrel
        have hsz := hbe.size
        have s1 := Xp.over_bd ((n : Nat) : Int) ((n : Nat) : Int) (by omega) k
        have s2 := Xp.sat_bd ((n : Nat) : Int) ((n : Nat) : Int) (by omega) (by omega) k (by omega)
        by_cases hlt : k < n
        · have s3 := Xp.sat_bd ((n : Nat) : Int) ((n : Nat) : Int) (by omega) (by omega) (k + 1) (by omega)
          by_cases hc : ((n : Nat) : Int) ≤ Xp.over ((n : Nat) : Int) ((n : Nat) : Int) k + ((n : Nat) : Int) % ((n : Nat) : Int)
          · exfalso
            have := Int.emod_self (a := ((n : Nat) : Int))
            omega
          · obtain ⟨c1, c2⟩ := Xp.sat_plain ((n : Nat) : Int) ((n : Nat) : Int) (by omega) k (by omega) (by omega)
            rw [c1] at s3
            have C1 := Lib.hid c1
            have C2 := Lib.hid c2
            clear c1 c2
            go_wp2_with (first
              | (at_builtin; refine wpList_app1 (P := Try.prog) rfl (.tmp 28) (.tmp 30) 36 rfl w.heap.size 3 i0 (.int .i64 0) 8 Try.underlying36 hi0 hz0 hz1 hz2 rfl _ _ _ rfl hown _ _ rfl rfl (by unfold maxLen; omega) (by omega) hsz w.heap.size w hbe (Nat.le_refl _) ?_; intro v' w' hown' hbe' hlt' _))
            go_roundw
            case rel =>
              refine ⟨k + 1, by omega, by go_num, by rw [C1.out], by rw [C2.out, Int.emod_self, Int.add_zero], ?_, hbe'⟩
              rw [Xp.spr_succ, List.map_append]
              exact hown'
            case measure => simp [intOf]; omega
        · go_wp2
          go_ret
          obtain rfl : k = n := by omega
          exact OwnInts.mk _ rfl k (by rw [e.out]; exact Xp.spr_len _ _ _) (by rw [e.out]; exact hown) hbe
    · clear hn2
      go_enter Try.func34, Try.ntmps34
      have q1 : 0 ≤ v / ((n : Nat) : Int) ∧ v / ((n : Nat) : Int) ≤ v := ⟨Int.ediv_nonneg (by omega) (by omega), Int.ediv_le_self _ (by omega)⟩
      have q2 : 0 ≤ v % ((n : Nat) : Int) ∧ v % ((n : Nat) : Int) < ((n : Nat) : Int) := ⟨Int.emod_nonneg _ (by omega), Int.emod_lt_of_pos _ (by omega)⟩
      go_wp2_with fail
      go_quiet (fail)
      go_wp2_with fail
      go_loopw [5, 8, 9, 26] (fun v' at' ov t wr => ∃ k : Nat, k ≤ n ∧ t = .int .i64 k ∧ at' = .int .i64 (Xp.sat v ((n : Nat) : Int) k) ∧ ov = .int .i64 (Xp.over v ((n : Nat) : Int) k) ∧ wr.ownsRow w.heap.size 3 1 v' k ((Xp.spr v ((n : Nat) : Int) k).map (Value.int .i64)) ∧ Below w.heap.size w wr) (fun _ _ _ t _ => n - (intOf t).toNat)
      case atStart => exact ⟨0, by omega, rfl, by rw [Xp.sat_zero], by rw [Xp.over_zero], World.ownsRow_nil _ _ _ _, below_drewN (Below.refl _ _) _⟩
      case round =>
        obtain ⟨k, hk, rfl, rfl, rfl, hown, hbe⟩ := hrel
        have hsz := hbe.size
        have s1 := Xp.over_bd v ((n : Nat) : Int) (by omega) k
        have s2 := Xp.sat_bd v ((n : Nat) : Int) (by omega) (by omega) k (by omega)
        by_cases hlt : k < n
        · have s3 := Xp.sat_bd v ((n : Nat) : Int) (by omega) (by omega) (k + 1) (by omega)
          by_cases hc : ((n : Nat) : Int) ≤ Xp.over v ((n : Nat) : Int) k + v % ((n : Nat) : Int)
          · obtain ⟨c1, c2⟩ := Xp.sat_carry v ((n : Nat) : Int) (by omega) k hc
            rw [c1] at s3
            have C1 := Lib.hid c1
            have C2 := Lib.hid c2
            clear c1 c2
            go_wp2_with (first
              | (at_builtin; refine wpList_app1 (P := Try.prog) rfl (.tmp 28) (.tmp 30) 36 rfl w.heap.size 3 i0 (.int .i64 0) 8 Try.underlying36 hi0 hz0 hz1 hz2 rfl _ _ _ rfl hown _ _ rfl rfl (by unfold maxLen; omega) (by omega) hsz w.heap.size w hbe (Nat.le_refl _) ?_; intro v' w' hown' hbe' hlt' _))
            go_roundw
            case rel =>
              refine ⟨k + 1, by omega, by go_num, by rw [C1.out], by rw [C2.out], ?_, hbe'⟩
              rw [Xp.spr_succ, List.map_append]
              exact hown'
            case measure => simp [intOf]; omega
          · obtain ⟨c1, c2⟩ := Xp.sat_plain v ((n : Nat) : Int) (by omega) k (by omega) (by omega)
            rw [c1] at s3
            have C1 := Lib.hid c1
            have C2 := Lib.hid c2
            clear c1 c2
            go_wp2_with (first
              | (at_builtin; refine wpList_app1 (P := Try.prog) rfl (.tmp 28) (.tmp 30) 36 rfl w.heap.size 3 i0 (.int .i64 0) 8 Try.underlying36 hi0 hz0 hz1 hz2 rfl _ _ _ rfl hown _ _ rfl rfl (by unfold maxLen; omega) (by omega) hsz w.heap.size w hbe (Nat.le_refl _) ?_; intro v' w' hown' hbe' hlt' _))
            go_roundw
            case rel =>
              refine ⟨k + 1, by omega, by go_num, by rw [C1.out], by rw [C2.out], ?_, hbe'⟩
              rw [Xp.spr_succ, List.map_append]
              exact hown'
            case measure => simp [intOf]; omega
        · go_wp2
          go_ret
          obtain rfl : k = n := by omega
          exact OwnInts.mk _ rfl k (by rw [e.out]; exact Xp.spr_len _ _ _) (by rw [e.out]; exact hown) hbe
    · clear hn2
      go_enter Try.func34, Try.ntmps34
      have q1 : 0 ≤ v / (4096 : Int) ∧ v / (4096 : Int) ≤ v := ⟨Int.ediv_nonneg (by omega) (by omega), Int.ediv_le_self _ (by omega)⟩
      have q2 : 0 ≤ v % (4096 : Int) ∧ v % (4096 : Int) < (4096 : Int) := ⟨Int.emod_nonneg _ (by omega), Int.emod_lt_of_pos _ (by omega)⟩
      go_wp2_with fail
      go_quiet (fail)
      go_wp2_with fail
      go_loopw [5, 8, 9, 26] (fun v' at' ov t wr => ∃ k : Nat, k ≤ 4096 ∧ t = .int .i64 k ∧ at' = .int .i64 (Xp.sat v (4096 : Int) k) ∧ ov = .int .i64 (Xp.over v (4096 : Int) k) ∧ wr.ownsRow w.heap.size 3 1 v' k ((Xp.spr v (4096 : Int) k).map (Value.int .i64)) ∧ Below w.heap.size w wr) (fun _ _ _ t _ => 4096 - (intOf t).toNat)
      case atStart => exact ⟨0, by omega, rfl, by rw [Xp.sat_zero], by rw [Xp.over_zero], World.ownsRow_nil _ _ _ _, below_drewN (Below.refl _ _) _⟩
      case round =>
        obtain ⟨k, hk, rfl, rfl, rfl, hown, hbe⟩ := hrel
        have hsz := hbe.size
        have s1 := Xp.over_bd v (4096 : Int) (by omega) k
        have s2 := Xp.sat_bd v (4096 : Int) (by omega) (by omega) k (by omega)
        by_cases hlt : k < 4096
        · have s3 := Xp.sat_bd v (4096 : Int) (by omega) (by omega) (k + 1) (by omega)
          by_cases hc : (4096 : Int) ≤ Xp.over v (4096 : Int) k + v % (4096 : Int)
          · obtain ⟨c1, c2⟩ := Xp.sat_carry v (4096 : Int) (by omega) k hc
            rw [c1] at s3
            have C1 := Lib.hid c1
            have C2 := Lib.hid c2
            clear c1 c2
            go_wp2_with (first
              | (at_builtin; refine wpList_app1 (P := Try.prog) rfl (.tmp 28) (.tmp 30) 36 rfl w.heap.size 3 i0 (.int .i64 0) 8 Try.underlying36 hi0 hz0 hz1 hz2 rfl _ _ _ rfl hown _ _ rfl rfl (by unfold maxLen; omega) (by omega) hsz w.heap.size w hbe (Nat.le_refl _) ?_; intro v' w' hown' hbe' hlt' _))
            go_roundw
            case rel =>
              refine ⟨k + 1, by omega, by go_num, by rw [C1.out], by rw [C2.out], ?_, hbe'⟩
              rw [Xp.spr_succ, List.map_append]
              exact hown'
            case measure => simp [intOf]; omega
          · obtain ⟨c1, c2⟩ := Xp.sat_plain v (4096 : Int) (by omega) k (by omega) (by omega)
            rw [c1] at s3
            have C1 := Lib.hid c1
            have C2 := Lib.hid c2
            clear c1 c2
            go_wp2_with (first
              | (at_builtin; refine wpList_app1 (P := Try.prog) rfl (.tmp 28) (.tmp 30) 36 rfl w.heap.size 3 i0 (.int .i64 0) 8 Try.underlying36 hi0 hz0 hz1 hz2 rfl _ _ _ rfl hown _ _ rfl rfl (by unfold maxLen; omega) (by omega) hsz w.heap.size w hbe (Nat.le_refl _) ?_; intro v' w' hown' hbe' hlt' _))
            go_roundw
            case rel =>
              refine ⟨k + 1, by omega, by go_num, by rw [C1.out], by rw [C2.out], ?_, hbe'⟩
              rw [Xp.spr_succ, List.map_append]
              exact hown'
            case measure => simp [intOf]; omega
        · go_wp2
          go_ret
          obtain rfl : k = 4096 := by omega
          exact OwnInts.mk _ rfl 4096 (by rw [e.out]; exact Xp.spr_len _ _ _) (by rw [e.out]; exact hown) hbe
  · have e := Lib.hid (Xp.spread_out v m h)
    rcases (show v < 1 ∨ (1 ≤ v ∧ m < 1) from by omega) with g | ⟨g1, g2⟩
    all_goals
      clear h
      go_enter Try.func34, Try.ntmps34
      go_wp2
      go_ret
      exact OwnInts.nil e.out (Below.refl _ _)
end Go.Proofs.Ytchobkabndnhoaa
