/- What the functions of package explore, and those of its reference, compute: ways and choices. -/
import Derived.Test.YtchobkabndnhoaaMem
import Derived.Test.YtchobkabndnhoaaPExp
namespace Go.Proofs.Ytchobkabndnhoaa
open Go.RowKit
set_option linter.unusedVariables false
set_option maxHeartbeats 400000
set_option maxRecDepth 100000
theorem xWays_any (l c : Int) (w : World) (l1 : -9223372036854775808 ≤ l) (l2 : l ≤ 9223372036854775807) (c1 : -9223372036854775808 ≤ c) (c2 : c ≤ 9223372036854775807) :
    Calls Try.prog 29 #[.int .i64 l, .int .i64 c] w fun e w' => e = .returned (.int .i64 (Xp.ways l c)) ∧ w = w' := by
  by_cases a : l < 0
  · have e := Lib.hid (Xp.ways_out l c (.inl a))
    go_enter Try.func29, Try.ntmps29
    go_wp2
    go_ret
    exact ⟨ret_int e.out.symm, rfl⟩
  by_cases b : c < 1
  · have e := Lib.hid (Xp.ways_out l c (.inr b))
    go_enter Try.func29, Try.ntmps29
    go_wp2
    go_ret
    exact ⟨ret_int e.out.symm, rfl⟩
  have e := Lib.hid (Xp.ways_in l c (by omega) (by omega))
  go_enter Try.func29, Try.ntmps29
  go_wp2
  go_loop [5, 6] (fun n t => ∃ k : Nat, k ≤ l.toNat ∧ t = .int .i64 k ∧ n = .int .i64 (Xp.wy c k)) (fun _ t => l.toNat - (intOf t).toNat)
  case atStart => exact ⟨0, by omega, rfl, rfl⟩
  case round =>
    obtain ⟨k, hk, rfl, rfl⟩ := hrel
    have hb := Xp.wy_bd c (by omega) k
    by_cases hlt : (k : Int) < l
    · by_cases h2 : 1 < c
      · by_cases h3 : 1099511627776 / c < Xp.wy c k
        · have ho := Xp.wy_out c k h3
          have ht := Lib.hid (Xp.wy_top c (by omega) (k + 1) l.toNat ho (by omega))
          clear ho
          go_wp2
          go_ret
          exact ⟨ret_int (by rw [e.out, ht.out]), rfl⟩
        · have hi := Xp.wy_in c k h3
          have hb2 := Xp.wy_bd c (by omega) (k + 1)
          rw [hi] at hb2
          have hi := Lib.hid hi
          go_wp2
          go_round
          case rel => exact ⟨k + 1, by omega, by go_num, by rw [hi.out]⟩
          case measure => simp [intOf]; omega
      · obtain rfl : c = 1 := by omega
        have h1 := Lib.hid (Xp.wy_one k)
        have h1' := Lib.hid (Xp.wy_one l.toNat)
        go_wp2
        go_ret
        exact ⟨ret_int (by rw [e.out, h1.out, h1'.out]), rfl⟩
    · go_wp2
      go_ret
      exact ⟨ret_int (by rw [e.out, show l.toNat = k from by omega]), rfl⟩
theorem rxWays_any (l c : Int) (w : World) (l1 : -9223372036854775808 ≤ l) (l2 : l ≤ 9223372036854775807) (c1 : -9223372036854775808 ≤ c) (c2 : c ≤ 9223372036854775807) :
    Calls Try.prog 30 #[.int .i64 l, .int .i64 c] w fun e w' => e = .returned (.int .i64 (Xp.ways l c)) ∧ w = w' := by
  by_cases a : l < 0
  · have e := Lib.hid (Xp.ways_out l c (.inl a))
    go_enter Try.func30, Try.ntmps30
    go_wp2
    go_ret
    exact ⟨ret_int e.out.symm, rfl⟩
  by_cases b : c < 1
  · have e := Lib.hid (Xp.ways_out l c (.inr b))
    go_enter Try.func30, Try.ntmps30
    go_wp2
    go_ret
    exact ⟨ret_int e.out.symm, rfl⟩
  have e := Lib.hid (Xp.ways_in l c (by omega) (by omega))
  go_enter Try.func30, Try.ntmps30
  go_wp2
  go_loop [5, 6] (fun n t => ∃ k : Nat, k ≤ l.toNat ∧ k ≤ 41 ∧ t = .int .i64 k ∧ n = .int .i64 (Xp.wy c k)) (fun _ t => 41 - (intOf t).toNat)
  case atStart => exact ⟨0, by omega, by omega, rfl, rfl⟩
  case round =>
    obtain ⟨k, hk, hk2, rfl, rfl⟩ := hrel
    have hb := Xp.wy_bd c (by omega) k
    by_cases hlt : (k : Int) < l ∧ k < 41
    · obtain ⟨hlt, h4⟩ := hlt
      by_cases h3 : 1099511627776 / c < Xp.wy c k
      · have ho := Xp.wy_out c k h3
        have hc : 2 ≤ c := by
          rcases (show c = 1 ∨ 2 ≤ c from by omega) with rfl | h
          · rw [Xp.wy_one] at h3; omega
          · exact h
        have ht := Lib.hid (Xp.wy_top c (by omega) (k + 1) l.toNat ho (by omega))
        clear ho
        go_wp2
        all_goals
          go_ret
          exact ⟨ret_int (by rw [e.out, ht.out]), rfl⟩
      · have hi := Xp.wy_in c k h3
        have hb2 := Xp.wy_bd c (by omega) (k + 1)
        rw [hi] at hb2
        have hi := Lib.hid hi
        go_wp2
        all_goals
          go_round
          case rel => exact ⟨k + 1, by omega, by omega, by go_num, by rw [hi.out]⟩
          case measure => simp [intOf]; omega
    · have hx : Xp.wy c l.toNat = Xp.wy c k := by
        by_cases h4 : k = 41
        · rw [h4, Xp.wy_41 c (by omega) l.toNat (by omega)]
        · rw [show l.toNat = k from by omega]
      have hx := Lib.hid hx
      have hlt' : l ≤ k ∨ k = 41 := by omega
      clear hlt
      go_wp2
      all_goals
        go_ret
        exact ⟨ret_int (by rw [e.out, hx.out]), rfl⟩
end Go.Proofs.Ytchobkabndnhoaa
