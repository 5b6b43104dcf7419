/- What the functions of package class that search, and those of its reference, compute: one contract each. -/
import Derived.Test.YthbkfgafdjcicaaClass1
namespace Go.Proofs.Ythbkfgafdjcicaa
open Go.RowKit
set_option linter.unusedVariables false
set_option maxHeartbeats 400000
set_option maxRecDepth 100000
theorem waste_any (k : Int) (w : World) (h1 : -9223372036854775808 ≤ k) (h2 : k ≤ 9223372036854775807) : Calls Try.prog 23 #[.int .i64 k] w fun e w' => e = .returned (.int .i64 (Cl.waste k)) ∧ Below w.heap.size w w' := by
  by_cases c : 0 ≤ k ∧ k < 32
  · obtain ⟨c1, c2⟩ := c
    have hr := Cl.rightB_yes k c1 c2
    have hb1 := Cl.words_bd k
    have hb2 := Cl.cells_bd k
    have hm := Cl.cells_mul k c1 c2
    have e := Lib.hid (Cl.waste_in k c1 c2)
    go_enter Try.func23, Try.ntmps23
    go_wp2_with fail
    refine (right_any _ _ (by omega) (by omega)).mono ?_
    rintro e w' ⟨rfl, rfl⟩
    go_wp2_with fail
    refine (cells_any _ _ (by omega) (by omega)).mono ?_
    rintro e w1 ⟨rfl, hb⟩
    go_wp2_with fail
    refine (words_any _ _ (by omega) (by omega)).mono ?_
    rintro e w2 ⟨rfl, hbb⟩
    go_wp2_with fail
    go_ret
    exact ⟨ret_int e.out.symm, hb.trans (hbb.mono hb.size)⟩
  · have e := Lib.hid (Cl.waste_out k (by omega))
    have hr := Cl.rightB_no k (by omega)
    go_enter Try.func23, Try.ntmps23
    go_wp2_with (first
      | (go_at_call 20; refine (right_any _ _ (by omega) (by omega)).mono ?_; rintro e w' ⟨rfl, rfl⟩))
    go_ret
    exact ⟨ret_int e.out.symm, Below.refl _ _⟩
theorem of_any (n : Int) (w : World) (h1 : -9223372036854775808 ≤ n) (h2 : n ≤ 9223372036854775807) : Calls Try.prog 24 #[.int .i64 n] w fun e w' => e = .returned (.tuple #[.int .i64 (Cl.ofK n), .bool (Cl.ofB n)]) ∧ Below w.heap.size w w' := by
  by_cases c1 : n < 1
  · have e := Lib.hid (Cl.ofK_out n (.inl c1))
    have e2 := Lib.hid (Cl.ofB_no n (.inl c1))
    go_enter Try.func24, Try.ntmps24
    go_wp2_with fail
    go_ret2
    exact ⟨ret_ib e.out.symm e2.out.symm, Below.refl _ _⟩
  · by_cases c2 : 256 < n
    · have e := Lib.hid (Cl.ofK_out n (.inr c2))
      have e2 := Lib.hid (Cl.ofB_no n (.inr c2))
      go_enter Try.func24, Try.ntmps24
      go_wp2_with fail
      refine (most_any _).mono ?_
      rintro e w1 ⟨rfl, hb⟩
      go_wp2_with fail
      go_ret2
      exact ⟨ret_ib e.out.symm e2.out.symm, hb⟩
    · have hle := Lib.hid (Cl.ofK_least n (by omega) (by omega))
      have e2 := Lib.hid (Cl.ofB_yes n (by omega) (by omega))
      have h31 := Cl.words31
      go_enter Try.func24, Try.ntmps24
      go_wp2_with fail
      refine (most_any _).mono ?_
      rintro e w1 ⟨rfl, hb⟩
      go_wp2_with fail
      go_loopw [4, 5, 6] (fun a b _c wr => ∃ lo hi : Int, 0 ≤ lo ∧ lo ≤ hi ∧ hi ≤ 31 ∧ a = .int .i64 lo ∧ b = .int .i64 hi ∧ Cl.BelowAll n lo ∧ n ≤ Cl.words hi ∧ Below w.heap.size w wr) (fun a b _ _ => (intOf b - intOf a).toNat)
      case atStart => exact ⟨0, 31, by omega, by omega, by omega, rfl, rfl, Cl.BelowAll.zero n, by omega, hb⟩
      case round =>
        obtain ⟨lo, hi, r1, r2, r3, rfl, rfl, hall, hhi, hbe⟩ := hrel
        have hsz := hbe.size
        by_cases hlt : lo < hi
        · obtain ⟨m, hm⟩ : ∃ m, (lo + hi) / 2 = m := ⟨_, rfl⟩
          have m1 : lo ≤ m := by omega
          have m2 : m < hi := by omega
          by_cases hw : n ≤ Cl.words m
          · go_wp2_with (first
              | (go_at_call 21; refine (words_any _ _ (by omega) (by omega)).mono ?_; rintro e w2 ⟨rfl, hb2⟩))
            go_roundw
            case rel => exact ⟨lo, m, by omega, by omega, by omega, rfl, rfl, hall, hw, hbe.trans (hb2.mono hsz)⟩
            case measure => simp [intOf]; omega
          · have hup := Cl.BelowAll.up (j := 0) (show Cl.words m < n by omega) (show m < 32 by omega)
            go_wp2_with (first
              | (go_at_call 21; refine (words_any _ _ (by omega) (by omega)).mono ?_; rintro e w2 ⟨rfl, hb2⟩))
            go_roundw
            case rel => exact ⟨m + 1, hi, by omega, by omega, by omega, rfl, rfl, hup, hhi, hbe.trans (hb2.mono hsz)⟩
            case measure => simp [intOf]; omega
        · obtain rfl : lo = hi := by omega
          have hq := Lib.hid (hle.out.unique (hall.least r1 (by omega) hhi))
          go_wp2_with fail
          go_ret2
          exact ⟨ret_ib hq.out.symm e2.out.symm, hbe⟩
theorem rOf_any (n : Int) (w : World) (h1 : -9223372036854775808 ≤ n) (h2 : n ≤ 9223372036854775807) : Calls Try.prog 25 #[.int .i64 n] w fun e w' => e = .returned (.int .i64 (Cl.ofR n)) ∧ Below w.heap.size w w' := by
  go_enter Try.func25, Try.ntmps25
  go_wp2_with fail
  go_loopw [3] (fun t wr => ∃ j : Int, 0 ≤ j ∧ j ≤ 32 ∧ t = .int .i64 j ∧ (0 < n → Cl.BelowAll n j) ∧ Below w.heap.size w wr) (fun t _ => (32 - intOf t).toNat)
  case atStart => exact ⟨0, by omega, by omega, rfl, fun _ => Cl.BelowAll.zero n, Below.refl _ _⟩
  case round =>
    obtain ⟨j, r1, r2, rfl, hall, hbe⟩ := hrel
    have hsz := hbe.size
    have hbd := Cl.words_bd j
    by_cases hn : 0 < n
    · have hal := Lib.hid (hall hn)
      clear hall
      by_cases hlt : j < 32
      · by_cases hw : n ≤ Cl.words j
        · have e := Lib.hid (Cl.ofR_at n j (hal.out.least r1 hlt hw) (by omega))
          go_wp2_with (first
            | (go_at_call 57; refine (rSizes_any _).mono ?_; rintro e w2 ⟨rfl, hb2, hs⟩; have hcw := hs j r1 hlt))
          go_ret
          exact ⟨ret_int e.out.symm, hbe.trans (hb2.mono hsz)⟩
        · have hsu := Lib.hid (hal.out.succ (show Cl.words j < n by omega))
          go_wp2_with (first
            | (go_at_call 57; refine (rSizes_any _).mono ?_; rintro e w2 ⟨rfl, hb2, hs⟩; have hcw := hs j r1 hlt))
          go_roundw
          case rel => exact ⟨j + 1, by omega, by omega, rfl, fun _ => hsu.out, hbe.trans (hb2.mono hsz)⟩
          case measure => simp [intOf]; omega
      · have e := Lib.hid (Cl.ofR_none n (fun i a b => hal.out i a (by omega)))
        go_wp2_with fail
        go_ret
        exact ⟨ret_int e.out.symm, hbe⟩
    · have e := Lib.hid (Cl.ofR_out n (.inl (by omega)))
      clear hall
      go_wp2_with fail
      all_goals
        go_ret
        exact ⟨ret_int e.out.symm, hbe⟩
theorem rCells_any (k : Int) (w : World) (h1 : -9223372036854775808 ≤ k) (h2 : k ≤ 9223372036854775807) : Calls Try.prog 18 #[.int .i64 k] w fun e w' => e = .returned (.int .i64 (Cl.cells k)) ∧ Below w.heap.size w w' := by
  have hcb := Cl.cells_bd k
  have hwb := Cl.words_bd k
  go_enter Try.func18, Try.ntmps18
  go_wp2_with fail
  go_loopw [3] (fun t wr => ∃ m : Int, 0 ≤ m ∧ m ≤ Cl.cells k ∧ t = .int .i64 m ∧ Below w.heap.size w wr) (fun t _ => (256 - intOf t).toNat)
  case atStart => exact ⟨0, by omega, by omega, rfl, Below.refl _ _⟩
  case round =>
    obtain ⟨m, r1, r2, rfl, hbe⟩ := hrel
    have hsz := hbe.size
    by_cases c : 0 ≤ k ∧ k < 32
    · obtain ⟨c1, c2⟩ := c
      have hp := Cl.words_pos k c1 c2
      have hm0 : 0 ≤ (m + 1) * Cl.words k := Int.mul_nonneg (by omega) (by omega)
      have hm1 : (m + 1) * Cl.words k ≤ 257 * 256 := Int.mul_le_mul (by omega) (by omega) (by omega) (by omega)
      by_cases hlt : m < Cl.cells k
      · have hm2 := (Cl.cells_more k m c1 c2 r1).2 hlt
        go_wp2_with fail
        refine (rWords_any _ _ (by omega) (by omega)).mono ?_
        rintro e w2 ⟨rfl, hb2⟩
        have hs2 := hb2.size
        go_wp2_with fail
        refine (rWords_any _ _ (by omega) (by omega)).mono ?_
        rintro e w3 ⟨rfl, hb3⟩
        go_wp2_with fail
        go_roundw
        case rel => exact ⟨m + 1, by omega, by omega, rfl, (hbe.trans (hb2.mono hsz)).trans (hb3.mono (by omega))⟩
        case measure => simp [intOf]; omega
      · have hm2 : ¬ (m + 1) * Cl.words k ≤ 512 := fun h => hlt ((Cl.cells_more k m c1 c2 r1).1 h)
        go_wp2_with fail
        refine (rWords_any _ _ (by omega) (by omega)).mono ?_
        rintro e w2 ⟨rfl, hb2⟩
        have hs2 := hb2.size
        go_wp2_with fail
        refine (rWords_any _ _ (by omega) (by omega)).mono ?_
        rintro e w3 ⟨rfl, hb3⟩
        go_wp2_with fail
        go_ret
        exact ⟨ret_int (by omega), (hbe.trans (hb2.mono hsz)).trans (hb3.mono (by omega))⟩
    · have e0 := Cl.words_out k (by omega)
      have e1 := Lib.hid (Cl.cells_out k (by omega))
      go_wp2_with fail
      refine (rWords_any _ _ (by omega) (by omega)).mono ?_
      rintro e w2 ⟨rfl, hb2⟩
      go_wp2_with fail
      go_ret
      exact ⟨ret_int (by have := e1.out; omega), hbe.trans (hb2.mono hsz)⟩
theorem size_any (p d : Int) (w : World) (h1 : -9223372036854775808 ≤ p) (h2 : p ≤ 9223372036854775807) (h3 : -9223372036854775808 ≤ d) (h4 : d ≤ 9223372036854775807) :
    Calls Try.prog 26 #[.int .i64 p, .int .i64 d] w fun e w' => e = .returned (.tuple #[.int .i64 (Cl.size p d), .int .i64 (Cl.szCode p d)]) ∧ w = w' := by
  by_cases c1 : p < 0
  · have e := Lib.hid (Cl.size_bad p d (.inl c1))
    go_enter Try.func26, Try.ntmps26
    go_wp2_with fail
    go_ret2
    exact ⟨ret_ii e.out.1.symm e.out.2.symm, rfl⟩
  · by_cases c2 : p > 63
    · have e := Lib.hid (Cl.size_bad p d (.inr (.inl c2)))
      go_enter Try.func26, Try.ntmps26
      go_wp2_with fail
      go_ret2
      exact ⟨ret_ii e.out.1.symm e.out.2.symm, rfl⟩
    · by_cases c3 : d < 0
      · have e := Lib.hid (Cl.size_bad p d (.inr (.inr (.inl c3))))
        go_enter Try.func26, Try.ntmps26
        go_wp2_with fail
        go_ret2
        exact ⟨ret_ii e.out.1.symm e.out.2.symm, rfl⟩
      · by_cases c4 : d > 16384
        · have e := Lib.hid (Cl.size_bad p d (.inr (.inr (.inr c4))))
          go_enter Try.func26, Try.ntmps26
          go_wp2_with fail
          go_ret2
          exact ⟨ret_ii e.out.1.symm e.out.2.symm, rfl⟩
        · have e := Lib.hid (Cl.size_good p d (by omega) (by omega) (by omega) (by omega))
          go_enter Try.func26, Try.ntmps26
          go_wp2_with fail
          go_ret2
          exact ⟨ret_ii e.out.1.symm e.out.2.symm, rfl⟩
theorem awake6_any (w : World) : Calls Try.prog 17 #[] w fun e w' => e = .returned (.bool true) ∧ Below w.heap.size w w' := by
  have e1 : Cl.ofK 9 = 7 := by decide
  have e2 : Cl.ofB 9 = true := by decide
  have e3 : Cl.cells 0 = 256 := by decide
  go_enter Try.func17, Try.ntmps17
  go_wp2_with fail
  refine (of_any 9 _ (by omega) (by omega)).mono ?_
  rintro e w1 ⟨rfl, hb1⟩
  go_wp2_with fail
  refine (cells_any 0 _ (by omega) (by omega)).mono ?_
  rintro e w2 ⟨rfl, hb2⟩
  go_wp2_with fail
  refine (most_any _).mono ?_
  rintro e w3 ⟨rfl, hb3⟩
  go_wp2_with fail
  go_ret
  have s1 := hb1.size
  have s2 := hb2.size
  exact ⟨rfl, (hb1.trans (hb2.mono s1)).trans (hb3.mono (by omega))⟩
end Go.Proofs.Ythbkfgafdjcicaa
