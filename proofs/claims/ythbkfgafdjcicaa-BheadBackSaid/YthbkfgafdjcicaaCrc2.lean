/- What the functions of package crc on words, and those of its reference, compute; two statements of the package. -/
import Derived.Test.YthbkfgafdjcicaaCrc1
import Derived.Test.YthbkfgafdjcicaaBytes1
import Derived.Test.YthbkfgafdjcicaaPSeal
namespace Go.Proofs.Ythbkfgafdjcicaa
open Go.RowKit
set_option linter.unusedVariables false
set_option maxHeartbeats 400000
theorem crcWords_any (A : Option Addr) (len cap : Nat) (xs : List Int) (B : Nat) (w : World) (hr : RowAt w B A len (xs.map (Value.int .u64))) (hi : Ints .u64 xs) (hl : len ≤ 1099511627776) (hB : B ≤ w.heap.size) :
    Calls Try.prog 74 #[.slice A len cap] w fun e w' => e = .returned (.int .u32 (Cr.more 0 (By.bytes xs))) ∧ Below w.heap.size w w' := by
  go_enter Try.func74, Try.ntmps74
  go_wp2_with fail
  refine (bytes_any A len cap xs B _ hr hi hl hB).mono ?_
  rintro e w1 ⟨v, rfl, hown, hb⟩
  obtain ⟨A', c', rfl, hc1, hc2, _⟩ := own_shape hown
  go_wp2_with fail
  refine (sum_any A' (8 * len) c' (By.bytes xs) _ _ (RowAt.of_own hown) (fun z hz => wf_u8 (By.bytes_bd xs z hz)) (by omega)).mono ?_
  rintro e w' ⟨rfl, rfl⟩
  go_wp2_with fail
  go_ret
  exact ⟨rfl, hb⟩
theorem rCrcWords_any (A : Option Addr) (len cap : Nat) (xs : List Int) (B : Nat) (w : World) (hr : RowAt w B A len (xs.map (Value.int .u64))) (hi : Ints .u64 xs) (hl : len ≤ 1099511627776) (hB : B ≤ w.heap.size) :
    Calls Try.prog 75 #[.slice A len cap] w fun e w' => e = .returned (.int .u32 (Cr.more 0 (By.bytes xs))) ∧ Below w.heap.size w w' := by
  go_enter Try.func75, Try.ntmps75
  go_wp2_with fail
  refine (rBytes_any A len cap xs B _ hr hi hl hB).mono ?_
  rintro e w1 ⟨v, rfl, hown, hb⟩
  obtain ⟨A', c', rfl, hc1, hc2, _⟩ := own_shape hown
  go_wp2_with fail
  refine (rMore_any 0 A' (8 * len) c' (By.bytes xs) _ _ (by omega) (by omega) (RowAt.of_own hown) (fun z hz => wf_u8 (By.bytes_bd xs z hz)) (by omega)).mono ?_
  rintro e w' ⟨rfl, rfl⟩
  go_wp2_with fail
  go_ret
  exact ⟨rfl, hb⟩
theorem two_row (w : World) (T : TypeId) (x y : Int) : RowAt (w.alloc (.cells #[.int .u64 x, .int .u64 y] T)) (w.heap.size + 1) (some ⟨w.heap.size, 0, none⟩) 2 ([x, y].map (Value.int .u64)) := by
  have h := RowAt.of_block (heap_alloc_new w (.cells #[.int .u64 x, .int .u64 y] T)) (by simp) (m := 2) rfl
  simpa using h
theorem seal_any (n p : Int) (w : World) (h1 : 0 ≤ n) (h2 : n ≤ 4294967295) (p1 : -9223372036854775808 ≤ p) (p2 : p ≤ 9223372036854775807) :
    Calls Try.prog 69 #[.int .u32 n, .int .i64 p] w fun e w' => e = .returned (.int .u64 (Sl.sealed n p)) ∧ Below w.heap.size w w' := by
  obtain ⟨q, hq⟩ : ∃ q, IntKind.u64.wrap p = q := ⟨_, rfl⟩
  have hqb : 0 ≤ q ∧ q ≤ 18446744073709551615 := by rw [← hq, IntKind.wrap_u64]; omega
  have HQ := Lib.hid hq
  have hcb := Sl.sum_bd n q
  have hfin := Lib.hid (Sl.seal_code n p q h1 h2 hq)
  go_enter Try.func69, Try.ntmps69
  go_wp2_with fail
  refine (crcWords_any _ 2 2 [n, q] _ _ (two_row w _ n q) (by intro z hz; simp at hz; rcases hz with rfl | rfl <;> exact wf_u64 (by omega)) (by omega) (by simp)).mono ?_
  rintro e w1 ⟨rfl, hb⟩
  go_wp2_with fail
  go_ret
  exact ⟨ret_int hfin.out, ((Below.refl _ _).alloc (Nat.le_refl _) _).trans (hb.mono (by simp))⟩
theorem rSeal_any (n p : Int) (w : World) (h1 : 0 ≤ n) (h2 : n ≤ 4294967295) (p1 : -9223372036854775808 ≤ p) (p2 : p ≤ 9223372036854775807) :
    Calls Try.prog 70 #[.int .u32 n, .int .i64 p] w fun e w' => e = .returned (.int .u64 (Sl.sealed n p)) ∧ Below w.heap.size w w' := by
  obtain ⟨q, hq⟩ : ∃ q, IntKind.u64.wrap p = q := ⟨_, rfl⟩
  have hqb : 0 ≤ q ∧ q ≤ 18446744073709551615 := by rw [← hq, IntKind.wrap_u64]; omega
  have HQ := Lib.hid hq
  have hcb := Sl.sum_bd n q
  have hfin := Lib.hid (Sl.seal_def n p q hq)
  go_enter Try.func70, Try.ntmps70
  go_wp2_with fail
  refine (rCrcWords_any _ 2 2 [n, q] _ _ (two_row w _ n q) (by intro z hz; simp at hz; rcases hz with rfl | rfl <;> exact wf_u64 (by omega)) (by omega) (by simp)).mono ?_
  rintro e w1 ⟨rfl, hb⟩
  go_wp2_with fail
  go_ret
  exact ⟨ret_int hfin.out, ((Below.refl _ _).alloc (Nat.le_refl _) _).trans (hb.mono (by simp))⟩
theorem open_any (x p : Int) (w : World) (h1 : 0 ≤ x) (h2 : x ≤ 18446744073709551615) (p1 : -9223372036854775808 ≤ p) (p2 : p ≤ 9223372036854775807) :
    Calls Try.prog 65 #[.int .u64 x, .int .i64 p] w fun e w' => e = .returned (.tuple #[.int .u32 (Sl.openN x p), .bool (Sl.openB x p)]) ∧ Below w.heap.size w w' := by
  cases hob : Sl.openB x p
  · have hon := Sl.openN_no x p hob
    have ho := Sl.openB_no x p hob
    rw [hon]
    clear hob hon
    go_enter Try.func65, Try.ntmps65
    go_wp2_with (first | (go_at_call 69; refine (seal_any _ _ _ (by omega) (by omega) (by omega) (by omega)).mono ?_; rintro e w1 ⟨rfl, hb⟩))
    go_ret2
    exact ⟨rfl, hb⟩
  · have hon := Sl.openN_yes x p hob
    have ho := Sl.openB_yes x p hob
    rw [hon]
    clear hob hon
    go_enter Try.func65, Try.ntmps65
    go_wp2_with (first | (go_at_call 69; refine (seal_any _ _ _ (by omega) (by omega) (by omega) (by omega)).mono ?_; rintro e w1 ⟨rfl, hb⟩))
    go_ret2
    exact ⟨rfl, hb⟩
theorem rOpen_any (x p : Int) (w : World) (h1 : 0 ≤ x) (h2 : x ≤ 18446744073709551615) (p1 : -9223372036854775808 ≤ p) (p2 : p ≤ 9223372036854775807) :
    Calls Try.prog 67 #[.int .u64 x, .int .i64 p] w fun e w' => e = .returned (.tuple #[.int .u32 (Sl.openN x p), .bool (Sl.openB x p)]) ∧ Below w.heap.size w w' := by
  cases hob : Sl.openB x p
  · have hon := Sl.openN_no x p hob
    have ho := Sl.openB_no2 x p hob
    rw [hon]
    clear hob hon
    go_enter Try.func67, Try.ntmps67
    go_wp2_with (first | (go_at_call 70; refine (rSeal_any _ _ _ (by omega) (by omega) (by omega) (by omega)).mono ?_; rintro e w1 ⟨rfl, hb⟩))
    go_ret2
    exact ⟨rfl, hb⟩
  · have hon := Sl.openN_yes x p hob
    have ho := Sl.openB_yes2 x p hob
    rw [hon]
    clear hob hon
    go_enter Try.func67, Try.ntmps67
    go_wp2_with (first | (go_at_call 70; refine (rSeal_any _ _ _ (by omega) (by omega) (by omega) (by omega)).mono ?_; rintro e w1 ⟨rfl, hb⟩))
    go_ret2
    exact ⟨rfl, hb⟩
end Go.Proofs.Ythbkfgafdjcicaa
