/- Words of blocks' headers: one contract a function. -/
import Derived.Test.YthbkfgafdjcicaaBhead1
namespace Go.Proofs.Ythbkfgafdjcicaa
open Go.RowKit
set_option linter.unusedVariables false
set_option maxHeartbeats 1000000
set_option maxRecDepth 100000
def Bh.atB (b : Int) : Int := IntKind.i64.wrap (256 + b)
theorem Bh.atB_out (b : Int) : IntKind.i64.wrap (256 + b) = Bh.atB b := rfl
theorem Bh.atB_bd (b : Int) : -9223372036854775808 ≤ Bh.atB b ∧ Bh.atB b ≤ 9223372036854775807 := by
  unfold Bh.atB; rw [IntKind.wrap_i64]; omega
theorem rBRight_any (k c l : Int) (w : World) (h1 : -9223372036854775808 ≤ k) (h2 : k ≤ 9223372036854775807) (h3 : -9223372036854775808 ≤ c) (h4 : c ≤ 9223372036854775807) (h5 : -9223372036854775808 ≤ l) (h6 : l ≤ 9223372036854775807) :
    Calls Try.prog 52 #[.agg #[.int .i64 k, .int .i64 c, .int .i64 l]] w fun e w' => e = .returned (.bool (Bh.right k c l)) ∧ Below w.heap.size w w' := by
  have hK := box3 w (.int .i64 k) (.int .i64 c) (.int .i64 l) 76
  rcases (show k = 0 ∨ k = 1 ∨ k = 2 ∨ k = 3 ∨ (k ≠ 0 ∧ k ≠ 1 ∧ k ≠ 2 ∧ k ≠ 3) from by omega) with rfl | rfl | rfl | rfl | ⟨k0, k1, k2, k3⟩
  · rcases (show (c = 0 ∧ l = 0) ∨ c ≠ 0 ∨ (c = 0 ∧ l ≠ 0) from by omega) with ⟨rfl, rfl⟩ | hc | ⟨rfl, hl⟩
    · have z := Bh.right_yes 0 0 0 (by omega)
      go_enter Try.func52, Try.ntmps52
      go_wp2_with fail
      go_ret
      exact ⟨ret_bool (by first | exact (Bh.right_yes _ _ _ (by omega)).symm | exact (Bh.right_no _ _ _ (by omega)).symm | (rw [Bh.right_yes _ _ _ (by omega)]; simp; omega) | (rw [Bh.right_no _ _ _ (by omega)]; simp; omega)), by (repeat (first | exact Below.refl _ _ | (refine Below.alloc ?_ (by first | exact Nat.le_refl _ | (simp; done) | (simp; omega)) _)))⟩
    · have z := (show (c == 0) = false from by simpa using hc)
      go_enter Try.func52, Try.ntmps52
      go_wp2_with fail
      go_ret
      exact ⟨ret_bool (by first | exact (Bh.right_yes _ _ _ (by omega)).symm | exact (Bh.right_no _ _ _ (by omega)).symm | (rw [Bh.right_yes _ _ _ (by omega)]; simp; omega) | (rw [Bh.right_no _ _ _ (by omega)]; simp; omega)), by (repeat (first | exact Below.refl _ _ | (refine Below.alloc ?_ (by first | exact Nat.le_refl _ | (simp; done) | (simp; omega)) _)))⟩
    · have z := (show (l == 0) = false from by simpa using hl)
      go_enter Try.func52, Try.ntmps52
      go_wp2_with fail
      go_ret
      exact ⟨ret_bool (by first | exact (Bh.right_yes _ _ _ (by omega)).symm | exact (Bh.right_no _ _ _ (by omega)).symm | (rw [Bh.right_yes _ _ _ (by omega)]; simp; omega) | (rw [Bh.right_no _ _ _ (by omega)]; simp; omega)), by (repeat (first | exact Below.refl _ _ | (refine Below.alloc ?_ (by first | exact Nat.le_refl _ | (simp; done) | (simp; omega)) _)))⟩
  · rcases (show c < 0 ∨ (0 ≤ c ∧ 32 ≤ c) ∨ (0 ≤ c ∧ c < 32 ∧ l = 0) ∨ (0 ≤ c ∧ c < 32 ∧ l ≠ 0) from by omega) with hc | ⟨c1, hc⟩ | ⟨c1, c2, rfl⟩ | ⟨c1, c2, hl⟩
    · have z := (show decide (0 ≤ c) = false from by simp; omega)
      go_enter Try.func52, Try.ntmps52
      go_wp2_with fail
      go_ret
      exact ⟨ret_bool (by first | exact (Bh.right_yes _ _ _ (by omega)).symm | exact (Bh.right_no _ _ _ (by omega)).symm | (rw [Bh.right_yes _ _ _ (by omega)]; simp; omega) | (rw [Bh.right_no _ _ _ (by omega)]; simp; omega)), by (repeat (first | exact Below.refl _ _ | (refine Below.alloc ?_ (by first | exact Nat.le_refl _ | (simp; done) | (simp; omega)) _)))⟩
    · have z := (show decide (c < 32) = false from by simp; omega)
      go_enter Try.func52, Try.ntmps52
      go_wp2_with fail
      go_ret
      exact ⟨ret_bool (by first | exact (Bh.right_yes _ _ _ (by omega)).symm | exact (Bh.right_no _ _ _ (by omega)).symm | (rw [Bh.right_yes _ _ _ (by omega)]; simp; omega) | (rw [Bh.right_no _ _ _ (by omega)]; simp; omega)), by (repeat (first | exact Below.refl _ _ | (refine Below.alloc ?_ (by first | exact Nat.le_refl _ | (simp; done) | (simp; omega)) _)))⟩
    · have z := c1
      go_enter Try.func52, Try.ntmps52
      go_wp2_with fail
      go_ret
      exact ⟨ret_bool (by first | exact (Bh.right_yes _ _ _ (by omega)).symm | exact (Bh.right_no _ _ _ (by omega)).symm | (rw [Bh.right_yes _ _ _ (by omega)]; simp; omega) | (rw [Bh.right_no _ _ _ (by omega)]; simp; omega)), by (repeat (first | exact Below.refl _ _ | (refine Below.alloc ?_ (by first | exact Nat.le_refl _ | (simp; done) | (simp; omega)) _)))⟩
    · have z2 := (show (l == 0) = false from by simpa using hl)
      go_enter Try.func52, Try.ntmps52
      go_wp2_with fail
      go_ret
      exact ⟨ret_bool (by first | exact (Bh.right_yes _ _ _ (by omega)).symm | exact (Bh.right_no _ _ _ (by omega)).symm | (rw [Bh.right_yes _ _ _ (by omega)]; simp; omega) | (rw [Bh.right_no _ _ _ (by omega)]; simp; omega)), by (repeat (first | exact Below.refl _ _ | (refine Below.alloc ?_ (by first | exact Nat.le_refl _ | (simp; done) | (simp; omega)) _)))⟩
  · rcases (show c ≠ 0 ∨ (c = 0 ∧ l < 1) ∨ (c = 0 ∧ 1 ≤ l ∧ l ≤ 255) ∨ (c = 0 ∧ 1 ≤ l ∧ 255 < l) from by omega) with hc | ⟨rfl, hl⟩ | ⟨rfl, l1, l2⟩ | ⟨rfl, l1, l2⟩
    · have z := (show (c == 0) = false from by simpa using hc)
      go_enter Try.func52, Try.ntmps52
      go_wp2_with fail
      go_ret
      exact ⟨ret_bool (by first | exact (Bh.right_yes _ _ _ (by omega)).symm | exact (Bh.right_no _ _ _ (by omega)).symm | (rw [Bh.right_yes _ _ _ (by omega)]; simp; omega) | (rw [Bh.right_no _ _ _ (by omega)]; simp; omega)), by (repeat (first | exact Below.refl _ _ | (refine Below.alloc ?_ (by first | exact Nat.le_refl _ | (simp; done) | (simp; omega)) _)))⟩
    · have z := (show decide (1 ≤ l) = false from by simp; omega)
      go_enter Try.func52, Try.ntmps52
      go_wp2_with fail
      go_ret
      exact ⟨ret_bool (by first | exact (Bh.right_yes _ _ _ (by omega)).symm | exact (Bh.right_no _ _ _ (by omega)).symm | (rw [Bh.right_yes _ _ _ (by omega)]; simp; omega) | (rw [Bh.right_no _ _ _ (by omega)]; simp; omega)), by (repeat (first | exact Below.refl _ _ | (refine Below.alloc ?_ (by first | exact Nat.le_refl _ | (simp; done) | (simp; omega)) _)))⟩
    · have z := l1
      go_enter Try.func52, Try.ntmps52
      go_wp2_with fail
      go_ret
      exact ⟨ret_bool (by first | exact (Bh.right_yes _ _ _ (by omega)).symm | exact (Bh.right_no _ _ _ (by omega)).symm | (rw [Bh.right_yes _ _ _ (by omega)]; simp; omega) | (rw [Bh.right_no _ _ _ (by omega)]; simp; omega)), by (repeat (first | exact Below.refl _ _ | (refine Below.alloc ?_ (by first | exact Nat.le_refl _ | (simp; done) | (simp; omega)) _)))⟩
    · have z := (show decide (l ≤ 255) = false from by simp; omega)
      go_enter Try.func52, Try.ntmps52
      go_wp2_with fail
      go_ret
      exact ⟨ret_bool (by first | exact (Bh.right_yes _ _ _ (by omega)).symm | exact (Bh.right_no _ _ _ (by omega)).symm | (rw [Bh.right_yes _ _ _ (by omega)]; simp; omega) | (rw [Bh.right_no _ _ _ (by omega)]; simp; omega)), by (repeat (first | exact Below.refl _ _ | (refine Below.alloc ?_ (by first | exact Nat.le_refl _ | (simp; done) | (simp; omega)) _)))⟩
  · rcases (show c ≠ 0 ∨ (c = 0 ∧ l < 1) ∨ (c = 0 ∧ 1 ≤ l ∧ l ≤ 255) ∨ (c = 0 ∧ 1 ≤ l ∧ 255 < l) from by omega) with hc | ⟨rfl, hl⟩ | ⟨rfl, l1, l2⟩ | ⟨rfl, l1, l2⟩
    · have z := (show (c == 0) = false from by simpa using hc)
      go_enter Try.func52, Try.ntmps52
      go_wp2_with fail
      go_ret
      exact ⟨ret_bool (by first | exact (Bh.right_yes _ _ _ (by omega)).symm | exact (Bh.right_no _ _ _ (by omega)).symm | (rw [Bh.right_yes _ _ _ (by omega)]; simp; omega) | (rw [Bh.right_no _ _ _ (by omega)]; simp; omega)), by (repeat (first | exact Below.refl _ _ | (refine Below.alloc ?_ (by first | exact Nat.le_refl _ | (simp; done) | (simp; omega)) _)))⟩
    · have z := (show decide (1 ≤ l) = false from by simp; omega)
      go_enter Try.func52, Try.ntmps52
      go_wp2_with fail
      go_ret
      exact ⟨ret_bool (by first | exact (Bh.right_yes _ _ _ (by omega)).symm | exact (Bh.right_no _ _ _ (by omega)).symm | (rw [Bh.right_yes _ _ _ (by omega)]; simp; omega) | (rw [Bh.right_no _ _ _ (by omega)]; simp; omega)), by (repeat (first | exact Below.refl _ _ | (refine Below.alloc ?_ (by first | exact Nat.le_refl _ | (simp; done) | (simp; omega)) _)))⟩
    · have z := l1
      go_enter Try.func52, Try.ntmps52
      go_wp2_with fail
      go_ret
      exact ⟨ret_bool (by first | exact (Bh.right_yes _ _ _ (by omega)).symm | exact (Bh.right_no _ _ _ (by omega)).symm | (rw [Bh.right_yes _ _ _ (by omega)]; simp; omega) | (rw [Bh.right_no _ _ _ (by omega)]; simp; omega)), by (repeat (first | exact Below.refl _ _ | (refine Below.alloc ?_ (by first | exact Nat.le_refl _ | (simp; done) | (simp; omega)) _)))⟩
    · have z := (show decide (l ≤ 255) = false from by simp; omega)
      go_enter Try.func52, Try.ntmps52
      go_wp2_with fail
      go_ret
      exact ⟨ret_bool (by first | exact (Bh.right_yes _ _ _ (by omega)).symm | exact (Bh.right_no _ _ _ (by omega)).symm | (rw [Bh.right_yes _ _ _ (by omega)]; simp; omega) | (rw [Bh.right_no _ _ _ (by omega)]; simp; omega)), by (repeat (first | exact Below.refl _ _ | (refine Below.alloc ?_ (by first | exact Nat.le_refl _ | (simp; done) | (simp; omega)) _)))⟩
  · have z := k0
    have z1 := (show (k == 1) = false from by simpa using k1)
    have z2 := (show (k == 2) = false from by simpa using k2)
    have z3 := (show (k == 3) = false from by simpa using k3)
    have z0 := (show (k == 0) = false from by simpa using k0)
    go_enter Try.func52, Try.ntmps52
    go_wp2_with fail
    go_ret
    exact ⟨ret_bool (by first | exact (Bh.right_yes _ _ _ (by omega)).symm | exact (Bh.right_no _ _ _ (by omega)).symm | (rw [Bh.right_yes _ _ _ (by omega)]; simp; omega) | (rw [Bh.right_no _ _ _ (by omega)]; simp; omega)), by (repeat (first | exact Below.refl _ _ | (refine Below.alloc ?_ (by first | exact Nat.le_refl _ | (simp; done) | (simp; omega)) _)))⟩
theorem bEnc_any (b k c l : Int) (w : World) (b1 : -9223372036854775808 ≤ b) (b2 : b ≤ 9223372036854775807) (h1 : -9223372036854775808 ≤ k) (h2 : k ≤ 9223372036854775807) (h3 : -9223372036854775808 ≤ c) (h4 : c ≤ 9223372036854775807) (h5 : -9223372036854775808 ≤ l) (h6 : l ≤ 9223372036854775807) :
    Calls Try.prog 54 #[.int .i64 b, .agg #[.int .i64 k, .int .i64 c, .int .i64 l]] w fun e w' => e = .returned (.int .u64 (Bh.enc k c l (Bh.atB b))) ∧ Below w.heap.size w w' := by
  have hK := box3 w (.int .i64 k) (.int .i64 c) (.int .i64 l) 73
  have ha := Bh.atB_bd b
  have hat := Bh.atB_out b
  cases hr : Bh.right k c l
  · have e := Lib.hid (Bh.enc_bad k c l (Bh.atB b) hr)
    go_enter Try.func54, Try.ntmps54
    go_wp2_with (first
      | (go_at_call 51; refine (bRight_any _ _ _ _ (by omega) (by omega) (by omega) (by omega) (by omega) (by omega)).mono ?_; rintro e w' ⟨rfl, hb'⟩; first | (replace hK := keep3 hb' hK) | (replace hK := keep3 hb' (keepA3 _ hK)) | (replace hK := keep3 hb' (keepA3 _ (keepA3 _ hK))) | (replace hK := keep3 hb' (keepD3 hK)); clear hb'))
    go_ret
    exact ⟨ret_int e.out.symm, hK.2.2.2⟩
  · have e := Lib.hid (Bh.enc_good k c l (Bh.atB b) hr)
    obtain ⟨k0, k1, c0, c1, l0, l1⟩ := Bh.right_bd k c l hr
    obtain ⟨p1, p2, p3⟩ := Bh.put_b k c l k0 k1 c0 (by omega) l0 l1
    go_enter Try.func54, Try.ntmps54
    go_wp2_with (first
      | (go_at_call 51; refine (bRight_any _ _ _ _ (by omega) (by omega) (by omega) (by omega) (by omega) (by omega)).mono ?_; rintro e w' ⟨rfl, hb'⟩; first | (replace hK := keep3 hb' hK) | (replace hK := keep3 hb' (keepA3 _ hK)) | (replace hK := keep3 hb' (keepA3 _ (keepA3 _ hK))) | (replace hK := keep3 hb' (keepD3 hK)); clear hb')
      | (go_at_call 68; refine (put_any _ _ _ _ _ (by omega) (by omega) (by omega) (by omega) (by omega) (by omega) (by omega) (by omega)).mono ?_; rintro e w' ⟨rfl, rfl⟩)
      | (go_at_call 69; refine (seal_any _ _ _ (by omega) (by omega) (by omega) (by omega)).mono ?_; rintro e w' ⟨rfl, hb'⟩; first | (replace hK := keep3 hb' hK) | (replace hK := keep3 hb' (keepA3 _ hK)) | (replace hK := keep3 hb' (keepA3 _ (keepA3 _ hK))) | (replace hK := keep3 hb' (keepD3 hK)); clear hb'))
    go_ret
    exact ⟨ret_int e.out.symm, hK.2.2.2⟩
theorem rBEnc_any (b k c l : Int) (w : World) (b1 : -9223372036854775808 ≤ b) (b2 : b ≤ 9223372036854775807) (h1 : -9223372036854775808 ≤ k) (h2 : k ≤ 9223372036854775807) (h3 : -9223372036854775808 ≤ c) (h4 : c ≤ 9223372036854775807) (h5 : -9223372036854775808 ≤ l) (h6 : l ≤ 9223372036854775807) :
    Calls Try.prog 55 #[.int .i64 b, .agg #[.int .i64 k, .int .i64 c, .int .i64 l]] w fun e w' => e = .returned (.int .u64 (Bh.enc k c l (Bh.atB b))) ∧ Below w.heap.size w w' := by
  have hK := box3 w (.int .i64 k) (.int .i64 c) (.int .i64 l) 76
  have ha := Bh.atB_bd b
  have hat := Bh.atB_out b
  cases hr : Bh.right k c l
  · have e := Lib.hid (Bh.enc_bad k c l (Bh.atB b) hr)
    go_enter Try.func55, Try.ntmps55
    go_wp2_with (first
      | (go_at_call 52; refine (rBRight_any _ _ _ _ (by omega) (by omega) (by omega) (by omega) (by omega) (by omega)).mono ?_; rintro e w' ⟨rfl, hb'⟩; first | (replace hK := keep3 hb' hK) | (replace hK := keep3 hb' (keepA3 _ hK)) | (replace hK := keep3 hb' (keepA3 _ (keepA3 _ hK))) | (replace hK := keep3 hb' (keepD3 hK)); clear hb'))
    go_ret
    exact ⟨ret_int e.out.symm, hK.2.2.2⟩
  · have e := Lib.hid (Bh.enc_good k c l (Bh.atB b) hr)
    obtain ⟨k0, k1, c0, c1, l0, l1⟩ := Bh.right_bd k c l hr
    go_enter Try.func55, Try.ntmps55
    go_wp2_with (first
      | (go_at_call 52; refine (rBRight_any _ _ _ _ (by omega) (by omega) (by omega) (by omega) (by omega) (by omega)).mono ?_; rintro e w' ⟨rfl, hb'⟩; first | (replace hK := keep3 hb' hK) | (replace hK := keep3 hb' (keepA3 _ hK)) | (replace hK := keep3 hb' (keepA3 _ (keepA3 _ hK))) | (replace hK := keep3 hb' (keepD3 hK)); clear hb')
      | (go_at_call 70; refine (rSeal_any _ _ _ (by omega) (by omega) (by omega) (by omega)).mono ?_; rintro e w' ⟨rfl, hb'⟩; first | (replace hK := keep3 hb' hK) | (replace hK := keep3 hb' (keepA3 _ hK)) | (replace hK := keep3 hb' (keepA3 _ (keepA3 _ hK))) | (replace hK := keep3 hb' (keepD3 hK)); clear hb'))
    go_ret
    exact ⟨ret_int e.out.symm, hK.2.2.2⟩
theorem ref7_any (k c l : Int) (w : World) : Calls Try.prog 53 #[.agg #[.int .i64 k, .int .i64 c, .int .i64 l]] w fun e w' => e = .returned (.agg #[.int .i64 k, .int .i64 c, .int .i64 l]) ∧ Below w.heap.size w w' := by
  go_enter Try.func53, Try.ntmps53
  go_wp2
  exact bodyPost_ret (v := .agg #[.int .i64 k, .int .i64 c, .int .i64 l]) (by simp [results, go_sem, Try.results53]) rfl ⟨rfl, by (repeat (first | exact Below.refl _ _ | (refine Below.alloc ?_ (by first | exact Nat.le_refl _ | (simp; done) | (simp; omega)) _)))⟩
end Go.Proofs.Ythbkfgafdjcicaa
