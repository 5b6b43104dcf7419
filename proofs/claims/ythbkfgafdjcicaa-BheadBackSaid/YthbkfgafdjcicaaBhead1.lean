/- What the functions of package bhead, and those of its reference, compute: one contract each. -/
import Derived.Test.YthbkfgafdjcicaaOhead1
import Derived.Test.YthbkfgafdjcicaaMem2
import Derived.Test.YthbkfgafdjcicaaPBhead
namespace Go.Proofs.Ythbkfgafdjcicaa
open Go.RowKit
set_option linter.unusedVariables false
set_option maxHeartbeats 1000000
set_option maxRecDepth 100000
theorem box3 (w : World) (a b c : Value) (T : TypeId) : (w.alloc (.cells #[a, b, c] T)).cell? ⟨w.heap.size, 0, none⟩ = some a ∧ (w.alloc (.cells #[a, b, c] T)).cell? ⟨w.heap.size, 1, none⟩ = some b ∧ (w.alloc (.cells #[a, b, c] T)).cell? ⟨w.heap.size, 2, none⟩ = some c ∧ Below w.heap.size w (w.alloc (.cells #[a, b, c] T)) :=
  grow3_0 a b c T (Below.refl _ _)
theorem bRight_any (k c l : Int) (w : World) (h1 : -9223372036854775808 ≤ k) (h2 : k ≤ 9223372036854775807) (h3 : -9223372036854775808 ≤ c) (h4 : c ≤ 9223372036854775807) (h5 : -9223372036854775808 ≤ l) (h6 : l ≤ 9223372036854775807) :
    Calls Try.prog 51 #[.agg #[.int .i64 k, .int .i64 c, .int .i64 l]] w fun e w' => e = .returned (.bool (Bh.right k c l)) ∧ Below w.heap.size w w' := by
  have hK := box3 w (.int .i64 k) (.int .i64 c) (.int .i64 l) 73
  rcases (show k = 0 ∨ k = 1 ∨ k = 2 ∨ k = 3 ∨ (k ≠ 0 ∧ k ≠ 1 ∧ k ≠ 2 ∧ k ≠ 3) from by omega) with rfl | rfl | rfl | rfl | ⟨k0, k1, k2, k3⟩
  · rcases (show (c = 0 ∧ l = 0) ∨ c ≠ 0 ∨ (c = 0 ∧ l ≠ 0) from by omega) with ⟨rfl, rfl⟩ | hc | ⟨rfl, hl⟩
    · have z := Bh.right_yes 0 0 0 (by omega)
      go_enter Try.func51, Try.ntmps51
      go_wp2_with fail
      go_ret
      exact ⟨ret_bool (by first | exact (Bh.right_yes _ _ _ (by omega)).symm | exact (Bh.right_no _ _ _ (by omega)).symm | (rw [Bh.right_yes _ _ _ (by omega)]; simp; omega) | (rw [Bh.right_no _ _ _ (by omega)]; simp; omega)), by (repeat (first | exact Below.refl _ _ | (refine Below.alloc ?_ (by first | exact Nat.le_refl _ | (simp; done) | (simp; omega)) _)))⟩
    · have z := (show (c == 0) = false from by simpa using hc)
      go_enter Try.func51, Try.ntmps51
      go_wp2_with fail
      go_ret
      exact ⟨ret_bool (by first | exact (Bh.right_yes _ _ _ (by omega)).symm | exact (Bh.right_no _ _ _ (by omega)).symm | (rw [Bh.right_yes _ _ _ (by omega)]; simp; omega) | (rw [Bh.right_no _ _ _ (by omega)]; simp; omega)), by (repeat (first | exact Below.refl _ _ | (refine Below.alloc ?_ (by first | exact Nat.le_refl _ | (simp; done) | (simp; omega)) _)))⟩
    · have z := (show (l == 0) = false from by simpa using hl)
      go_enter Try.func51, Try.ntmps51
      go_wp2_with fail
      go_ret
      exact ⟨ret_bool (by first | exact (Bh.right_yes _ _ _ (by omega)).symm | exact (Bh.right_no _ _ _ (by omega)).symm | (rw [Bh.right_yes _ _ _ (by omega)]; simp; omega) | (rw [Bh.right_no _ _ _ (by omega)]; simp; omega)), by (repeat (first | exact Below.refl _ _ | (refine Below.alloc ?_ (by first | exact Nat.le_refl _ | (simp; done) | (simp; omega)) _)))⟩
  · rcases (show (c < 0 ∨ 32 ≤ c) ∨ (0 ≤ c ∧ c < 32 ∧ l = 0) ∨ (0 ≤ c ∧ c < 32 ∧ l ≠ 0) from by omega) with hc | ⟨c1, c2, rfl⟩ | ⟨c1, c2, hl⟩
    · have z := Cl.rightB_no c hc
      go_enter Try.func51, Try.ntmps51
      go_wp2_with (first
      | (go_at_call 20; refine (right_any _ _ (by omega) (by omega)).mono ?_; rintro e w' ⟨rfl, rfl⟩))
      go_ret
      exact ⟨ret_bool (by first | exact (Bh.right_yes _ _ _ (by omega)).symm | exact (Bh.right_no _ _ _ (by omega)).symm | (rw [Bh.right_yes _ _ _ (by omega)]; simp; omega) | (rw [Bh.right_no _ _ _ (by omega)]; simp; omega)), by (repeat (first | exact Below.refl _ _ | (refine Below.alloc ?_ (by first | exact Nat.le_refl _ | (simp; done) | (simp; omega)) _)))⟩
    · have z := Cl.rightB_yes c c1 c2
      go_enter Try.func51, Try.ntmps51
      go_wp2_with (first
      | (go_at_call 20; refine (right_any _ _ (by omega) (by omega)).mono ?_; rintro e w' ⟨rfl, rfl⟩))
      go_ret
      exact ⟨ret_bool (by first | exact (Bh.right_yes _ _ _ (by omega)).symm | exact (Bh.right_no _ _ _ (by omega)).symm | (rw [Bh.right_yes _ _ _ (by omega)]; simp; omega) | (rw [Bh.right_no _ _ _ (by omega)]; simp; omega)), by (repeat (first | exact Below.refl _ _ | (refine Below.alloc ?_ (by first | exact Nat.le_refl _ | (simp; done) | (simp; omega)) _)))⟩
    · have z := Cl.rightB_yes c c1 c2
      have z2 := (show (l == 0) = false from by simpa using hl)
      go_enter Try.func51, Try.ntmps51
      go_wp2_with (first
      | (go_at_call 20; refine (right_any _ _ (by omega) (by omega)).mono ?_; rintro e w' ⟨rfl, rfl⟩))
      go_ret
      exact ⟨ret_bool (by first | exact (Bh.right_yes _ _ _ (by omega)).symm | exact (Bh.right_no _ _ _ (by omega)).symm | (rw [Bh.right_yes _ _ _ (by omega)]; simp; omega) | (rw [Bh.right_no _ _ _ (by omega)]; simp; omega)), by (repeat (first | exact Below.refl _ _ | (refine Below.alloc ?_ (by first | exact Nat.le_refl _ | (simp; done) | (simp; omega)) _)))⟩
  · rcases (show c ≠ 0 ∨ (c = 0 ∧ l < 1) ∨ (c = 0 ∧ 1 ≤ l ∧ l ≤ 255) ∨ (c = 0 ∧ 1 ≤ l ∧ 255 < l) from by omega) with hc | ⟨rfl, hl⟩ | ⟨rfl, l1, l2⟩ | ⟨rfl, l1, l2⟩
    · have z := (show (c == 0) = false from by simpa using hc)
      go_enter Try.func51, Try.ntmps51
      go_wp2_with fail
      go_ret
      exact ⟨ret_bool (by first | exact (Bh.right_yes _ _ _ (by omega)).symm | exact (Bh.right_no _ _ _ (by omega)).symm | (rw [Bh.right_yes _ _ _ (by omega)]; simp; omega) | (rw [Bh.right_no _ _ _ (by omega)]; simp; omega)), by (repeat (first | exact Below.refl _ _ | (refine Below.alloc ?_ (by first | exact Nat.le_refl _ | (simp; done) | (simp; omega)) _)))⟩
    · have z := (show decide (1 ≤ l) = false from by simp; omega)
      go_enter Try.func51, Try.ntmps51
      go_wp2_with fail
      go_ret
      exact ⟨ret_bool (by first | exact (Bh.right_yes _ _ _ (by omega)).symm | exact (Bh.right_no _ _ _ (by omega)).symm | (rw [Bh.right_yes _ _ _ (by omega)]; simp; omega) | (rw [Bh.right_no _ _ _ (by omega)]; simp; omega)), by (repeat (first | exact Below.refl _ _ | (refine Below.alloc ?_ (by first | exact Nat.le_refl _ | (simp; done) | (simp; omega)) _)))⟩
    · have z := l1
      go_enter Try.func51, Try.ntmps51
      go_wp2_with fail
      go_ret
      exact ⟨ret_bool (by first | exact (Bh.right_yes _ _ _ (by omega)).symm | exact (Bh.right_no _ _ _ (by omega)).symm | (rw [Bh.right_yes _ _ _ (by omega)]; simp; omega) | (rw [Bh.right_no _ _ _ (by omega)]; simp; omega)), by (repeat (first | exact Below.refl _ _ | (refine Below.alloc ?_ (by first | exact Nat.le_refl _ | (simp; done) | (simp; omega)) _)))⟩
    · have z := (show decide (l < 256) = false from by simp; omega)
      go_enter Try.func51, Try.ntmps51
      go_wp2_with fail
      go_ret
      exact ⟨ret_bool (by first | exact (Bh.right_yes _ _ _ (by omega)).symm | exact (Bh.right_no _ _ _ (by omega)).symm | (rw [Bh.right_yes _ _ _ (by omega)]; simp; omega) | (rw [Bh.right_no _ _ _ (by omega)]; simp; omega)), by (repeat (first | exact Below.refl _ _ | (refine Below.alloc ?_ (by first | exact Nat.le_refl _ | (simp; done) | (simp; omega)) _)))⟩
  · rcases (show c ≠ 0 ∨ (c = 0 ∧ l < 1) ∨ (c = 0 ∧ 1 ≤ l ∧ l ≤ 255) ∨ (c = 0 ∧ 1 ≤ l ∧ 255 < l) from by omega) with hc | ⟨rfl, hl⟩ | ⟨rfl, l1, l2⟩ | ⟨rfl, l1, l2⟩
    · have z := (show (c == 0) = false from by simpa using hc)
      go_enter Try.func51, Try.ntmps51
      go_wp2_with fail
      go_ret
      exact ⟨ret_bool (by first | exact (Bh.right_yes _ _ _ (by omega)).symm | exact (Bh.right_no _ _ _ (by omega)).symm | (rw [Bh.right_yes _ _ _ (by omega)]; simp; omega) | (rw [Bh.right_no _ _ _ (by omega)]; simp; omega)), by (repeat (first | exact Below.refl _ _ | (refine Below.alloc ?_ (by first | exact Nat.le_refl _ | (simp; done) | (simp; omega)) _)))⟩
    · have z := (show decide (1 ≤ l) = false from by simp; omega)
      go_enter Try.func51, Try.ntmps51
      go_wp2_with fail
      go_ret
      exact ⟨ret_bool (by first | exact (Bh.right_yes _ _ _ (by omega)).symm | exact (Bh.right_no _ _ _ (by omega)).symm | (rw [Bh.right_yes _ _ _ (by omega)]; simp; omega) | (rw [Bh.right_no _ _ _ (by omega)]; simp; omega)), by (repeat (first | exact Below.refl _ _ | (refine Below.alloc ?_ (by first | exact Nat.le_refl _ | (simp; done) | (simp; omega)) _)))⟩
    · have z := l1
      go_enter Try.func51, Try.ntmps51
      go_wp2_with fail
      go_ret
      exact ⟨ret_bool (by first | exact (Bh.right_yes _ _ _ (by omega)).symm | exact (Bh.right_no _ _ _ (by omega)).symm | (rw [Bh.right_yes _ _ _ (by omega)]; simp; omega) | (rw [Bh.right_no _ _ _ (by omega)]; simp; omega)), by (repeat (first | exact Below.refl _ _ | (refine Below.alloc ?_ (by first | exact Nat.le_refl _ | (simp; done) | (simp; omega)) _)))⟩
    · have z := (show decide (l < 256) = false from by simp; omega)
      go_enter Try.func51, Try.ntmps51
      go_wp2_with fail
      go_ret
      exact ⟨ret_bool (by first | exact (Bh.right_yes _ _ _ (by omega)).symm | exact (Bh.right_no _ _ _ (by omega)).symm | (rw [Bh.right_yes _ _ _ (by omega)]; simp; omega) | (rw [Bh.right_no _ _ _ (by omega)]; simp; omega)), by (repeat (first | exact Below.refl _ _ | (refine Below.alloc ?_ (by first | exact Nat.le_refl _ | (simp; done) | (simp; omega)) _)))⟩
  · have z := k0
    have z1 := (show (k == 1) = false from by simpa using k1)
    have z2 := (show (k == 2) = false from by simpa using k2)
    have z3 := (show (k == 3) = false from by simpa using k3)
    have z0 := (show (k == 0) = false from by simpa using k0)
    go_enter Try.func51, Try.ntmps51
    go_wp2_with fail
    go_ret
    exact ⟨ret_bool (by first | exact (Bh.right_yes _ _ _ (by omega)).symm | exact (Bh.right_no _ _ _ (by omega)).symm | (rw [Bh.right_yes _ _ _ (by omega)]; simp; omega) | (rw [Bh.right_no _ _ _ (by omega)]; simp; omega)), by (repeat (first | exact Below.refl _ _ | (refine Below.alloc ?_ (by first | exact Nat.le_refl _ | (simp; done) | (simp; omega)) _)))⟩
end Go.Proofs.Ythbkfgafdjcicaa
