/- Blocks of addresses: contracts of package geom. -/
import Derived.Test.YtchobkabndnhoaaCom
namespace Go.Proofs.Ytchobkabndnhoaa
open Go.RowKit
set_option linter.unusedVariables false
set_option maxHeartbeats 400000
set_option maxRecDepth 100000
def blockOf (n at_ : Int) : Int := if 0 ≤ at_ ∧ at_ < 512 * n then at_ / 512 else -1
theorem gBlockOf_any (n at_ : Int) (w : World) (h1 : 0 ≤ n) (h2 : n ≤ 1000000) (a1 : -9223372036854775808 ≤ at_) (a2 : at_ ≤ 9223372036854775807) :
    Calls Try.prog 46 #[.agg #[.int .i64 n], .int .i64 at_] w fun e w' => e = .returned (.int .i64 (blockOf n at_)) ∧ Below w.heap.size w w' := by
  by_cases c1 : at_ < 0
  · have e := Lib.hid (show blockOf n at_ = -1 by unfold blockOf; rw [if_neg (by omega)])
    go_enter Try.func46, Try.ntmps46
    go_wp2
    go_ret
    exact ⟨ret_int e.out.symm, by (repeat (first | exact Below.refl _ _ | (refine Below.alloc ?_ (by first | exact Nat.le_refl _ | (simp; done) | (simp; omega)) _)))⟩
  · by_cases c2 : at_ < 512 * n
    · have e := Lib.hid (show blockOf n at_ = at_ / 512 by unfold blockOf; rw [if_pos (by omega)])
      go_enter Try.func46, Try.ntmps46
      go_wp2
      go_ret
      exact ⟨ret_int e.out.symm, by (repeat (first | exact Below.refl _ _ | (refine Below.alloc ?_ (by first | exact Nat.le_refl _ | (simp; done) | (simp; omega)) _)))⟩
    · have e := Lib.hid (show blockOf n at_ = -1 by unfold blockOf; rw [if_neg (by omega)])
      go_enter Try.func46, Try.ntmps46
      go_wp2
      go_ret
      exact ⟨ret_int e.out.symm, by (repeat (first | exact Below.refl _ _ | (refine Below.alloc ?_ (by first | exact Nat.le_refl _ | (simp; done) | (simp; omega)) _)))⟩
theorem blockOf_bd (n at_ : Int) (h2 : n ≤ 1000000) : -1 ≤ blockOf n at_ ∧ (blockOf n at_ < n ∨ blockOf n at_ = -1) := by unfold blockOf; split <;> omega
def dataB (n at_ : Int) : Bool := decide (1 ≤ blockOf n at_)
theorem gData_any (n at_ : Int) (w : World) (h1 : 0 ≤ n) (h2 : n ≤ 1000000) (a1 : -9223372036854775808 ≤ at_) (a2 : at_ ≤ 9223372036854775807) :
    Calls Try.prog 45 #[.agg #[.int .i64 n], .int .i64 at_] w fun e w' => e = .returned (.bool (dataB n at_)) ∧ Below w.heap.size w w' := by
  go_enter Try.func45, Try.ntmps45
  go_wp2_with (first
    | (go_at_call 46; refine (gBlockOf_any _ _ _ (by omega) (by omega) (by omega) (by omega)).mono ?_; rintro e w1 ⟨rfl, hb⟩))
  go_ret
  exact ⟨rfl, ((Below.refl _ _).alloc (Nat.le_refl _) _).trans (hb.mono (by simp))⟩
end Go.Proofs.Ytchobkabndnhoaa
