/- Are two slices of integers alike? One contract for each function of that shape. -/
import Derived.Test.YtmekhdclnhhhbaaMem
namespace Go.Proofs.Ytmekhdclnhhhbaa
open Go.RowKit
set_option linter.unusedVariables false
set_option maxHeartbeats 400000
set_option maxRecDepth 100000
theorem drew_ex {w : World} {q r : Nat} : ∃ t, (w.drewN q).drewN r = w.drewN t := ⟨_, World.drewN_drewN ..⟩
def eqB (xs ys : List Int) : Bool := decide (xs = ys)
theorem eqB_yes (xs ys : List Int) (h : xs = ys) : eqB xs ys = true := by unfold eqB; simpa using h
theorem eqB_no (xs ys : List Int) (h : xs ≠ ys) : eqB xs ys = false := by unfold eqB; simpa using h
theorem take_eq_succ {xs ys : List Int} {k : Nat} {x y : Int} (hx : xs[k]? = some x) (hy : ys[k]? = some y) (h : xs.take k = ys.take k) (e : x = y) : xs.take (k + 1) = ys.take (k + 1) := by
  rw [take_succ_of hx, take_succ_of hy, h, e]
theorem get_ne {xs ys : List Int} {k : Nat} {x y : Int} (hx : xs[k]? = some x) (hy : ys[k]? = some y) (e : x ≠ y) : xs ≠ ys := by
  rintro rfl; rw [hx] at hy; exact e (by simpa using hy)
theorem ints_any (A B : Option Addr) (n c m d : Nat) (xs ys : List Int) (P Q : Nat) (w : World) (hx : RowAt w P A n (xs.map (Value.int .i64))) (hy : RowAt w Q B m (ys.map (Value.int .i64))) (ix : Ints .i64 xs) (iy : Ints .i64 ys) (n1 : n ≤ maxLen) (m1 : m ≤ maxLen) :
    Calls Try.prog 90 #[.slice A n c, .slice B m d] w fun e w' => e = .returned (.bool (eqB xs ys)) ∧ ∃ q, w' = w.drewN q := by
  unfold maxLen at n1 m1
  have lx : xs.length = n := by simpa using hx.1
  have ly : ys.length = m := by simpa using hy.1
  by_cases hl : n = m
  · subst hl
    have LX := Lib.hid lx
    have LY := Lib.hid ly
    have HX := Lib.hid hx
    have HY := Lib.hid hy
    have IX := Lib.hid ix
    have IY := Lib.hid iy
    clear lx ly hx hy ix iy
    go_enter Try.func90, Try.ntmps90
    go_wp2_with fail
    go_loopw [5] (fun t wr => ∃ k q : Nat, k ≤ n ∧ t = .int .i64 k ∧ wr = w.drewN q ∧ xs.take k = ys.take k) (fun t _ => n - (intOf t).toNat)
    case atStart => exact ⟨0, 0, by omega, rfl, rfl, rfl⟩
    case round =>
      obtain ⟨k, q, hk, rfl, rfl, ht⟩ := hrel
      have HT := Lib.hid ht
      clear ht
      by_cases hlt : k < n
      · obtain ⟨b, off, x, rfl, hb, hx, hwx, hc⟩ := HX.out.int IX.out hlt
        obtain ⟨b', off', y, rfl, hb', hy, hwy, hc'⟩ := HY.out.int IY.out hlt
        have hxb := bounds_i64 hwx
        have hyb := bounds_i64 hwy
        have hx' := Lib.hid hx
        have hy' := Lib.hid hy
        clear hx hy hwx hwy
        by_cases e : x = y
        · subst e
          have HS := Lib.hid (take_eq_succ hx'.out hy'.out HT.out rfl)
          go_wp2_with fail
          go_quiet (fail)
          go_wp2_with fail
          go_roundw
          case rel => exact ⟨k + 1, _, by omega, by go_num, rfl, HS.out⟩
          case measure => simp [intOf]; omega
        · have HE := Lib.hid (eqB_no xs ys (get_ne hx'.out hy'.out e))
          have e1 : (x != y) = true := by rw [bne_iff_ne]; exact e
          clear e
          go_wp2_with fail
          go_quiet (fail)
          go_wp2_with fail
          go_ret
          exact ⟨ret_bool HE.out.symm, by first | exact drew_ex | exact ⟨_, rfl⟩⟩
      · obtain rfl : k = n := by omega
        have HE := HT.out
        rw [List.take_of_length_le (by rw [LX.out]; exact Nat.le_refl _), List.take_of_length_le (by rw [LY.out]; exact Nat.le_refl _)] at HE
        have HE := Lib.hid (eqB_yes xs ys HE)
        go_wp2_with fail
        go_ret
        exact ⟨ret_bool HE.out.symm, q, rfl⟩
  · have HE := Lib.hid (eqB_no xs ys (by rintro rfl; omega))
    have hl' : ((n : Int) != (m : Int)) = true := by rw [bne_iff_ne]; omega
    clear lx ly hl
    go_enter Try.func90, Try.ntmps90
    go_wp2_with fail
    go_ret
    exact ⟨ret_bool HE.out.symm, 0, rfl⟩
theorem same_any (A B : Option Addr) (n c m d : Nat) (xs ys : List Int) (P Q : Nat) (w : World) (hx : RowAt w P A n (xs.map (Value.int .u64))) (hy : RowAt w Q B m (ys.map (Value.int .u64))) (ix : Ints .u64 xs) (iy : Ints .u64 ys) (n1 : n ≤ maxLen) (m1 : m ≤ maxLen) :
    Calls Try.prog 42 #[.slice A n c, .slice B m d] w fun e w' => e = .returned (.bool (eqB xs ys)) ∧ ∃ q, w' = w.drewN q := by
  unfold maxLen at n1 m1
  have lx : xs.length = n := by simpa using hx.1
  have ly : ys.length = m := by simpa using hy.1
  by_cases hl : n = m
  · subst hl
    have LX := Lib.hid lx
    have LY := Lib.hid ly
    have HX := Lib.hid hx
    have HY := Lib.hid hy
    have IX := Lib.hid ix
    have IY := Lib.hid iy
    clear lx ly hx hy ix iy
    go_enter Try.func42, Try.ntmps42
    go_wp2_with fail
    go_loopw [5] (fun t wr => ∃ k q : Nat, k ≤ n ∧ t = .int .i64 k ∧ wr = w.drewN q ∧ xs.take k = ys.take k) (fun t _ => n - (intOf t).toNat)
    case atStart => exact ⟨0, 0, by omega, rfl, rfl, rfl⟩
    case round =>
      obtain ⟨k, q, hk, rfl, rfl, ht⟩ := hrel
      have HT := Lib.hid ht
      clear ht
      by_cases hlt : k < n
      · obtain ⟨b, off, x, rfl, hb, hx, hwx, hc⟩ := HX.out.int IX.out hlt
        obtain ⟨b', off', y, rfl, hb', hy, hwy, hc'⟩ := HY.out.int IY.out hlt
        have hxb := bounds_u64 hwx
        have hyb := bounds_u64 hwy
        have hx' := Lib.hid hx
        have hy' := Lib.hid hy
        clear hx hy hwx hwy
        by_cases e : x = y
        · subst e
          have HS := Lib.hid (take_eq_succ hx'.out hy'.out HT.out rfl)
          go_wp2_with fail
          go_quiet (fail)
          go_wp2_with fail
          go_roundw
          case rel => exact ⟨k + 1, _, by omega, by go_num, rfl, HS.out⟩
          case measure => simp [intOf]; omega
        · have HE := Lib.hid (eqB_no xs ys (get_ne hx'.out hy'.out e))
          have e1 : (x != y) = true := by rw [bne_iff_ne]; exact e
          clear e
          go_wp2_with fail
          go_quiet (fail)
          go_wp2_with fail
          go_ret
          exact ⟨ret_bool HE.out.symm, by first | exact drew_ex | exact ⟨_, rfl⟩⟩
      · obtain rfl : k = n := by omega
        have HE := HT.out
        rw [List.take_of_length_le (by rw [LX.out]; exact Nat.le_refl _), List.take_of_length_le (by rw [LY.out]; exact Nat.le_refl _)] at HE
        have HE := Lib.hid (eqB_yes xs ys HE)
        go_wp2_with fail
        go_ret
        exact ⟨ret_bool HE.out.symm, q, rfl⟩
  · have HE := Lib.hid (eqB_no xs ys (by rintro rfl; omega))
    have hl' : ((n : Int) != (m : Int)) = true := by rw [bne_iff_ne]; omega
    clear lx ly hl
    go_enter Try.func42, Try.ntmps42
    go_wp2_with fail
    go_ret
    exact ⟨ret_bool HE.out.symm, 0, rfl⟩
end Go.Proofs.Ytmekhdclnhhhbaa
