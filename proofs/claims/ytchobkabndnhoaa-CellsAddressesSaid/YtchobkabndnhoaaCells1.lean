/- What the functions of package cells compute: one contract each. -/
import Derived.Test.YtchobkabndnhoaaClass2
import Derived.Test.YtchobkabndnhoaaPCells
import Derived.Deep.RegionHeld3
namespace Go.Proofs.Ytchobkabndnhoaa
open Go.RowKit
set_option linter.unusedVariables false
set_option maxHeartbeats 1000000
set_option maxRecDepth 100000
theorem gFirst_any (n bl : Int) (w : World) (h1 : -9223372036854775808 ≤ bl) (h3 : n ≤ 1000000) :
    Calls Try.prog 47 #[.agg #[.int .i64 n], .int .i64 bl] w fun e w' => e = .returned (.int .i64 (Ce.first n bl)) ∧ Below w.heap.size w w' := by
  by_cases c1 : bl < 0
  · have e := Lib.hid (Ce.first_out n bl (.inl c1))
    go_enter Try.func47, Try.ntmps47
    go_wp2
    go_ret
    exact ⟨ret_int e.out.symm, by (repeat (first | exact Below.refl _ _ | (refine Below.alloc ?_ (by first | exact Nat.le_refl _ | (simp; done) | (simp; omega)) _)))⟩
  · by_cases c2 : bl < n
    · have e := Lib.hid (Ce.first_in n bl (by omega) c2)
      go_enter Try.func47, Try.ntmps47
      go_wp2
      go_ret
      exact ⟨ret_int e.out.symm, by (repeat (first | exact Below.refl _ _ | (refine Below.alloc ?_ (by first | exact Nat.le_refl _ | (simp; done) | (simp; omega)) _)))⟩
    · have e := Lib.hid (Ce.first_out n bl (.inr (by omega)))
      go_enter Try.func47, Try.ntmps47
      go_wp2
      go_ret
      exact ⟨ret_int e.out.symm, by (repeat (first | exact Below.refl _ _ | (refine Below.alloc ?_ (by first | exact Nat.le_refl _ | (simp; done) | (simp; omega)) _)))⟩
theorem addrS_keep {w : World} {n b i : Int} {W w' : World} (hb : Below W.heap.size W w')
    (h : W.cell? ⟨w.heap.size, 0, none⟩ = some (.int .i64 n) ∧ W.cell? ⟨w.heap.size + 1, 0, none⟩ = some (.int .i64 b) ∧ W.cell? ⟨w.heap.size + 1, 1, none⟩ = some (.int .i64 i) ∧ w.heap.size + 1 < W.heap.size ∧ Below w.heap.size w W) :
    w'.cell? ⟨w.heap.size, 0, none⟩ = some (.int .i64 n) ∧ w'.cell? ⟨w.heap.size + 1, 0, none⟩ = some (.int .i64 b) ∧ w'.cell? ⟨w.heap.size + 1, 1, none⟩ = some (.int .i64 i) ∧ w.heap.size + 1 < w'.heap.size ∧ Below w.heap.size w w' := by
  obtain ⟨h1, h2, h3, h4, h5⟩ := h
  have hs := hb.size
  exact ⟨(hb.cell (p := ⟨w.heap.size, 0, none⟩) (by simp; omega)).trans h1, (hb.cell (p := ⟨w.heap.size + 1, 0, none⟩) (by simp; omega)).trans h2, (hb.cell (p := ⟨w.heap.size + 1, 1, none⟩) (by simp; omega)).trans h3, by omega, h5.trans (hb.mono (by omega))⟩
theorem addrS_drew {w : World} {n b i : Int} {W : World}
    (h : W.cell? ⟨w.heap.size, 0, none⟩ = some (.int .i64 n) ∧ W.cell? ⟨w.heap.size + 1, 0, none⟩ = some (.int .i64 b) ∧ W.cell? ⟨w.heap.size + 1, 1, none⟩ = some (.int .i64 i) ∧ w.heap.size + 1 < W.heap.size ∧ Below w.heap.size w W) :
    W.drew.cell? ⟨w.heap.size, 0, none⟩ = some (.int .i64 n) ∧ W.drew.cell? ⟨w.heap.size + 1, 0, none⟩ = some (.int .i64 b) ∧ W.drew.cell? ⟨w.heap.size + 1, 1, none⟩ = some (.int .i64 i) ∧ w.heap.size + 1 < W.drew.heap.size ∧ Below w.heap.size w W.drew :=
  ⟨h.1, h.2.1, h.2.2.1, h.2.2.2.1, h.2.2.2.2.drew⟩
theorem address_any (n k b i : Int) (w : World) (h0 : 0 ≤ n) (h3 : n ≤ 1000000) (k1 : -9223372036854775808 ≤ k) (k2 : k ≤ 9223372036854775807) (b1 : -9223372036854775808 ≤ b) (b2 : b ≤ 9223372036854775807) (i1 : -9223372036854775808 ≤ i) (i2 : i ≤ 9223372036854775807) :
    Calls Try.prog 26 #[.agg #[.int .i64 n], .int .i64 k, .agg #[.int .i64 b, .int .i64 i]] w fun e w' => e = .returned (.int .i64 (Ce.address n k b i)) ∧ Below w.heap.size w w' := by
  have hB : Below w.heap.size w ((w.alloc (.cells #[.int .i64 n] 35)).alloc (.cells #[.int .i64 b, .int .i64 i] 43)) := ((Below.refl _ _).alloc (Nat.le_refl _) _).alloc (by simp) _
  have hwb := Cl.words_bd k
  have hcb := Cl.cells_bd k
  rcases (show (0 ≤ k ∧ k < 32 ∧ 1 ≤ b ∧ b < n ∧ 0 ≤ i ∧ i < Cl.cells k) ∨ (k < 0 ∨ 32 ≤ k) ∨ (0 ≤ k ∧ k < 32 ∧ b < 1) ∨ (0 ≤ k ∧ k < 32 ∧ 1 ≤ b ∧ n ≤ b) ∨ (0 ≤ k ∧ k < 32 ∧ 1 ≤ b ∧ b < n ∧ i < 0) ∨ (0 ≤ k ∧ k < 32 ∧ 1 ≤ b ∧ b < n ∧ 0 ≤ i ∧ Cl.cells k ≤ i) from by omega) with
    ⟨c0, c1, c2, c3, c4, c5⟩ | c1 | ⟨c0, c1, c2⟩ | ⟨c0, c1, c2, c3⟩ | ⟨c0, c1, c2, c3, c4⟩ | ⟨c0, c1, c2, c3, c4, c5⟩
  · have hr := Cl.rightB_yes k c0 c1
    have e := Lib.hid (Ce.address_in n k b i c0 c1 c2 c3 c4 c5)
    have ef := Ce.first_in n b (by omega) c3
    have hm := Ce.mul_bd k i c0 c1 c4 c5
    have d1 : decide (b < 1) = false := by simp; omega
    have d2 : decide (n ≤ b) = false := by simp; omega
    have d3 : decide (i < 0) = false := by simp; omega
    have d4 : decide (Cl.cells k ≤ i) = false := by simp; omega
    go_enter Try.func26, Try.ntmps26
    go_wp2_with fail
    go_region_held3 (fun w' => w'.cell? ⟨w.heap.size, 0, none⟩ = some (.int .i64 n) ∧ w'.cell? ⟨w.heap.size + 1, 0, none⟩ = some (.int .i64 b) ∧ w'.cell? ⟨w.heap.size + 1, 1, none⟩ = some (.int .i64 i) ∧ w.heap.size + 1 < w'.heap.size ∧ Below w.heap.size w w')
      (first | assumption | (refine ⟨?_, ?_, ?_, ?_, ?_⟩ <;> first | exact hB.drew | (simp; done)))
      (first
        | (go_at_call 43; refine (right_any _ _ (by omega) (by omega)).mono ?_; rintro e w' ⟨rfl, rfl⟩)
        | (go_at_call 22; refine (cells_any _ _ (by omega) (by omega)).mono ?_; rintro e w' ⟨rfl, hb'⟩; have hS' := addrS_keep hb' (by assumption)))
    go_wp2_with fail
    go_region_held3 (fun w' => w'.cell? ⟨w.heap.size, 0, none⟩ = some (.int .i64 n) ∧ w'.cell? ⟨w.heap.size + 1, 0, none⟩ = some (.int .i64 b) ∧ w'.cell? ⟨w.heap.size + 1, 1, none⟩ = some (.int .i64 i) ∧ w.heap.size + 1 < w'.heap.size ∧ Below w.heap.size w w')
      (first | assumption | exact addrS_drew (by assumption))
      (first
        | (go_at_call 47; refine (gFirst_any _ _ _ (by omega) (by omega)).mono ?_; rintro e w' ⟨rfl, hb'⟩; have hS' := addrS_keep hb' (by assumption))
        | (go_at_call 21; refine (words_any _ _ (by omega) (by omega)).mono ?_; rintro e w' ⟨rfl, hb'⟩; have hS' := addrS_keep hb' (by assumption)))
    go_wp2
    go_ret
    exact ⟨ret_int (by rw [e.out]; exact Ce.addr_code b _ (by omega) (by omega) (by omega) (by omega)), hS'.2.2.2.2⟩
  · have e := Lib.hid (Ce.address_out n k b i (by omega))
    have hr := Cl.rightB_no k c1
    go_enter Try.func26, Try.ntmps26
    go_wp2_with fail
    go_quiet ((go_at_call 43; exact Calls.quiet_of_same (quiet_l (right_any _ _ (by omega) (by omega)))))
    go_wp2_with fail
    go_ret
    exact ⟨ret_int e.out.symm, below_drewN hB _⟩
  · have e := Lib.hid (Ce.address_out n k b i (by omega))
    have hr := Cl.rightB_yes k c0 c1
    have d1 : decide (b < 1) = true := by simpa using c2
    go_enter Try.func26, Try.ntmps26
    go_wp2_with fail
    go_quiet ((go_at_call 43; exact Calls.quiet_of_same (quiet_l (right_any _ _ (by omega) (by omega)))))
    go_wp2_with fail
    go_ret
    exact ⟨ret_int e.out.symm, below_drewN hB _⟩
  · have e := Lib.hid (Ce.address_out n k b i (by omega))
    have hr := Cl.rightB_yes k c0 c1
    have d1 : decide (b < 1) = false := by simp; omega
    have d2 : decide (n ≤ b) = true := by simpa using c3
    go_enter Try.func26, Try.ntmps26
    go_wp2_with fail
    go_quiet ((go_at_call 43; exact Calls.quiet_of_same (quiet_l (right_any _ _ (by omega) (by omega)))))
    go_wp2_with fail
    go_ret
    exact ⟨ret_int e.out.symm, below_drewN hB _⟩
  · have e := Lib.hid (Ce.address_out n k b i (by omega))
    have hr := Cl.rightB_yes k c0 c1
    have d1 : decide (b < 1) = false := by simp; omega
    have d2 : decide (n ≤ b) = false := by simp; omega
    have d3 : decide (i < 0) = true := by simpa using c4
    go_enter Try.func26, Try.ntmps26
    go_wp2_with fail
    go_quiet ((go_at_call 43; exact Calls.quiet_of_same (quiet_l (right_any _ _ (by omega) (by omega)))))
    go_wp2_with fail
    go_ret
    exact ⟨ret_int e.out.symm, below_drewN hB _⟩
  · have e := Lib.hid (Ce.address_out n k b i (by omega))
    have hr := Cl.rightB_yes k c0 c1
    have d1 : decide (b < 1) = false := by simp; omega
    have d2 : decide (n ≤ b) = false := by simp; omega
    have d3 : decide (i < 0) = false := by simp; omega
    have d4 : decide (Cl.cells k ≤ i) = true := by simpa using c5
    go_enter Try.func26, Try.ntmps26
    go_wp2_with fail
    go_region_held3 (fun w' => w'.cell? ⟨w.heap.size, 0, none⟩ = some (.int .i64 n) ∧ w'.cell? ⟨w.heap.size + 1, 0, none⟩ = some (.int .i64 b) ∧ w'.cell? ⟨w.heap.size + 1, 1, none⟩ = some (.int .i64 i) ∧ w.heap.size + 1 < w'.heap.size ∧ Below w.heap.size w w')
      (first | assumption | (refine ⟨?_, ?_, ?_, ?_, ?_⟩ <;> first | exact hB.drew | (simp; done)))
      (first
        | (go_at_call 43; refine (right_any _ _ (by omega) (by omega)).mono ?_; rintro e w' ⟨rfl, rfl⟩)
        | (go_at_call 22; refine (cells_any _ _ (by omega) (by omega)).mono ?_; rintro e w' ⟨rfl, hb'⟩; have hS' := addrS_keep hb' (by assumption)))
    go_wp2_with fail
    go_ret
    exact ⟨ret_int e.out.symm, by first | assumption | exact (by assumption : _ ∧ _ ∧ _ ∧ _ ∧ Below w.heap.size w _).2.2.2.2⟩
theorem awake9_any (w : World) : Calls Try.prog 17 #[] w fun e w' => e = .returned (.bool true) ∧ Below w.heap.size w w' := by
  have e1 : Ce.address 4 0 2 3 = 1030 := by decide
  go_enter Try.func17, Try.ntmps17
  go_wp2_with (first
    | (go_at_call 26; refine (address_any _ _ _ _ _ (by omega) (by omega) (by omega) (by omega) (by omega) (by omega) (by omega) (by omega)).mono ?_; rintro e w1 ⟨rfl, hb⟩))
  go_ret
  exact ⟨rfl, hb⟩
end Go.Proofs.Ytchobkabndnhoaa
