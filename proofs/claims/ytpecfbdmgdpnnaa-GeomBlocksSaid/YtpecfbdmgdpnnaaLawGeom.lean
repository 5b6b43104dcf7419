/- The statements of package geom: the Go functions answer true. -/
import Derived.Test.YtpecfbdmgdpnnaaCom
namespace Go.Proofs.Ytpecfbdmgdpnnaa
open Go.RowKit
set_option linter.unusedVariables false
set_option maxHeartbeats 400000
theorem awake4_any (w : World) :
    Calls Try.prog 19 #[] w fun e w' => e = .returned (.bool true) ∧ Below w.heap.size w w' := by
  go_enter Try.func19, Try.ntmps19
  go_wp2
  go_ret
  exact ⟨rfl, ((((Below.refl _ _).alloc (Nat.le_refl _) _).alloc (by simp) _).alloc (by simp; omega) _).alloc (by simp; omega) _⟩
theorem slot_bit (i : Int) (h1 : -9223372036854775808 ≤ i) (h2 : i ≤ 9223372036854775807) : bits .and .i64 i 1 = i % 2 := by
  have e : (BitVec.ofInt 64 i &&& BitVec.ofInt 64 1).toNat = (i % 2).toNat := by
    rw [BitVec.toNat_and, BitVec.toNat_ofInt, BitVec.toNat_ofInt]
    have : ((1 : Int) % ((2 : Nat) ^ 64 : Nat)).toNat = 1 := by decide
    rw [this, Nat.and_one_is_mod]
    have : ((2 : Nat) ^ 64 : Nat) = 18446744073709551616 := by decide
    rw [this]; omega
  show IntKind.i64.wrap ((BitVec.ofInt 64 i &&& BitVec.ofInt 64 1).toNat : Int) = _
  rw [e, IntKind.wrap_i64]
  omega
theorem slotAt_any (i : Int) (w : World) (h1 : -9223372036854775808 ≤ i) (h2 : i ≤ 9223372036854775807) :
    Calls Try.prog 24 #[.int .i64 i] w fun e w' => e = .returned (.int .i64 (64 + i % 2 * 64)) ∧ w = w' := by
  have hb := slot_bit i h1 h2
  have b1 : 0 ≤ i % 2 := by omega
  have b2 : i % 2 ≤ 1 := by omega
  go_enter Try.func24, Try.ntmps24
  go_wp2
  go_ret
  exact ⟨rfl, rfl⟩
theorem rSlotAt_any (i : Int) (w : World) (h1 : -9223372036854775808 ≤ i) (h2 : i ≤ 9223372036854775807) :
    Calls Try.prog 30 #[.int .i64 i] w fun e w' => e = .returned (.int .i64 (64 + i % 2 * 64)) ∧ w = w' := by
  have ht : (i.tmod 2 == 0) = decide (i % 2 = 0) := by
    have : i.tmod 2 = 0 ↔ i % 2 = 0 := by
      rcases Int.le_total 0 i with h | h
      · rw [Int.tmod_eq_emod_of_nonneg h]
      · obtain ⟨c, rfl⟩ : ∃ c, i = -c := ⟨-i, by omega⟩
        rw [Int.neg_tmod, Int.tmod_eq_emod_of_nonneg (by omega)]; omega
    rw [Bool.eq_iff_iff]; simp [this]
  by_cases h : i % 2 = 0
  · have hf : (i.tmod 2 == 0) = true := by rw [ht]; simpa using h
    have HF := Lib.hid h
    clear ht h
    go_enter Try.func30, Try.ntmps30
    go_wp2
    go_ret
    exact ⟨ret_int (by rw [HF.out]; rfl), rfl⟩
  · have hf : (i.tmod 2 == 0) = false := by rw [ht]; simpa using h
    have HF := Lib.hid h
    clear ht h
    go_enter Try.func30, Try.ntmps30
    go_wp2
    go_ret
    exact ⟨ret_int (by have := HF.out; omega), rfl⟩
theorem walk_GeomParts (a0 a1 a2 : Int) (w : World) (w0 : (Lit.int .u8 a0).wf = true) (w1 : (Lit.int .u8 a1).wf = true) (w2 : (Lit.int .u16 a2).wf = true) :
    Calls Try.prog 4 #[.int .u8 a0, .int .u8 a1, .int .u16 a2] w fun e w' => e = .returned (.bool true) ∧ Below w.heap.size w w' := by
  have b0 := bounds_u8 w0
  have b1 := bounds_u8 w1
  have b2 := bounds_u16 w2
  clear w0 w1 w2
  obtain ⟨n, hn⟩ : ∃ n, 2 + a0 % 255 = n := ⟨_, rfl⟩
  have n0 : 2 ≤ n := by omega
  have n1 : n ≤ 256 := by omega
  obtain ⟨b, hbb⟩ : ∃ b, a1 % n = b := ⟨_, rfl⟩
  have m0 : 0 ≤ b := hbb ▸ Int.emod_nonneg a1 (show n ≠ 0 by omega)
  have m1 : b < n := hbb ▸ Int.emod_lt_of_pos a1 (show 0 < n by omega)
  obtain ⟨t, ht⟩ : ∃ t, a2 % 512 = t := ⟨_, rfl⟩
  have t0 : 0 ≤ t := by omega
  have t1 : t < 512 := by omega
  have e1 : (b * 512 + t) / 512 = b := by omega
  by_cases hb : b = 0
  · subst hb
    go_enter Try.func4, Try.ntmps4
    go_wp2_with (first
      | (go_at_call 19; refine (awake4_any _).mono ?_; rintro e w1 ⟨rfl, hb⟩)
      | go_in)
    go_ret
    exact ⟨rfl, by (repeat (first | exact hb | exact Below.refl _ _ | (refine Below.alloc ?_ (by first | exact Nat.le_refl _ | (simp; done) | (have := (hb).size; simp; omega)) _)))⟩
  · have hb2 : (b == 0) = false := by simpa using hb
    go_enter Try.func4, Try.ntmps4
    go_wp2_with (first
      | (go_at_call 19; refine (awake4_any _).mono ?_; rintro e w1 ⟨rfl, hb⟩)
      | (go_at_call 24; refine (slotAt_any _ _ (by omega) (by omega)).mono ?_; rintro e w' ⟨rfl, rfl⟩)
      | go_in)
    go_ret
    exact ⟨rfl, by (repeat (first | exact hb | exact Below.refl _ _ | (refine Below.alloc ?_ (by first | exact Nat.le_refl _ | (simp; done) | (have := (hb).size; simp; omega)) _)))⟩
theorem walk_GeomNeeds (a0 a1 a2 : Int) (w : World) (w0 : (Lit.int .i64 a0).wf = true) (w1 : (Lit.int .i64 a1).wf = true) (w2 : (Lit.int .u32 a2).wf = true) :
    Calls Try.prog 6 #[.int .i64 a0, .int .i64 a1, .int .u32 a2] w fun e w' => e = .returned (.bool true) ∧ Below w.heap.size w w' := by
  have b0 := bounds_i64 w0
  have b1 := bounds_i64 w1
  have b2 := bounds_u32 w2
  clear w0 w1 w2
  by_cases hz : a0 ≤ 0
  · go_enter Try.func6, Try.ntmps6
    go_wp2_with (first
      | (go_at_call 19; refine (awake4_any _).mono ?_; rintro e w1 ⟨rfl, hb⟩)
      | (go_at_call 24; refine (slotAt_any _ _ (by omega) (by omega)).mono ?_; rintro e w' ⟨rfl, rfl⟩)
      | (go_at_call 30; refine (rSlotAt_any _ _ (by omega) (by omega)).mono ?_; rintro e w' ⟨rfl, rfl⟩)
      | go_in)
    go_ret
    exact ⟨rfl, hb⟩
  · have e1 : ∀ h : a0 % 512 = 0, (a0 - 1) / 512 + 1 = a0 / 512 := fun h => by omega
    by_cases hm : a0 % 512 = 0
    · have hm2 : (a0 % 512 != 0) = false := by simpa using hm
      have e2 : (a0 - 1) / 512 + 1 = a0 / 512 := by omega
      clear e1 hm
      go_enter Try.func6, Try.ntmps6
      go_wp2_with (first
        | (go_at_call 19; refine (awake4_any _).mono ?_; rintro e w1 ⟨rfl, hb⟩)
        | (go_at_call 24; refine (slotAt_any _ _ (by omega) (by omega)).mono ?_; rintro e w' ⟨rfl, rfl⟩)
        | (go_at_call 30; refine (rSlotAt_any _ _ (by omega) (by omega)).mono ?_; rintro e w' ⟨rfl, rfl⟩)
        | go_in)
      go_ret
      exact ⟨rfl, hb⟩
    · have hm2 : (a0 % 512 != 0) = true := by simpa using hm
      have e2 : (a0 - 1) / 512 = a0 / 512 := by omega
      clear e1
      go_enter Try.func6, Try.ntmps6
      go_wp2_with (first
        | (go_at_call 19; refine (awake4_any _).mono ?_; rintro e w1 ⟨rfl, hb⟩)
        | (go_at_call 24; refine (slotAt_any _ _ (by omega) (by omega)).mono ?_; rintro e w' ⟨rfl, rfl⟩)
        | (go_at_call 30; refine (rSlotAt_any _ _ (by omega) (by omega)).mono ?_; rintro e w' ⟨rfl, rfl⟩)
        | go_in)
      go_ret
      exact ⟨rfl, hb⟩
def blockOf (n at_ : Int) : Int := if 0 ≤ at_ ∧ at_ < 512 * n then at_ / 512 else -1
theorem rBlockOf_any (n at_ : Int) (w : World) (h1 : 0 ≤ n) (h2 : n ≤ 1000000) (a1 : -9223372036854775808 ≤ at_) (a2 : at_ ≤ 9223372036854775807) :
    Calls Try.prog 32 #[.int .i64 n, .int .i64 at_] w fun e w' => e = .returned (.int .i64 (blockOf n at_)) ∧ w = w' := by
  go_enter Try.func32, Try.ntmps32
  go_wp2_with fail
  go_loop [5] (fun t => ∃ j : Int, 0 ≤ j ∧ j ≤ n ∧ t = .int .i64 j ∧ (at_ < 0 ∨ 512 * j ≤ at_)) (fun t => (n - intOf t).toNat)
  case atStart => exact ⟨0, by omega, by omega, rfl, by omega⟩
  case round =>
    obtain ⟨j, hj, hj2, rfl, hn⟩ := hrel
    by_cases hlt : j < n
    · by_cases hin : 512 * j ≤ at_ ∧ at_ < 512 * j + 512
      · obtain ⟨i1, i2⟩ := hin
        have e : blockOf n at_ = j := by unfold blockOf; rw [if_pos (by omega)]; omega
        have HE := Lib.hid e
        clear e hn
        go_wp2
        go_ret
        exact ⟨ret_int HE.out.symm, rfl⟩
      · have hn2 : at_ < 0 ∨ 512 * (j + 1) ≤ at_ := by omega
        have HN := Lib.hid hn2
        clear hn2 hn
        go_wp2
        all_goals first
          | (exfalso; omega)
          | (go_round
             case rel => exact ⟨j + 1, by omega, by omega, rfl, HN.out⟩
             case measure => simp [intOf]; omega)
    · have e : blockOf n at_ = -1 := by unfold blockOf; rw [if_neg (by omega)]
      have HE := Lib.hid e
      clear e hn
      go_wp2
      go_ret
      exact ⟨ret_int HE.out.symm, rfl⟩
theorem gBlockOf_any (n at_ : Int) (w : World) (h1 : 0 ≤ n) (h2 : n ≤ 1000000) (a1 : -9223372036854775808 ≤ at_) (a2 : at_ ≤ 9223372036854775807) :
    Calls Try.prog 22 #[.agg #[.int .i64 n], .int .i64 at_] w fun e w' => e = .returned (.int .i64 (blockOf n at_)) ∧ Below w.heap.size w w' := by
  by_cases c1 : at_ < 0
  · have e := Lib.hid (show blockOf n at_ = -1 by unfold blockOf; rw [if_neg (by omega)])
    go_enter Try.func22, Try.ntmps22
    go_wp2
    go_ret
    exact ⟨ret_int e.out.symm, by (repeat (first | exact Below.refl _ _ | (refine Below.alloc ?_ (by first | exact Nat.le_refl _ | (simp; done) | (simp; omega)) _)))⟩
  · by_cases c2 : at_ < 512 * n
    · have e := Lib.hid (show blockOf n at_ = at_ / 512 by unfold blockOf; rw [if_pos (by omega)])
      go_enter Try.func22, Try.ntmps22
      go_wp2
      go_ret
      exact ⟨ret_int e.out.symm, by (repeat (first | exact Below.refl _ _ | (refine Below.alloc ?_ (by first | exact Nat.le_refl _ | (simp; done) | (simp; omega)) _)))⟩
    · have e := Lib.hid (show blockOf n at_ = -1 by unfold blockOf; rw [if_neg (by omega)])
      go_enter Try.func22, Try.ntmps22
      go_wp2
      go_ret
      exact ⟨ret_int e.out.symm, by (repeat (first | exact Below.refl _ _ | (refine Below.alloc ?_ (by first | exact Nat.le_refl _ | (simp; done) | (simp; omega)) _)))⟩
theorem blockOf_bd (n at_ : Int) (h2 : n ≤ 1000000) : -1 ≤ blockOf n at_ ∧ (blockOf n at_ < n ∨ blockOf n at_ = -1) := by unfold blockOf; split <;> omega
theorem bcell {W w1 : World} (hb : Below W.heap.size W w1) : (∀ b o, b < W.heap.size → w1.cell? ⟨b, o, none⟩ = W.cell? ⟨b, o, none⟩) ∧ (∀ b o, b < W.heap.size → w1.frozen? ⟨b, o, none⟩ = W.frozen? ⟨b, o, none⟩) :=
  ⟨fun b o h => hb.cell (p := ⟨b, o, none⟩) h, fun b o h => hb.frozen (p := ⟨b, o, none⟩) h⟩
def dataB (n at_ : Int) : Bool := decide (1 ≤ blockOf n at_)
theorem gData_any (n at_ : Int) (w : World) (h1 : 0 ≤ n) (h2 : n ≤ 1000000) (a1 : -9223372036854775808 ≤ at_) (a2 : at_ ≤ 9223372036854775807) :
    Calls Try.prog 34 #[.agg #[.int .i64 n], .int .i64 at_] w fun e w' => e = .returned (.bool (dataB n at_)) ∧ Below w.heap.size w w' := by
  go_enter Try.func34, Try.ntmps34
  go_wp2_with (first
    | (go_at_call 22; refine (gBlockOf_any _ _ _ (by omega) (by omega) (by omega) (by omega)).mono ?_; rintro e w1 ⟨rfl, hb⟩))
  go_ret
  exact ⟨rfl, ((Below.refl _ _).alloc (Nat.le_refl _) _).trans (hb.mono (by simp))⟩
set_option maxHeartbeats 4000000 in
theorem walk_GeomBlocks (a0 at_ bl : Int) (w : World) (w0 : (Lit.int .u16 a0).wf = true) (w1 : (Lit.int .i64 at_).wf = true) (w2 : (Lit.int .i64 bl).wf = true) :
    Calls Try.prog 7 #[.int .u16 a0, .int .i64 at_, .int .i64 bl] w fun e w' => e = .returned (.bool true) ∧ Below w.heap.size w w' := by
  have b0 := bounds_u16 w0
  have b1 := bounds_i64 w1
  have b2 := bounds_i64 w2
  clear w0 w1 w2
  obtain ⟨n, hn⟩ : ∃ n, a0 % 600 = n := ⟨_, rfl⟩
  have n0 : 0 ≤ n := by omega
  have n1 : n < 600 := by omega
  have hbd := blockOf_bd n at_ (by omega)
  have hd : dataB n at_ = decide (1 ≤ blockOf n at_) := rfl
  have hnr : n = 0 ∨ n = 1 ∨ (2 ≤ n ∧ n ≤ 256) ∨ 256 < n := by omega
  have hbr : bl < 0 ∨ (bl = 0 ∧ 0 < n) ∨ (1 ≤ bl ∧ bl < n) ∨ (0 ≤ bl ∧ n ≤ bl) := by omega
  rcases hnr with rfl | rfl | ⟨r1, r2⟩ | r1 <;> rcases hbr with s1 | ⟨rfl, s2⟩ | ⟨s1, s2⟩ | ⟨s1, s2⟩
  all_goals first
    | (exfalso; omega)
    | skip
  all_goals
    go_enter Try.func7, Try.ntmps7
    go_wp2_with (first
      | (go_at_call 19; refine (awake4_any _).mono ?_; rintro e w1 ⟨rfl, hb⟩)
      | (go_at_call 32; refine (rBlockOf_any _ _ _ (by omega) (by omega) (by omega) (by omega)).mono ?_; rintro e w' ⟨rfl, rfl⟩)
      | (go_at_call 22; refine (gBlockOf_any _ _ _ (by omega) (by omega) (by omega) (by omega)).mono ?_; rintro e w2 ⟨rfl, hb2⟩; obtain ⟨hc2, hf2⟩ := bcell hb2; have hz2 : w1.heap.size < w2.heap.size := by have := hb2.size; first | (simp at this; omega) | omega)
      | (go_at_call 34; refine (gData_any _ _ _ (by omega) (by omega) (by omega) (by omega)).mono ?_; rintro e w3 ⟨rfl, hb3⟩; obtain ⟨hc3, hf3⟩ := bcell hb3; have hz3 : w1.heap.size < w3.heap.size := by have := hb3.size; first | omega | (simp at this; omega))
      | go_in)
    all_goals
      go_ret
      refine ⟨ret_bool (by first | rfl | (rw [beq_iff_eq]; omega)), ?_⟩
      have hz := hb.size
      have k1 := hb2.mono (B' := w.heap.size) (by first | omega | (simp; omega))
      have k2 := hb3.mono (B' := w.heap.size) (by first | omega | (simp; omega))
      refine Below.trans hb ?_
      repeat (first
        | exact Below.refl _ _
        | exact k1
        | exact k2
        | (refine Below.trans ?_ k2)
        | (refine Below.trans ?_ k1)
        | (refine Below.alloc ?_ (by first | omega | (simp; omega)) _))
end Go.Proofs.Ytpecfbdmgdpnnaa
