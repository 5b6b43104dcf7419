/- Classes and blocks of objects; the walk of OheadTells. -/
import Derived.Test.YthbkfgafdjcicaaOhead2
import Derived.Test.YthbkfgafdjcicaaBits3
namespace Go.Proofs.Ythbkfgafdjcicaa
open Go.RowKit
set_option linter.unusedVariables false
set_option maxHeartbeats 1000000
set_option maxRecDepth 100000
theorem oSmall_any (p d : Int) (w : World) (h1 : -9223372036854775808 ≤ p) (h2 : p ≤ 9223372036854775807) (h3 : -9223372036854775808 ≤ d) (h4 : d ≤ 9223372036854775807) :
    Calls Try.prog 36 #[.agg #[.int .i64 p, .int .i64 d]] w fun e w' => e = .returned (.tuple #[.int .i64 (Cl.ofK (Cl.size p d)), .bool (Cl.ofB (Cl.size p d))]) ∧ Below w.heap.size w w' := by
  have hs := Cl.size_bd p d
  have hK := box2 w (.int .i64 p) (.int .i64 d) 55
  go_enter Try.func36, Try.ntmps36
  go_wp2_with (first
      | (go_at_call 37; refine (oSize_any _ _ _ (by omega) (by omega) (by omega) (by omega)).mono ?_; rintro e w' ⟨rfl, hb'⟩; first | (replace hK := keep2 hb' hK) | (replace hK := keep2 hb' (keepA2 _ hK)) | (replace hK := keep2 hb' (keepA2 _ (keepA2 _ hK))) | (replace hK := keep2 hb' (keepD2 hK)); clear hb')
      | (go_at_call 24; refine (of_any _ _ (by omega) (by omega)).mono ?_; rintro e w' ⟨rfl, hb'⟩; first | (replace hK := keep2 hb' hK) | (replace hK := keep2 hb' (keepA2 _ hK)) | (replace hK := keep2 hb' (keepA2 _ (keepA2 _ hK))) | (replace hK := keep2 hb' (keepD2 hK)); clear hb'))
  go_ret2
  exact ⟨rfl, hK.2.2⟩
theorem rOClass_any (p d : Int) (w : World) (h1 : -9223372036854775808 ≤ p) (h2 : p ≤ 9223372036854775807) (h3 : -9223372036854775808 ≤ d) (h4 : d ≤ 9223372036854775807) :
    Calls Try.prog 39 #[.agg #[.int .i64 p, .int .i64 d]] w fun e w' => e = .returned (.int .i64 (Cl.ofR (Cl.size p d))) ∧ Below w.heap.size w w' := by
  have hs := Cl.size_bd p d
  have hK := box2 w (.int .i64 p) (.int .i64 d) 56
  go_enter Try.func39, Try.ntmps39
  go_wp2_with (first
      | (go_at_call 38; refine (rOSize_any _ _ _ (by omega) (by omega) (by omega) (by omega)).mono ?_; rintro e w' ⟨rfl, hb'⟩; first | (replace hK := keep2 hb' hK) | (replace hK := keep2 hb' (keepA2 _ hK)) | (replace hK := keep2 hb' (keepA2 _ (keepA2 _ hK))) | (replace hK := keep2 hb' (keepD2 hK)); clear hb')
      | (go_at_call 25; refine (rOf_any _ _ (by omega) (by omega)).mono ?_; rintro e w' ⟨rfl, hb'⟩; first | (replace hK := keep2 hb' hK) | (replace hK := keep2 hb' (keepA2 _ hK)) | (replace hK := keep2 hb' (keepA2 _ (keepA2 _ hK))) | (replace hK := keep2 hb' (keepD2 hK)); clear hb'))
  go_ret
  exact ⟨rfl, hK.2.2⟩
def Oh.need (n : Int) : Int := if n < 1 then 0 else (n + 511) / 512
theorem rNeed_any (n : Int) (w : World) (h1 : -9223372036854775808 ≤ n) (h2 : n ≤ 9223372036854775807) :
    Calls Try.prog 64 #[.int .i64 n] w fun e w' => e = .returned (.int .i64 (Oh.need n)) ∧ w = w' := by
  by_cases c : n < 1
  · go_enter Try.func64, Try.ntmps64
    go_wp2
    go_ret
    exact ⟨ret_int (by unfold Oh.need; rw [if_pos c]), rfl⟩
  · have c1 : 1 ≤ n := by omega
    by_cases c2 : n % 512 = 0
    · have c3 : (n % 512 != 0) = false := by simp [c2]
      go_enter Try.func64, Try.ntmps64
      go_wp2
      go_ret
      exact ⟨ret_int (by unfold Oh.need; rw [if_neg (by omega)]; omega), rfl⟩
    · have c3 : (n % 512 != 0) = true := by simp [c2]
      go_enter Try.func64, Try.ntmps64
      go_wp2
      go_ret
      exact ⟨ret_int (by unfold Oh.need; rw [if_neg (by omega)]; omega), rfl⟩
theorem Oh.up_need (n : Int) (h : 0 ≤ n) (h2 : n ≤ 100000) : Bt.up n 512 = Oh.need n := by
  unfold Oh.need
  by_cases c : n < 1
  · rw [if_pos c, Bt.up_out n 512 (by omega)]
  · unfold Bt.up; rw [if_neg c, if_neg (by omega)]; omega
def Oh.blocks (p d : Int) : Int := if Cl.ofB (Cl.size p d) then 0 else Oh.need (Cl.size p d)
theorem Oh.blocks_small (p d : Int) (h : Cl.ofB (Cl.size p d) = true) : Oh.blocks p d = 0 := by unfold Oh.blocks; rw [if_pos h]
theorem Oh.blocks_large (p d : Int) (h : Cl.ofB (Cl.size p d) = false) : Oh.blocks p d = Oh.need (Cl.size p d) := by unfold Oh.blocks; rw [if_neg (by simp [h])]
theorem Oh.ofR_le (n : Int) (h : Cl.ofB n = true) : decide (0 ≤ Cl.ofR n) = true ∧ Cl.ofR n = Cl.ofK n ∧ 0 ≤ Cl.ofK n := by
  have e : 1 ≤ n ∧ n ≤ 256 := by unfold Cl.ofB at h; simpa using h
  have a := Cl.ofR_in n e.1 e.2
  have b := (Cl.ofK_bd n).1
  refine ⟨by rw [a]; simpa using b, a, b⟩
theorem Oh.ofR_lt (n : Int) (h : Cl.ofB n = false) : decide (0 ≤ Cl.ofR n) = false ∧ Cl.ofR n = -1 := by
  have e : ¬ (1 ≤ n ∧ n ≤ 256) := by unfold Cl.ofB at h; simpa using h
  have a := Cl.ofR_out n (by omega)
  rw [a]; exact ⟨by decide, rfl⟩
theorem oBlocks_any (p d : Int) (w : World) (h1 : -9223372036854775808 ≤ p) (h2 : p ≤ 9223372036854775807) (h3 : -9223372036854775808 ≤ d) (h4 : d ≤ 9223372036854775807) :
    Calls Try.prog 40 #[.agg #[.int .i64 p, .int .i64 d]] w fun e w' => e = .returned (.int .i64 (Oh.blocks p d)) ∧ Below w.heap.size w w' := by
  have hs := Cl.size_bd p d
  have hK := box2 w (.int .i64 p) (.int .i64 d) 55
  cases hb : Cl.ofB (Cl.size p d)
  · have eb := Lib.hid ((Oh.blocks_large p d hb).trans (Oh.up_need _ (by omega) (by omega)).symm)
    go_enter Try.func40, Try.ntmps40
    go_wp2_with (first
      | (go_at_call 36; refine (oSmall_any _ _ _ (by omega) (by omega) (by omega) (by omega)).mono ?_; rintro e w' ⟨rfl, hb'⟩; first | (replace hK := keep2 hb' hK) | (replace hK := keep2 hb' (keepA2 _ hK)) | (replace hK := keep2 hb' (keepA2 _ (keepA2 _ hK))) | (replace hK := keep2 hb' (keepD2 hK)); clear hb')
      | (go_at_call 37; refine (oSize_any _ _ _ (by omega) (by omega) (by omega) (by omega)).mono ?_; rintro e w' ⟨rfl, hb'⟩; first | (replace hK := keep2 hb' hK) | (replace hK := keep2 hb' (keepA2 _ hK)) | (replace hK := keep2 hb' (keepA2 _ (keepA2 _ hK))) | (replace hK := keep2 hb' (keepD2 hK)); clear hb')
      | (go_at_call 63; refine (up_any _ _ _ (by omega) (by omega) (by omega) (by omega)).mono ?_; rintro e w' ⟨rfl, rfl⟩))
    go_ret
    exact ⟨ret_int eb.out.symm, hK.2.2⟩
  · have eb := Lib.hid (Oh.blocks_small p d hb)
    go_enter Try.func40, Try.ntmps40
    go_wp2_with (first
      | (go_at_call 36; refine (oSmall_any _ _ _ (by omega) (by omega) (by omega) (by omega)).mono ?_; rintro e w' ⟨rfl, hb'⟩; first | (replace hK := keep2 hb' hK) | (replace hK := keep2 hb' (keepA2 _ hK)) | (replace hK := keep2 hb' (keepA2 _ (keepA2 _ hK))) | (replace hK := keep2 hb' (keepD2 hK)); clear hb')
      | (go_at_call 37; refine (oSize_any _ _ _ (by omega) (by omega) (by omega) (by omega)).mono ?_; rintro e w' ⟨rfl, hb'⟩; first | (replace hK := keep2 hb' hK) | (replace hK := keep2 hb' (keepA2 _ hK)) | (replace hK := keep2 hb' (keepA2 _ (keepA2 _ hK))) | (replace hK := keep2 hb' (keepD2 hK)); clear hb')
      | (go_at_call 63; refine (up_any _ _ _ (by omega) (by omega) (by omega) (by omega)).mono ?_; rintro e w' ⟨rfl, rfl⟩))
    go_ret
    exact ⟨ret_int eb.out.symm, hK.2.2⟩
theorem rOBlocks_any (p d : Int) (w : World) (h1 : -9223372036854775808 ≤ p) (h2 : p ≤ 9223372036854775807) (h3 : -9223372036854775808 ≤ d) (h4 : d ≤ 9223372036854775807) :
    Calls Try.prog 41 #[.agg #[.int .i64 p, .int .i64 d]] w fun e w' => e = .returned (.int .i64 (Oh.blocks p d)) ∧ Below w.heap.size w w' := by
  have hs := Cl.size_bd p d
  have hK := box2 w (.int .i64 p) (.int .i64 d) 56
  cases hb : Cl.ofB (Cl.size p d)
  · have eb := Lib.hid (Oh.blocks_large p d hb)
    have er := (Oh.ofR_lt _ hb).2
    go_enter Try.func41, Try.ntmps41
    go_wp2_with (first
      | (go_at_call 39; refine (rOClass_any _ _ _ (by omega) (by omega) (by omega) (by omega)).mono ?_; rintro e w' ⟨rfl, hb'⟩; first | (replace hK := keep2 hb' hK) | (replace hK := keep2 hb' (keepA2 _ hK)) | (replace hK := keep2 hb' (keepA2 _ (keepA2 _ hK))) | (replace hK := keep2 hb' (keepD2 hK)); clear hb')
      | (go_at_call 38; refine (rOSize_any _ _ _ (by omega) (by omega) (by omega) (by omega)).mono ?_; rintro e w' ⟨rfl, hb'⟩; first | (replace hK := keep2 hb' hK) | (replace hK := keep2 hb' (keepA2 _ hK)) | (replace hK := keep2 hb' (keepA2 _ (keepA2 _ hK))) | (replace hK := keep2 hb' (keepD2 hK)); clear hb')
      | (go_at_call 64; refine (rNeed_any _ _ (by omega) (by omega)).mono ?_; rintro e w' ⟨rfl, rfl⟩))
    go_ret
    exact ⟨ret_int eb.out.symm, hK.2.2⟩
  · have eb := Lib.hid (Oh.blocks_small p d hb)
    obtain ⟨er, er2, er3⟩ := Oh.ofR_le _ hb
    go_enter Try.func41, Try.ntmps41
    go_wp2_with (first
      | (go_at_call 39; refine (rOClass_any _ _ _ (by omega) (by omega) (by omega) (by omega)).mono ?_; rintro e w' ⟨rfl, hb'⟩; first | (replace hK := keep2 hb' hK) | (replace hK := keep2 hb' (keepA2 _ hK)) | (replace hK := keep2 hb' (keepA2 _ (keepA2 _ hK))) | (replace hK := keep2 hb' (keepD2 hK)); clear hb')
      | (go_at_call 38; refine (rOSize_any _ _ _ (by omega) (by omega) (by omega) (by omega)).mono ?_; rintro e w' ⟨rfl, hb'⟩; first | (replace hK := keep2 hb' hK) | (replace hK := keep2 hb' (keepA2 _ hK)) | (replace hK := keep2 hb' (keepA2 _ (keepA2 _ hK))) | (replace hK := keep2 hb' (keepD2 hK)); clear hb')
      | (go_at_call 64; refine (rNeed_any _ _ (by omega) (by omega)).mono ?_; rintro e w' ⟨rfl, rfl⟩))
    go_ret
    exact ⟨ret_int eb.out.symm, hK.2.2⟩
end Go.Proofs.Ythbkfgafdjcicaa
