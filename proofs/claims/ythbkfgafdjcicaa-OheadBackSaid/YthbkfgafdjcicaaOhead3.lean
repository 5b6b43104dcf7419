/- The walk of OheadBack. -/
import Derived.Test.YthbkfgafdjcicaaOhead2
namespace Go.Proofs.Ythbkfgafdjcicaa
open Go.RowKit
set_option linter.unusedVariables false
set_option maxHeartbeats 1000000
set_option maxRecDepth 100000
theorem Oh.dec0 (at_ : Int) : Oh.decE 0 at_ = 25 ∨ Oh.decE 0 at_ = 26 := by
  cases ho : Sl.openB 0 at_
  · exact .inl (Oh.dec_closed 0 at_ ho).1
  · refine .inr (Oh.dec_other 0 at_ ho ?_).1
    have e : Oh.rawP 0 = 0 ∧ Oh.rawD 0 = 0 := by decide
    rw [e.1, e.2, Oh.enc_good 0 0 at_ (by omega) (by omega) (by omega) (by omega)]
    intro h
    have := Sl.seal_mod (165 + 256 * 0 + 16384 * 0) at_ (by omega) (by omega)
    rw [h] at this
    omega
theorem walk_OheadBack (at_ p d : Int) (w : World) (w0 : (Lit.int .u32 at_).wf = true) (w1 : (Lit.int .i64 p).wf = true) (w2 : (Lit.int .i64 d).wf = true) :
    Calls Try.prog 12 #[.int .u32 at_, .agg #[.int .i64 p, .int .i64 d]] w fun e w' => e = .returned (.bool true) ∧ Below w.heap.size w w' := by
  have b0 := bounds_u32 w0
  have b1 := bounds_i64 w1
  have b2 := bounds_i64 w2
  clear w0 w1 w2
  have hK := box2 w (.int .i64 p) (.int .i64 d) 55
  have hen := Oh.enc_bd p d at_
  rcases (show (p < 0 ∨ p > 63 ∨ d < 0 ∨ d > 16384) ∨ (0 ≤ p ∧ p ≤ 63 ∧ 0 ≤ d ∧ d ≤ 16384) from by omega) with c | ⟨c1, c2, c3, c4⟩
  · have es := (Cl.size_bad p d c).1
    have e0 := Oh.enc_bad p d at_ c
    have ed : (Oh.decE 0 at_ != 0) = true := by rcases Oh.dec0 at_ with h | h <;> rw [h] <;> decide
    clear c
    go_enter Try.func12, Try.ntmps12
    go_wp2_with (first
      | (go_at_call 34; refine (awake8_any _).mono ?_; rintro e w' ⟨rfl, hb'⟩; first | (replace hK := keep2 hb' hK) | (replace hK := keep2 hb' (keepA2 _ hK)) | (replace hK := keep2 hb' (keepA2 _ (keepA2 _ hK))) | (replace hK := keep2 hb' (keepD2 hK)); clear hb')
      | (go_at_call 46; refine (oEnc_any _ _ _ _ (by omega) (by omega) (by omega) (by omega) (by omega) (by omega)).mono ?_; rintro e w' ⟨rfl, hb'⟩; first | (replace hK := keep2 hb' hK) | (replace hK := keep2 hb' (keepA2 _ hK)) | (replace hK := keep2 hb' (keepA2 _ (keepA2 _ hK))) | (replace hK := keep2 hb' (keepD2 hK)); clear hb'))
    refine (oDec_any _ _ _ (by omega) (by omega) (by omega) (by omega)).mono ?_
    rintro e v2 ⟨rfl, hb2⟩
    replace hK := keep2 hb2 hK
    have hK4 := grow2_2 (.int .i64 (Oh.decP 0 at_)) (.int .i64 (Oh.decD 0 at_)) 55 hK
    clear hK
    have hK := hK4
    clear hK4
    go_wp2_with (first
      | (go_at_call 37; refine (oSize_any _ _ _ (by omega) (by omega) (by omega) (by omega)).mono ?_; rintro e w' ⟨rfl, hb'⟩; first | (replace hK := keep4 hb' hK) | (replace hK := keep4 hb' (keepA4 _ hK)) | (replace hK := keep4 hb' (keepA4 _ (keepA4 _ hK))) | (replace hK := keep4 hb' (keepD4 hK)); clear hb'))
    go_ret
    exact ⟨ret_bool (by first | rfl | simp), (by assumption : _ ∧ _ ∧ _ ∧ _ ∧ Below _ _ _).2.2.2.2⟩
  · have es := (Cl.size_good p d c1 c2 c3 c4).1
    have ed := Oh.dec_enc p d at_ c1 c2 c3 c4
    obtain ⟨ed1, ed2, ed3⟩ := ed
    go_enter Try.func12, Try.ntmps12
    go_wp2_with (first
      | (go_at_call 34; refine (awake8_any _).mono ?_; rintro e w' ⟨rfl, hb'⟩; first | (replace hK := keep2 hb' hK) | (replace hK := keep2 hb' (keepA2 _ hK)) | (replace hK := keep2 hb' (keepA2 _ (keepA2 _ hK))) | (replace hK := keep2 hb' (keepD2 hK)); clear hb')
      | (go_at_call 46; refine (oEnc_any _ _ _ _ (by omega) (by omega) (by omega) (by omega) (by omega) (by omega)).mono ?_; rintro e w' ⟨rfl, hb'⟩; first | (replace hK := keep2 hb' hK) | (replace hK := keep2 hb' (keepA2 _ hK)) | (replace hK := keep2 hb' (keepA2 _ (keepA2 _ hK))) | (replace hK := keep2 hb' (keepD2 hK)); clear hb'))
    refine (oDec_any _ _ _ (by omega) (by omega) (by omega) (by omega)).mono ?_
    rw [ed1, ed2, ed3]
    clear ed1 ed2 ed3
    rintro e v2 ⟨rfl, hb2⟩
    replace hK := keep2 hb2 hK
    have hK4 := grow2_2 (.int .i64 p) (.int .i64 d) 55 hK
    clear hK
    have hK := hK4
    clear hK4
    have g1 : (1 + p + d == 0) = false := by simp; omega
    rcases (show p = 0 ∨ 1 ≤ p from by omega) with hp | hp <;> rcases (show d = 0 ∨ 1 ≤ d from by omega) with hd | hd
    · subst hp hd
      have i1 := Oh.inB_no (0 - 1) 0 (by omega)
      have i2 := Oh.inB_no 0 0 (by omega)
      go_wp2_with (first
      | (go_at_call 37; refine (oSize_any _ _ _ (by omega) (by omega) (by omega) (by omega)).mono ?_; rintro e w' ⟨rfl, hb'⟩; first | (replace hK := keep4 hb' hK) | (replace hK := keep4 hb' (keepA4 _ hK)) | (replace hK := keep4 hb' (keepA4 _ (keepA4 _ hK))) | (replace hK := keep4 hb' (keepD4 hK)); clear hb')
      | (go_at_call 42; refine (oPtr_any _ _ _ _ (by omega) (by omega) (by omega) (by omega) (by omega) (by omega)).mono ?_; rintro e w' ⟨rfl, hb'⟩; first | (replace hK := keep4 hb' hK) | (replace hK := keep4 hb' (keepA4 _ hK)) | (replace hK := keep4 hb' (keepA4 _ (keepA4 _ hK))) | (replace hK := keep4 hb' (keepD4 hK)); clear hb')
      | (go_at_call 43; refine (oData_any _ _ _ _ (by omega) (by omega) (by omega) (by omega) (by omega) (by omega)).mono ?_; rintro e w' ⟨rfl, hb'⟩; first | (replace hK := keep4 hb' hK) | (replace hK := keep4 hb' (keepA4 _ hK)) | (replace hK := keep4 hb' (keepA4 _ (keepA4 _ hK))) | (replace hK := keep4 hb' (keepD4 hK)); clear hb'))
      go_ret
      exact ⟨by first | rfl | exact ret_bool rfl | (apply ret_bool; simp; done) | (apply ret_bool; simp; omega), (by assumption : _ ∧ _ ∧ _ ∧ _ ∧ Below _ _ _).2.2.2.2⟩
    · subst hp
      have i1 := Oh.inB_no (0 - 1) 0 (by omega)
      have i2 := Oh.inB_yes 0 d (by omega) (by omega)
      have i3 := Oh.inB_yes (d - 1) d (by omega) (by omega)
      go_wp2_with (first
      | (go_at_call 37; refine (oSize_any _ _ _ (by omega) (by omega) (by omega) (by omega)).mono ?_; rintro e w' ⟨rfl, hb'⟩; first | (replace hK := keep4 hb' hK) | (replace hK := keep4 hb' (keepA4 _ hK)) | (replace hK := keep4 hb' (keepA4 _ (keepA4 _ hK))) | (replace hK := keep4 hb' (keepD4 hK)); clear hb')
      | (go_at_call 42; refine (oPtr_any _ _ _ _ (by omega) (by omega) (by omega) (by omega) (by omega) (by omega)).mono ?_; rintro e w' ⟨rfl, hb'⟩; first | (replace hK := keep4 hb' hK) | (replace hK := keep4 hb' (keepA4 _ hK)) | (replace hK := keep4 hb' (keepA4 _ (keepA4 _ hK))) | (replace hK := keep4 hb' (keepD4 hK)); clear hb')
      | (go_at_call 43; refine (oData_any _ _ _ _ (by omega) (by omega) (by omega) (by omega) (by omega) (by omega)).mono ?_; rintro e w' ⟨rfl, hb'⟩; first | (replace hK := keep4 hb' hK) | (replace hK := keep4 hb' (keepA4 _ hK)) | (replace hK := keep4 hb' (keepA4 _ (keepA4 _ hK))) | (replace hK := keep4 hb' (keepD4 hK)); clear hb'))
      go_ret
      exact ⟨by first | rfl | exact ret_bool rfl | (apply ret_bool; simp; done) | (apply ret_bool; simp; omega), (by assumption : _ ∧ _ ∧ _ ∧ _ ∧ Below _ _ _).2.2.2.2⟩
    · subst hd
      have i1 := Oh.inB_yes (p - 1) p (by omega) (by omega)
      have i2 := Oh.inB_no 0 0 (by omega)
      have i3 := Oh.inB_no (0 - 1) 0 (by omega)
      go_wp2_with (first
      | (go_at_call 37; refine (oSize_any _ _ _ (by omega) (by omega) (by omega) (by omega)).mono ?_; rintro e w' ⟨rfl, hb'⟩; first | (replace hK := keep4 hb' hK) | (replace hK := keep4 hb' (keepA4 _ hK)) | (replace hK := keep4 hb' (keepA4 _ (keepA4 _ hK))) | (replace hK := keep4 hb' (keepD4 hK)); clear hb')
      | (go_at_call 42; refine (oPtr_any _ _ _ _ (by omega) (by omega) (by omega) (by omega) (by omega) (by omega)).mono ?_; rintro e w' ⟨rfl, hb'⟩; first | (replace hK := keep4 hb' hK) | (replace hK := keep4 hb' (keepA4 _ hK)) | (replace hK := keep4 hb' (keepA4 _ (keepA4 _ hK))) | (replace hK := keep4 hb' (keepD4 hK)); clear hb')
      | (go_at_call 43; refine (oData_any _ _ _ _ (by omega) (by omega) (by omega) (by omega) (by omega) (by omega)).mono ?_; rintro e w' ⟨rfl, hb'⟩; first | (replace hK := keep4 hb' hK) | (replace hK := keep4 hb' (keepA4 _ hK)) | (replace hK := keep4 hb' (keepA4 _ (keepA4 _ hK))) | (replace hK := keep4 hb' (keepD4 hK)); clear hb'))
      go_ret
      exact ⟨by first | rfl | exact ret_bool rfl | (apply ret_bool; simp; done) | (apply ret_bool; simp; omega), (by assumption : _ ∧ _ ∧ _ ∧ _ ∧ Below _ _ _).2.2.2.2⟩
    · have i1 := Oh.inB_yes (p - 1) p (by omega) (by omega)
      have i2 := Oh.inB_yes 0 d (by omega) (by omega)
      have i3 := Oh.inB_yes (d - 1) d (by omega) (by omega)
      go_wp2_with (first
      | (go_at_call 37; refine (oSize_any _ _ _ (by omega) (by omega) (by omega) (by omega)).mono ?_; rintro e w' ⟨rfl, hb'⟩; first | (replace hK := keep4 hb' hK) | (replace hK := keep4 hb' (keepA4 _ hK)) | (replace hK := keep4 hb' (keepA4 _ (keepA4 _ hK))) | (replace hK := keep4 hb' (keepD4 hK)); clear hb')
      | (go_at_call 42; refine (oPtr_any _ _ _ _ (by omega) (by omega) (by omega) (by omega) (by omega) (by omega)).mono ?_; rintro e w' ⟨rfl, hb'⟩; first | (replace hK := keep4 hb' hK) | (replace hK := keep4 hb' (keepA4 _ hK)) | (replace hK := keep4 hb' (keepA4 _ (keepA4 _ hK))) | (replace hK := keep4 hb' (keepD4 hK)); clear hb')
      | (go_at_call 43; refine (oData_any _ _ _ _ (by omega) (by omega) (by omega) (by omega) (by omega) (by omega)).mono ?_; rintro e w' ⟨rfl, hb'⟩; first | (replace hK := keep4 hb' hK) | (replace hK := keep4 hb' (keepA4 _ hK)) | (replace hK := keep4 hb' (keepA4 _ (keepA4 _ hK))) | (replace hK := keep4 hb' (keepD4 hK)); clear hb'))
      go_ret
      exact ⟨by first | rfl | exact ret_bool rfl | (apply ret_bool; simp; done) | (apply ret_bool; simp; omega), (by assumption : _ ∧ _ ∧ _ ∧ _ ∧ Below _ _ _).2.2.2.2⟩
end Go.Proofs.Ythbkfgafdjcicaa
