/- What the smaller functions of package ohead, and those of its reference, compute; its statements. -/
import Derived.Test.YthbkfgafdjcicaaOhead1
import Derived.Test.YthbkfgafdjcicaaMem2
namespace Go.Proofs.Ythbkfgafdjcicaa
open Go.RowKit
set_option linter.unusedVariables false
set_option maxHeartbeats 1000000
set_option maxRecDepth 100000
theorem oData_any (p d i : Int) (w : World) (p1 : 0 ≤ p) (p2 : p ≤ 63) (d1 : 0 ≤ d) (d2 : d ≤ 16384) (h1 : -100000 ≤ i) (h2 : i ≤ 100000) :
    Calls Try.prog 43 #[.agg #[.int .i64 p, .int .i64 d], .int .i64 i] w fun e w' => e = .returned (.tuple #[.int .i64 (1 + p + i), .bool (Oh.inB i d)]) ∧ Below w.heap.size w w' := by
  have hK := box2 w (.int .i64 p) (.int .i64 d) 55
  rcases (show i < 0 ∨ (0 ≤ i ∧ i < d) ∨ (0 ≤ i ∧ d ≤ i) from by omega) with c | ⟨c1, c2⟩ | ⟨c1, c2⟩
  · have e := Lib.hid (Oh.inB_no i d (.inl c))
    have g : decide (0 ≤ i) = false := by simp; omega
    go_enter Try.func43, Try.ntmps43
    go_wp2_with fail
    go_quiet (fail)
    go_wp2_with fail
    go_ret2
    exact ⟨ret_ib rfl e.out.symm, below_drewN hK.2.2 _⟩
  · have e := Lib.hid (Oh.inB_yes i d c1 c2)
    go_enter Try.func43, Try.ntmps43
    go_wp2_with fail
    go_quiet (fail)
    go_wp2_with fail
    go_ret2
    exact ⟨ret_ib rfl (by rw [e.out]), below_drewN hK.2.2 _⟩
  · have e := Lib.hid (Oh.inB_no i d (.inr c2))
    go_enter Try.func43, Try.ntmps43
    go_wp2_with fail
    go_quiet (fail)
    go_wp2_with fail
    go_ret2
    exact ⟨ret_ib rfl (by rw [e.out]; first | rfl | (simp; done) | (simp; omega)), below_drewN hK.2.2 _⟩
theorem oPtr_any (p d i : Int) (w : World) (p1 : 0 ≤ p) (p2 : p ≤ 63) (d1 : 0 ≤ d) (d2 : d ≤ 16384) (h1 : -100000 ≤ i) (h2 : i ≤ 100000) :
    Calls Try.prog 42 #[.agg #[.int .i64 p, .int .i64 d], .int .i64 i] w fun e w' => e = .returned (.tuple #[.int .i64 (1 + i), .bool (Oh.inB i p)]) ∧ Below w.heap.size w w' := by
  have hK := box2 w (.int .i64 p) (.int .i64 d) 55
  rcases (show i < 0 ∨ (0 ≤ i ∧ i < p) ∨ (0 ≤ i ∧ p ≤ i) from by omega) with c | ⟨c1, c2⟩ | ⟨c1, c2⟩
  · have e := Lib.hid (Oh.inB_no i p (.inl c))
    have g : decide (0 ≤ i) = false := by simp; omega
    go_enter Try.func42, Try.ntmps42
    go_wp2_with fail
    go_quiet (fail)
    go_wp2_with fail
    go_ret2
    exact ⟨ret_ib rfl e.out.symm, below_drewN hK.2.2 _⟩
  · have e := Lib.hid (Oh.inB_yes i p c1 c2)
    go_enter Try.func42, Try.ntmps42
    go_wp2_with fail
    go_quiet (fail)
    go_wp2_with fail
    go_ret2
    exact ⟨ret_ib rfl (by rw [e.out]), below_drewN hK.2.2 _⟩
  · have e := Lib.hid (Oh.inB_no i p (.inr c2))
    go_enter Try.func42, Try.ntmps42
    go_wp2_with fail
    go_quiet (fail)
    go_wp2_with fail
    go_ret2
    exact ⟨ret_ib rfl (by rw [e.out]; first | rfl | (simp; done) | (simp; omega)), below_drewN hK.2.2 _⟩
theorem awake8_any (w : World) : Calls Try.prog 34 #[] w fun e w' => e = .returned (.bool true) ∧ Below w.heap.size w w' := by
  have e1 : Cl.size 2 3 = 6 := by decide
  have e2 : Oh.inB 0 3 = true := by decide
  have hK := box2 w (.int .i64 2) (.int .i64 3) 55
  go_enter Try.func34, Try.ntmps34
  go_wp2_with fail
  refine (oData_any 2 3 0 _ (by omega) (by omega) (by omega) (by omega) (by omega) (by omega)).mono ?_
  rintro e w1 ⟨rfl, hb'⟩
  replace hK := keep2 hb' hK
  go_wp2_with (first
      | (go_at_call 37; refine (oSize_any _ _ _ (by omega) (by omega) (by omega) (by omega)).mono ?_; rintro e w' ⟨rfl, hb'⟩; first | (replace hK := keep2 hb' hK) | (replace hK := keep2 hb' (keepA2 _ hK)) | (replace hK := keep2 hb' (keepA2 _ (keepA2 _ hK))) | (replace hK := keep2 hb' (keepD2 hK)); clear hb'))
  go_ret
  exact ⟨rfl, hK.2.2⟩
theorem walk_OheadCodes (at_ p d x : Int) (w : World) (w0 : (Lit.int .i64 at_).wf = true) (w1 : (Lit.int .i64 p).wf = true) (w2 : (Lit.int .i64 d).wf = true) (w3 : (Lit.int .u64 x).wf = true) :
    Calls Try.prog 11 #[.int .i64 at_, .agg #[.int .i64 p, .int .i64 d], .int .u64 x] w fun e w' => e = .returned (.bool true) ∧ Below w.heap.size w w' := by
  have b0 := bounds_i64 w0
  have b1 := bounds_i64 w1
  have b2 := bounds_i64 w2
  have b3 := bounds_u64 w3
  clear w0 w1 w2 w3
  have hK := box2 w (.int .i64 p) (.int .i64 d) 55
  go_enter Try.func11, Try.ntmps11
  go_wp2_with (first
      | (go_at_call 34; refine (awake8_any _).mono ?_; rintro e w' ⟨rfl, hb'⟩; first | (replace hK := keep2 hb' hK) | (replace hK := keep2 hb' (keepA2 _ hK)) | (replace hK := keep2 hb' (keepA2 _ (keepA2 _ hK))) | (replace hK := keep2 hb' (keepD2 hK)); clear hb'))
  refine (oDec_any _ _ _ (by omega) (by omega) (by omega) (by omega)).mono ?_
  rintro e v2 ⟨rfl, hb2⟩
  replace hK := keep2 hb2 hK
  go_wp2_with fail
  have hK4 := grow2_2 (.int .i64 (Oh.decP x at_)) (.int .i64 (Oh.decD x at_)) 55 hK
  refine (rODec_any _ _ _ (by omega) (by omega) (by omega) (by omega)).mono ?_
  rintro e v3 ⟨rfl, hb3⟩
  replace hK4 := keep4 hb3 hK4
  clear hK
  go_wp2_with fail
  have hK6 := grow2_4 (.int .i64 (Oh.decP x at_)) (.int .i64 (Oh.decD x at_)) 56 hK4
  clear hK4
  go_region_held3 (fun W => W.cell? ⟨w.heap.size, 0, none⟩ = some (.int .i64 p) ∧ W.cell? ⟨w.heap.size, 1, none⟩ = some (.int .i64 d) ∧ W.cell? ⟨v2.heap.size, 0, none⟩ = some (.int .i64 (Oh.decP x at_)) ∧ W.cell? ⟨v2.heap.size, 1, none⟩ = some (.int .i64 (Oh.decD x at_)) ∧ W.cell? ⟨v3.heap.size, 0, none⟩ = some (.int .i64 (Oh.decP x at_)) ∧ W.cell? ⟨v3.heap.size, 1, none⟩ = some (.int .i64 (Oh.decD x at_)) ∧ Below w.heap.size w W)
    (first | assumption | exact keepD6 hK6)
    (first
      | (go_at_call 46; refine (oEnc_any _ _ _ _ (by omega) (by omega) (by omega) (by omega) (by omega) (by omega)).mono ?_; rintro e w' ⟨rfl, hb'⟩; have hS' := keep6 hb' (by assumption))
      | (go_at_call 47; refine (rOEnc_any _ _ _ _ (by omega) (by omega) (by omega) (by omega) (by omega) (by omega)).mono ?_; rintro e w' ⟨rfl, hb'⟩; have hS' := keep6 hb' (by assumption))
      | (go_at_call 35; refine (ref8_any _ _ _).mono ?_; rintro e w' ⟨rfl, hb'⟩; have hS' := keep6 hb' (by assumption)))
  obtain ⟨-, -, -, -, -, -, hE⟩ := (by assumption : _ ∧ _ ∧ _ ∧ _ ∧ _ ∧ _ ∧ Below _ _ _)
  go_wp2
  go_ret
  exact ⟨by first | exact ret_bool rfl | rfl, hE⟩
end Go.Proofs.Ythbkfgafdjcicaa
