/- The walks of the statements on blocks' headers. -/
import Derived.Test.YthbkfgafdjcicaaBhead4
namespace Go.Proofs.Ythbkfgafdjcicaa
open Go.RowKit
set_option linter.unusedVariables false
set_option maxHeartbeats 1000000
set_option maxRecDepth 100000
theorem keep9 {w W w' : World} {p1 p2 p3 p4 p5 p6 p7 p8 p9 : Addr} {v1 v2 v3 v4 v5 v6 v7 v8 v9 : Value} (hb : Below W.heap.size W w') (h : W.cell? p1 = some v1 ∧ W.cell? p2 = some v2 ∧ W.cell? p3 = some v3 ∧ W.cell? p4 = some v4 ∧ W.cell? p5 = some v5 ∧ W.cell? p6 = some v6 ∧ W.cell? p7 = some v7 ∧ W.cell? p8 = some v8 ∧ W.cell? p9 = some v9 ∧ Below w.heap.size w W) : w'.cell? p1 = some v1 ∧ w'.cell? p2 = some v2 ∧ w'.cell? p3 = some v3 ∧ w'.cell? p4 = some v4 ∧ w'.cell? p5 = some v5 ∧ w'.cell? p6 = some v6 ∧ w'.cell? p7 = some v7 ∧ w'.cell? p8 = some v8 ∧ w'.cell? p9 = some v9 ∧ Below w.heap.size w w' := by
  obtain ⟨h1, h2, h3, h4, h5, h6, h7, h8, h9, hB⟩ := h
  exact ⟨(hb.cell (cell_lt h1)).trans h1, (hb.cell (cell_lt h2)).trans h2, (hb.cell (cell_lt h3)).trans h3, (hb.cell (cell_lt h4)).trans h4, (hb.cell (cell_lt h5)).trans h5, (hb.cell (cell_lt h6)).trans h6, (hb.cell (cell_lt h7)).trans h7, (hb.cell (cell_lt h8)).trans h8, (hb.cell (cell_lt h9)).trans h9, hB.trans (hb.mono hB.size)⟩
theorem keepD9 {w W : World} {p1 p2 p3 p4 p5 p6 p7 p8 p9 : Addr} {v1 v2 v3 v4 v5 v6 v7 v8 v9 : Value} (h : W.cell? p1 = some v1 ∧ W.cell? p2 = some v2 ∧ W.cell? p3 = some v3 ∧ W.cell? p4 = some v4 ∧ W.cell? p5 = some v5 ∧ W.cell? p6 = some v6 ∧ W.cell? p7 = some v7 ∧ W.cell? p8 = some v8 ∧ W.cell? p9 = some v9 ∧ Below w.heap.size w W) : W.drew.cell? p1 = some v1 ∧ W.drew.cell? p2 = some v2 ∧ W.drew.cell? p3 = some v3 ∧ W.drew.cell? p4 = some v4 ∧ W.drew.cell? p5 = some v5 ∧ W.drew.cell? p6 = some v6 ∧ W.drew.cell? p7 = some v7 ∧ W.drew.cell? p8 = some v8 ∧ W.drew.cell? p9 = some v9 ∧ Below w.heap.size w W.drew := by
  obtain ⟨h1, h2, h3, h4, h5, h6, h7, h8, h9, hB⟩ := h
  exact ⟨h1, h2, h3, h4, h5, h6, h7, h8, h9, hB.drew⟩
theorem grow3_6 {w W : World} {p1 p2 p3 p4 p5 p6 : Addr} {v1 v2 v3 v4 v5 v6 : Value} (u0 u1 u2 : Value) (T : TypeId) (h : W.cell? p1 = some v1 ∧ W.cell? p2 = some v2 ∧ W.cell? p3 = some v3 ∧ W.cell? p4 = some v4 ∧ W.cell? p5 = some v5 ∧ W.cell? p6 = some v6 ∧ Below w.heap.size w W) : (W.alloc (.cells #[u0, u1, u2] T)).cell? p1 = some v1 ∧ (W.alloc (.cells #[u0, u1, u2] T)).cell? p2 = some v2 ∧ (W.alloc (.cells #[u0, u1, u2] T)).cell? p3 = some v3 ∧ (W.alloc (.cells #[u0, u1, u2] T)).cell? p4 = some v4 ∧ (W.alloc (.cells #[u0, u1, u2] T)).cell? p5 = some v5 ∧ (W.alloc (.cells #[u0, u1, u2] T)).cell? p6 = some v6 ∧ (W.alloc (.cells #[u0, u1, u2] T)).cell? ⟨W.heap.size, 0, none⟩ = some u0 ∧ (W.alloc (.cells #[u0, u1, u2] T)).cell? ⟨W.heap.size, 1, none⟩ = some u1 ∧ (W.alloc (.cells #[u0, u1, u2] T)).cell? ⟨W.heap.size, 2, none⟩ = some u2 ∧ Below w.heap.size w (W.alloc (.cells #[u0, u1, u2] T)) := by
  obtain ⟨h1, h2, h3, h4, h5, h6, hB⟩ := h
  exact ⟨(World.cell?_alloc_lt W _ p1 (cell_lt h1)).trans h1, (World.cell?_alloc_lt W _ p2 (cell_lt h2)).trans h2, (World.cell?_alloc_lt W _ p3 (cell_lt h3)).trans h3, (World.cell?_alloc_lt W _ p4 (cell_lt h4)).trans h4, (World.cell?_alloc_lt W _ p5 (cell_lt h5)).trans h5, (World.cell?_alloc_lt W _ p6 (cell_lt h6)).trans h6, new_at W _ T 0 u0 rfl, new_at W _ T 1 u1 rfl, new_at W _ T 2 u2 rfl, hB.alloc hB.size _⟩
theorem walk_BheadCodes (b k c l x : Int) (w : World) (w0 : (Lit.int .i64 b).wf = true) (w1 : (Lit.int .i64 k).wf = true) (w2 : (Lit.int .i64 c).wf = true) (w3 : (Lit.int .i64 l).wf = true) (w4 : (Lit.int .u64 x).wf = true) :
    Calls Try.prog 13 #[.int .i64 b, .agg #[.int .i64 k, .int .i64 c, .int .i64 l], .int .u64 x] w fun e w' => e = .returned (.bool true) ∧ Below w.heap.size w w' := by
  have b0 := bounds_i64 w0
  have b1 := bounds_i64 w1
  have b2 := bounds_i64 w2
  have b3 := bounds_i64 w3
  have b4 := bounds_u64 w4
  clear w0 w1 w2 w3 w4
  have hK := box3 w (.int .i64 k) (.int .i64 c) (.int .i64 l) 73
  go_enter Try.func13, Try.ntmps13
  go_wp2_with (first
      | (go_at_call 48; refine (awake7_any _).mono ?_; rintro e w' ⟨rfl, hb'⟩; first | (replace hK := keep3 hb' hK) | (replace hK := keep3 hb' (keepA3 _ hK)) | (replace hK := keep3 hb' (keepA3 _ (keepA3 _ hK))) | (replace hK := keep3 hb' (keepD3 hK)); clear hb'))
  refine (bDec_any _ _ _ (by omega) (by omega) (by omega) (by omega)).mono ?_
  rintro e v2 ⟨rfl, hb2⟩
  replace hK := keep3 hb2 hK
  go_wp2_with fail
  have hK4 := grow3_3 (.int .i64 (Bh.decK x (Bh.atB b))) (.int .i64 (Bh.decC x (Bh.atB b))) (.int .i64 (Bh.decL x (Bh.atB b))) 73 hK
  refine (rBDec_any _ _ _ (by omega) (by omega) (by omega) (by omega)).mono ?_
  rintro e v3 ⟨rfl, hb3⟩
  replace hK4 := keep6 hb3 hK4
  clear hK
  go_wp2_with fail
  have hK6 := grow3_6 (.int .i64 (Bh.decK x (Bh.atB b))) (.int .i64 (Bh.decC x (Bh.atB b))) (.int .i64 (Bh.decL x (Bh.atB b))) 76 hK4
  clear hK4
  go_region_held3 (fun W => W.cell? ⟨w.heap.size, 0, none⟩ = some (.int .i64 k) ∧ W.cell? ⟨w.heap.size, 1, none⟩ = some (.int .i64 c) ∧ W.cell? ⟨w.heap.size, 2, none⟩ = some (.int .i64 l) ∧ W.cell? ⟨v2.heap.size, 0, none⟩ = some (.int .i64 (Bh.decK x (Bh.atB b))) ∧ W.cell? ⟨v2.heap.size, 1, none⟩ = some (.int .i64 (Bh.decC x (Bh.atB b))) ∧ W.cell? ⟨v2.heap.size, 2, none⟩ = some (.int .i64 (Bh.decL x (Bh.atB b))) ∧ W.cell? ⟨v3.heap.size, 0, none⟩ = some (.int .i64 (Bh.decK x (Bh.atB b))) ∧ W.cell? ⟨v3.heap.size, 1, none⟩ = some (.int .i64 (Bh.decC x (Bh.atB b))) ∧ W.cell? ⟨v3.heap.size, 2, none⟩ = some (.int .i64 (Bh.decL x (Bh.atB b))) ∧ Below w.heap.size w W)
    (first | assumption | exact keepD9 hK6)
    (first
      | (go_at_call 51; refine (bRight_any _ _ _ _ (by omega) (by omega) (by omega) (by omega) (by omega) (by omega)).mono ?_; rintro e w' ⟨rfl, hb'⟩; have hS' := keep9 hb' (by assumption))
      | (go_at_call 52; refine (rBRight_any _ _ _ _ (by omega) (by omega) (by omega) (by omega) (by omega) (by omega)).mono ?_; rintro e w' ⟨rfl, hb'⟩; have hS' := keep9 hb' (by assumption))
      | (go_at_call 54; refine (bEnc_any _ _ _ _ _ (by omega) (by omega) (by omega) (by omega) (by omega) (by omega) (by omega) (by omega)).mono ?_; rintro e w' ⟨rfl, hb'⟩; have hS' := keep9 hb' (by assumption))
      | (go_at_call 55; refine (rBEnc_any _ _ _ _ _ (by omega) (by omega) (by omega) (by omega) (by omega) (by omega) (by omega) (by omega)).mono ?_; rintro e w' ⟨rfl, hb'⟩; have hS' := keep9 hb' (by assumption))
      | (go_at_call 53; refine (ref7_any _ _ _ _).mono ?_; rintro e w' ⟨rfl, hb'⟩; have hS' := keep9 hb' (by assumption)))
  obtain ⟨-, -, -, -, -, -, -, -, -, hE⟩ := (by assumption : _ ∧ _ ∧ _ ∧ _ ∧ _ ∧ _ ∧ _ ∧ _ ∧ _ ∧ Below _ _ _)
  go_wp2
  go_ret
  exact ⟨by first | exact ret_bool rfl | rfl, hE⟩
theorem walk_BheadBack (b k c l : Int) (w : World) (w0 : (Lit.int .u8 b).wf = true) (w1 : (Lit.int .i64 k).wf = true) (w2 : (Lit.int .i64 c).wf = true) (w3 : (Lit.int .i64 l).wf = true) :
    Calls Try.prog 14 #[.int .u8 b, .agg #[.int .i64 k, .int .i64 c, .int .i64 l]] w fun e w' => e = .returned (.bool true) ∧ Below w.heap.size w w' := by
  have b0 := bounds_u8 w0
  have b1 := bounds_i64 w1
  have b2 := bounds_i64 w2
  have b3 := bounds_i64 w3
  clear w0 w1 w2 w3
  have hK := box3 w (.int .i64 k) (.int .i64 c) (.int .i64 l) 73
  have hen := Bh.enc_bd k c l (Bh.atB b)
  cases hr : Bh.right k c l
  · have e0 := Bh.enc_bad k c l (Bh.atB b) hr
    obtain ⟨d1, d2, d3⟩ := Bh.dec0 (Bh.atB b)
    have hnz := Bh.not_zero k c l hr
    have hdE := Bh.decE_in 0 (Bh.atB b)
    go_enter Try.func14, Try.ntmps14
    go_wp2_with (first
      | (go_at_call 48; refine (awake7_any _).mono ?_; rintro e w' ⟨rfl, hb'⟩; first | (replace hK := keep3 hb' hK) | (replace hK := keep3 hb' (keepA3 _ hK)) | (replace hK := keep3 hb' (keepA3 _ (keepA3 _ hK))) | (replace hK := keep3 hb' (keepD3 hK)); clear hb')
      | (go_at_call 54; refine (bEnc_any _ _ _ _ _ (by omega) (by omega) (by omega) (by omega) (by omega) (by omega) (by omega) (by omega)).mono ?_; rintro e w' ⟨rfl, hb'⟩; first | (replace hK := keep3 hb' hK) | (replace hK := keep3 hb' (keepA3 _ hK)) | (replace hK := keep3 hb' (keepA3 _ (keepA3 _ hK))) | (replace hK := keep3 hb' (keepD3 hK)); clear hb'))
    refine (bDec_any _ _ _ (by omega) (by omega) (by omega) (by omega)).mono ?_
    rw [d1, d2, d3]
    rintro e v2 ⟨rfl, hb2⟩
    replace hK := keep3 hb2 hK
    have hK4 := grow3_3 (.int .i64 0) (.int .i64 0) (.int .i64 0) 73 hK
    clear hK
    have hK := hK4
    clear hK4
    by_cases hz : Bh.decE 0 (Bh.atB b) = 0
    · have hz2 : (Bh.decE 0 (Bh.atB b) != 0) = false := by simp [hz]
      go_wp2_with (first
      | (go_at_call 51; refine (bRight_any _ _ _ _ (by omega) (by omega) (by omega) (by omega) (by omega) (by omega)).mono ?_; rintro e w' ⟨rfl, hb'⟩; first | (replace hK := keep6 hb' hK) | (replace hK := keep6 hb' (keepA6 _ hK)) | (replace hK := keep6 hb' (keepA6 _ (keepA6 _ hK))) | (replace hK := keep6 hb' (keepD6 hK)); clear hb'))
      all_goals first
        | (go_ret; exact ⟨by first | rfl | exact ret_bool rfl, (by assumption : _ ∧ _ ∧ _ ∧ _ ∧ _ ∧ _ ∧ Below _ _ _).2.2.2.2.2.2⟩)
        | (exfalso; omega)
        | (exfalso; simp_all)
    · have hz2 : (Bh.decE 0 (Bh.atB b) != 0) = true := by simp [hz]
      go_wp2_with (first
      | (go_at_call 51; refine (bRight_any _ _ _ _ (by omega) (by omega) (by omega) (by omega) (by omega) (by omega)).mono ?_; rintro e w' ⟨rfl, hb'⟩; first | (replace hK := keep6 hb' hK) | (replace hK := keep6 hb' (keepA6 _ hK)) | (replace hK := keep6 hb' (keepA6 _ (keepA6 _ hK))) | (replace hK := keep6 hb' (keepD6 hK)); clear hb'))
      go_ret
      exact ⟨by first | rfl | exact ret_bool rfl, (by assumption : _ ∧ _ ∧ _ ∧ _ ∧ _ ∧ _ ∧ Below _ _ _).2.2.2.2.2.2⟩
  · obtain ⟨d0, d1, d2, d3⟩ := Bh.dec_enc k c l (Bh.atB b) hr
    go_enter Try.func14, Try.ntmps14
    go_wp2_with (first
      | (go_at_call 48; refine (awake7_any _).mono ?_; rintro e w' ⟨rfl, hb'⟩; first | (replace hK := keep3 hb' hK) | (replace hK := keep3 hb' (keepA3 _ hK)) | (replace hK := keep3 hb' (keepA3 _ (keepA3 _ hK))) | (replace hK := keep3 hb' (keepD3 hK)); clear hb')
      | (go_at_call 54; refine (bEnc_any _ _ _ _ _ (by omega) (by omega) (by omega) (by omega) (by omega) (by omega) (by omega) (by omega)).mono ?_; rintro e w' ⟨rfl, hb'⟩; first | (replace hK := keep3 hb' hK) | (replace hK := keep3 hb' (keepA3 _ hK)) | (replace hK := keep3 hb' (keepA3 _ (keepA3 _ hK))) | (replace hK := keep3 hb' (keepD3 hK)); clear hb'))
    refine (bDec_any _ _ _ (by omega) (by omega) (by omega) (by omega)).mono ?_
    rw [d0, d1, d2, d3]
    clear d0 d1 d2 d3
    rintro e v2 ⟨rfl, hb2⟩
    replace hK := keep3 hb2 hK
    have hK4 := grow3_3 (.int .i64 k) (.int .i64 c) (.int .i64 l) 73 hK
    clear hK
    have hK := hK4
    clear hK4
    go_wp2_with (first
      | (go_at_call 51; refine (bRight_any _ _ _ _ (by omega) (by omega) (by omega) (by omega) (by omega) (by omega)).mono ?_; rintro e w' ⟨rfl, hb'⟩; first | (replace hK := keep6 hb' hK) | (replace hK := keep6 hb' (keepA6 _ hK)) | (replace hK := keep6 hb' (keepA6 _ (keepA6 _ hK))) | (replace hK := keep6 hb' (keepD6 hK)); clear hb'))
    go_ret
    exact ⟨by first | rfl | exact ret_bool rfl, (by assumption : _ ∧ _ ∧ _ ∧ _ ∧ _ ∧ _ ∧ Below _ _ _).2.2.2.2.2.2⟩
end Go.Proofs.Ythbkfgafdjcicaa
