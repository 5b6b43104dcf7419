/- SlotCodes and SlotChooses walked. -/
import Derived.Test.YtgcjagffoeoldaaSlot10
namespace Go.Proofs.Ytgcjagffoeoldaa
open Go.RowKit
set_option linter.unusedVariables false
set_option linter.unusedSimpArgs false
set_option maxHeartbeats 8000000
set_option maxRecDepth 100000
theorem awake17_any (w : World) : Calls Try.prog 18 #[] w fun e w' => e = .returned (.bool true) ∧ Below w.heap.size w w' := by
  go_enter Try.func18, Try.ntmps18
  go_wp2_with fail
  refine (slEnc_yes 1 0 0 0 0 0 0 0 0 _ (by omega) (by omega) (by omega) (by omega) (by omega) (by omega) (by omega) (by omega) (by omega) (by omega)).mono ?_
  rintro e w1 ⟨rfl, hb⟩
  go_wp2_with fail
  go_ret
  exact ⟨by first | rfl | exact ret_bool rfl, hb.alloc hb.size _⟩
theorem ref17_any (E r0 r1 r2 r3 r4 r5 r6 r7 : Int) (w : World) :
    Calls Try.prog 23 #[.agg #[.int .u64 E, .int .i64 r0, .int .i64 r1, .int .i64 r2, .int .i64 r3, .int .i64 r4, .int .i64 r5, .int .i64 r6, .int .i64 r7]] w fun e w' => e = .returned (.agg #[.int .u64 E, .int .i64 r0, .int .i64 r1, .int .i64 r2, .int .i64 r3, .int .i64 r4, .int .i64 r5, .int .i64 r6, .int .i64 r7]) ∧ Below w.heap.size w w' := by
  go_enter Try.func23, Try.ntmps23
  go_wp2_with fail
  exact bodyPost_ret (v := .agg #[.int .u64 E, .int .i64 r0, .int .i64 r1, .int .i64 r2, .int .i64 r3, .int .i64 r4, .int .i64 r5, .int .i64 r6, .int .i64 r7]) (by simp [results, go_sem, Try.results23]) rfl ⟨rfl, ((Below.refl _ _).alloc (Nat.le_refl _) _).alloc (by simp) _⟩
theorem eq_lit_rslot (E x0 x1 x2 x3 x4 x5 x6 x7 : Int) (W : World) : (Op.equalIn 10000 42 (.agg #[.int .u64 E, .int .i64 x0, .int .i64 x1, .int .i64 x2, .int .i64 x3, .int .i64 x4, .int .i64 x5, .int .i64 x6, .int .i64 x7]) (.agg #[.int .u64 E, .int .i64 x0, .int .i64 x1, .int .i64 x2, .int .i64 x3, .int .i64 x4, .int .i64 x5, .int .i64 x6, .int .i64 x7])).run Try.prog W = .ok true W := by
  have h := eq_rslot E E [x0, x1, x2, x3, x4, x5, x6, x7] [x0, x1, x2, x3, x4, x5, x6, x7] rfl rfl W
  rw [eqB_yes _ _ rfl] at h
  simp only [decide_true, Bool.true_and] at h
  exact h
theorem walk16_SlotCodes (E r0 r1 r2 r3 r4 r5 r6 r7 l0 l1 l2 l3 l4 l5 l6 l7 l8 l9 l10 l11 l12 l13 l14 l15 x0 x1 x2 x3 x4 x5 x6 x7 : Int) (ea : Array Value) (w : World) (hE : U64s E) (hR : ∀ r ∈ [r0, r1, r2, r3, r4, r5, r6, r7], I64 r) (hz : Ints .u64 [l0, l1, l2, l3, l4, l5, l6, l7, l8, l9, l10, l11, l12, l13, l14, l15]) (hx : dVR [l0, l1, l2, l3, l4, l5, l6, l7, l8, l9, l10, l11, l12, l13, l14, l15] = [x0, x1, x2, x3, x4, x5, x6, x7]) (he : ((encL E [r0, r1, r2, r3, r4, r5, r6, r7]).map (Value.int .u64)).toArray = ea) :
    Calls Try.prog 4 #[.agg #[.int .u64 E, .int .i64 r0, .int .i64 r1, .int .i64 r2, .int .i64 r3, .int .i64 r4, .int .i64 r5, .int .i64 r6, .int .i64 r7], .agg #[.int .u64 l0, .int .u64 l1, .int .u64 l2, .int .u64 l3, .int .u64 l4, .int .u64 l5, .int .u64 l6, .int .u64 l7, .int .u64 l8, .int .u64 l9, .int .u64 l10, .int .u64 l11, .int .u64 l12, .int .u64 l13, .int .u64 l14, .int .u64 l15]] w fun e w' => e = .returned (.bool true) ∧ Below w.heap.size w w' := by
  have HE := Lib.hid hE
  have HR := Lib.hid hR
  have HZ := Lib.hid hz
  have HEA := Lib.hid he
  have HV : Hid (slotV (dVE [l0, l1, l2, l3, l4, l5, l6, l7, l8, l9, l10, l11, l12, l13, l14, l15]) (dVR [l0, l1, l2, l3, l4, l5, l6, l7, l8, l9, l10, l11, l12, l13, l14, l15]) = .agg #[.int .u64 (dVE [l0, l1, l2, l3, l4, l5, l6, l7, l8, l9, l10, l11, l12, l13, l14, l15]), .int .i64 x0, .int .i64 x1, .int .i64 x2, .int .i64 x3, .int .i64 x4, .int .i64 x5, .int .i64 x6, .int .i64 x7]) := Lib.hid (by rw [hx]; rfl)
  have heq16 : ∀ W, (Op.equalIn 10000 39 (.agg ea) (.agg ea)).run Try.prog W = .ok true W := fun W => by
    have h := line16_eq (encL E [r0, r1, r2, r3, r4, r5, r6, r7]) (encL E [r0, r1, r2, r3, r4, r5, r6, r7]) (encL_len _ _) (encL_len _ _) W
    rw [eqB_yes _ _ rfl, he] at h
    exact h
  have heqS := eq_lit_rslot (dVE [l0, l1, l2, l3, l4, l5, l6, l7, l8, l9, l10, l11, l12, l13, l14, l15]) x0 x1 x2 x3 x4 x5 x6 x7
  clear hE hR hz he hx
  have XS := Lib.hid ((Blk.new w #[.int .u64 E, .int .i64 r0, .int .i64 r1, .int .i64 r2, .int .i64 r3, .int .i64 r4, .int .i64 r5, .int .i64 r6, .int .i64 r7] 38).alloc (.cells #[.int .u64 l0, .int .u64 l1, .int .u64 l2, .int .u64 l3, .int .u64 l4, .int .u64 l5, .int .u64 l6, .int .u64 l7, .int .u64 l8, .int .u64 l9, .int .u64 l10, .int .u64 l11, .int .u64 l12, .int .u64 l13, .int .u64 l14, .int .u64 l15] 39))
  have XW := Lib.hid (Blk.new1 w (.cells #[.int .u64 E, .int .i64 r0, .int .i64 r1, .int .i64 r2, .int .i64 r3, .int .i64 r4, .int .i64 r5, .int .i64 r6, .int .i64 r7] 38) #[.int .u64 l0, .int .u64 l1, .int .u64 l2, .int .u64 l3, .int .u64 l4, .int .u64 l5, .int .u64 l6, .int .u64 l7, .int .u64 l8, .int .u64 l9, .int .u64 l10, .int .u64 l11, .int .u64 l12, .int .u64 l13, .int .u64 l14, .int .u64 l15] 39)
  have hB : Below w.heap.size w ((w.alloc (.cells #[.int .u64 E, .int .i64 r0, .int .i64 r1, .int .i64 r2, .int .i64 r3, .int .i64 r4, .int .i64 r5, .int .i64 r6, .int .i64 r7] 38)).alloc (.cells #[.int .u64 l0, .int .u64 l1, .int .u64 l2, .int .u64 l3, .int .u64 l4, .int .u64 l5, .int .u64 l6, .int .u64 l7, .int .u64 l8, .int .u64 l9, .int .u64 l10, .int .u64 l11, .int .u64 l12, .int .u64 l13, .int .u64 l14, .int .u64 l15] 39)) := ((Below.refl _ _).alloc (Nat.le_refl _) _).alloc (by simp) _
  generalize hZ : ((w.alloc (.cells #[.int .u64 E, .int .i64 r0, .int .i64 r1, .int .i64 r2, .int .i64 r3, .int .i64 r4, .int .i64 r5, .int .i64 r6, .int .i64 r7] 38)).alloc (.cells #[.int .u64 l0, .int .u64 l1, .int .u64 l2, .int .u64 l3, .int .u64 l4, .int .u64 l5, .int .u64 l6, .int .u64 l7, .int .u64 l8, .int .u64 l9, .int .u64 l10, .int .u64 l11, .int .u64 l12, .int .u64 l13, .int .u64 l14, .int .u64 l15] 39)) = Z at *
  go_enter Try.func4, Try.ntmps4
  go_upto_region 5 with (first
    | (go_at_call 18; (with_reducible refine (awake17_any _).mono ?_); rintro e w1 ⟨rfl, hb1⟩; have XS1 := XS.out.below hb1 XS.out.lt; have XW1 := XW.out.below hb1 XW.out.lt; have hB1 := hB.trans (hb1.mono hB.size); clear hb1)
    | (refine wpList_load_row (P := Try.prog) rfl 39 (.tmp 3) rfl (w.heap.size + 1) rfl _ _ (0, 0) _ XW1 Try.underlying39 rfl (by kernel_rfl) ?_)
    | (go_at_call 19; (with_reducible refine (slDec_lit l0 l1 l2 l3 l4 l5 l6 l7 l8 l9 l10 l11 l12 l13 l14 l15 _ HZ.out).mono ?_); rintro e w2 ⟨rfl, hb2⟩; rw [HV.out]; have XS2 := (XS1.below hb2 XS1.lt).alloc (.cells #[.int .u64 (dVE [l0, l1, l2, l3, l4, l5, l6, l7, l8, l9, l10, l11, l12, l13, l14, l15]), .int .i64 x0, .int .i64 x1, .int .i64 x2, .int .i64 x3, .int .i64 x4, .int .i64 x5, .int .i64 x6, .int .i64 x7] 38); have XW2 := (XW1.below hb2 XW1.lt).alloc (.cells #[.int .u64 (dVE [l0, l1, l2, l3, l4, l5, l6, l7, l8, l9, l10, l11, l12, l13, l14, l15]), .int .i64 x0, .int .i64 x1, .int .i64 x2, .int .i64 x3, .int .i64 x4, .int .i64 x5, .int .i64 x6, .int .i64 x7] 38); have hB2 := hB1.trans (hb2.mono hB1.size); have hB2' := hB2.alloc hB2.size (.cells #[.int .u64 (dVE [l0, l1, l2, l3, l4, l5, l6, l7, l8, l9, l10, l11, l12, l13, l14, l15]), .int .i64 x0, .int .i64 x1, .int .i64 x2, .int .i64 x3, .int .i64 x4, .int .i64 x5, .int .i64 x6, .int .i64 x7] 38); have XX := Blk.new w2 #[.int .u64 (dVE [l0, l1, l2, l3, l4, l5, l6, l7, l8, l9, l10, l11, l12, l13, l14, l15]), .int .i64 x0, .int .i64 x1, .int .i64 x2, .int .i64 x3, .int .i64 x4, .int .i64 x5, .int .i64 x6, .int .i64 x7] 38; clear hb2 XS1 XW1 hB1 hB2)
    | (refine wpList_load_row (P := Try.prog) rfl 39 (.tmp 3) rfl (w.heap.size + 1) rfl _ _ (0, 0) _ XW2 Try.underlying39 rfl (by kernel_rfl) ?_)
    | (go_at_call 20; (with_reducible refine (rslDec_lit l0 l1 l2 l3 l4 l5 l6 l7 l8 l9 l10 l11 l12 l13 l14 l15 _ HZ.out).mono ?_); rintro e w3 ⟨rfl, hb3⟩; rw [HV.out]; have XS5 := (XS2.below hb3 XS2.lt).alloc (.cells #[.int .u64 (dVE [l0, l1, l2, l3, l4, l5, l6, l7, l8, l9, l10, l11, l12, l13, l14, l15]), .int .i64 x0, .int .i64 x1, .int .i64 x2, .int .i64 x3, .int .i64 x4, .int .i64 x5, .int .i64 x6, .int .i64 x7] 42); have XX5 := (XX.below hb3 XX.lt).alloc (.cells #[.int .u64 (dVE [l0, l1, l2, l3, l4, l5, l6, l7, l8, l9, l10, l11, l12, l13, l14, l15]), .int .i64 x0, .int .i64 x1, .int .i64 x2, .int .i64 x3, .int .i64 x4, .int .i64 x5, .int .i64 x6, .int .i64 x7] 42); have YY5 := Blk.new w3 #[.int .u64 (dVE [l0, l1, l2, l3, l4, l5, l6, l7, l8, l9, l10, l11, l12, l13, l14, l15]), .int .i64 x0, .int .i64 x1, .int .i64 x2, .int .i64 x3, .int .i64 x4, .int .i64 x5, .int .i64 x6, .int .i64 x7] 42; have hB3 := hB2'.trans (hb3.mono hB2'.size); have hB5 := hB3.alloc hB3.size (.cells #[.int .u64 (dVE [l0, l1, l2, l3, l4, l5, l6, l7, l8, l9, l10, l11, l12, l13, l14, l15]), .int .i64 x0, .int .i64 x1, .int .i64 x2, .int .i64 x3, .int .i64 x4, .int .i64 x5, .int .i64 x6, .int .i64 x7] 42); clear hb3 XS2 XW2 XX hB2' hB3))
  generalize hZ5 : w3.alloc (.cells #[.int .u64 (dVE [l0, l1, l2, l3, l4, l5, l6, l7, l8, l9, l10, l11, l12, l13, l14, l15]), .int .i64 x0, .int .i64 x1, .int .i64 x2, .int .i64 x3, .int .i64 x4, .int .i64 x5, .int .i64 x6, .int .i64 x7] 42) = Z5 at *
  clear hZ5
  refine wp_region_held_drew (S := fun W => Below Z5.heap.size Z5 W) (by kernel_rfl) ?_ (fun hHeld => ?_)
  · (try dsimp only)
    (first | assumption | exact (Below.refl _ _).drew)
  first | (refine wpAnyH_take (i := 0) (v := ?_) rfl (by kernel_rfl) (by kernel_rfl) (by kernel_rfl) (fun _ _ _ h => h) (Or.inl ⟨by rfl, ?_⟩) (by assumption) ?_; rotate_left; (focus (intro wS hSw; (try dsimp only at hSw); first | (refine run_load_rowB XS5 hSw ?_ (fun _ => ?_) (fun _ => ?_); rfl; kernel_rfl; kernel_rfl) | (refine run_load_cellB XS5 hSw ?_ ?_ (fun _ => ?_); rfl; rfl; kernel_rfl) | (refine run_load_rowB XX5 hSw ?_ (fun _ => ?_) (fun _ => ?_); rfl; kernel_rfl; kernel_rfl) | (refine run_load_cellB XX5 hSw ?_ ?_ (fun _ => ?_); rfl; rfl; kernel_rfl) | (refine run_load_rowB YY5 hSw ?_ (fun _ => ?_) (fun _ => ?_); rfl; kernel_rfl; kernel_rfl) | (refine run_load_cellB YY5 hSw ?_ ?_ (fun _ => ?_); rfl; rfl; kernel_rfl) | ((try obtain ⟨hcS, hfS⟩ := bcellR hSw); go_simp; first | done | with_reducible rfl)))) | (refine wpAnyH_take (i := 0) rfl (by kernel_rfl) (by kernel_rfl) (by kernel_rfl) (fun _ _ _ h => h) (Or.inr ⟨by rfl, rfl⟩) (by assumption) ?_) | fail
  try simp only [Act.put, List.getElem_toArray, List.getElem_cons_zero, List.getElem_cons_succ, List.setIfInBounds_toArray, List.set_cons_zero, List.set_cons_succ]
  first | (refine wpAnyH_take (i := 2) (v := ?_) rfl (by kernel_rfl) (by kernel_rfl) (by kernel_rfl) (fun _ _ _ h => h) (Or.inl ⟨by rfl, ?_⟩) (by assumption) ?_; rotate_left; (focus (intro wS hSw; (try dsimp only at hSw); first | (refine run_load_rowB XS5 hSw ?_ (fun _ => ?_) (fun _ => ?_); rfl; kernel_rfl; kernel_rfl) | (refine run_load_cellB XS5 hSw ?_ ?_ (fun _ => ?_); rfl; rfl; kernel_rfl) | (refine run_load_rowB XX5 hSw ?_ (fun _ => ?_) (fun _ => ?_); rfl; kernel_rfl; kernel_rfl) | (refine run_load_cellB XX5 hSw ?_ ?_ (fun _ => ?_); rfl; rfl; kernel_rfl) | (refine run_load_rowB YY5 hSw ?_ (fun _ => ?_) (fun _ => ?_); rfl; kernel_rfl; kernel_rfl) | (refine run_load_cellB YY5 hSw ?_ ?_ (fun _ => ?_); rfl; rfl; kernel_rfl) | ((try obtain ⟨hcS, hfS⟩ := bcellR hSw); go_simp; first | done | with_reducible rfl)))) | (refine wpAnyH_take (i := 2) rfl (by kernel_rfl) (by kernel_rfl) (by kernel_rfl) (fun _ _ _ h => h) (Or.inr ⟨by rfl, rfl⟩) (by assumption) ?_) | fail
  try simp only [Act.put, List.getElem_toArray, List.getElem_cons_zero, List.getElem_cons_succ, List.setIfInBounds_toArray, List.set_cons_zero, List.set_cons_succ]
  refine wpAnyH_ready (rs := [1]) (by kernel_rfl) (by simp) (AllReadyH.cons rfl (fun K hK => ?_) AllReadyH.nil)
  have hS := (by assumption : Below _ Z5 _)
  (try go_simp)
  refine (slRight_any E r0 r1 r2 r3 r4 r5 r6 r7 _ HE.out HR.out).mono ?_
  rintro e w1 ⟨rfl, hb1⟩
  have hS1 := hS.trans (hb1.mono hS.size)
  clear hS
  refine hK.out _ _ ?_ (fun hHeld => ?_)
  · (try dsimp only)
    (first | assumption | exact (Below.refl _ _).drew)
  clear hK K
  try simp only [Act.put, List.getElem_toArray, List.getElem_cons_zero, List.getElem_cons_succ, List.setIfInBounds_toArray, List.set_cons_zero, List.set_cons_succ]
  refine wpAnyH_ready (rs := [3]) (by kernel_rfl) (by simp) (AllReadyH.cons rfl (fun K hK => ?_) AllReadyH.nil)
  have hS := (by assumption : Below _ Z5 _)
  (try go_simp)
  refine (ref17_any _ _ _ _ _ _ _ _ _ _).mono ?_
  rintro e w3 ⟨rfl, hb3⟩
  have hS3 := hS.trans (hb3.mono hS.size)
  clear hS
  refine hK.out _ _ ?_ (fun hHeld => ?_)
  · (try dsimp only)
    (first | assumption | exact (Below.refl _ _).drew)
  clear hK K
  try simp only [Act.put, List.getElem_toArray, List.getElem_cons_zero, List.getElem_cons_succ, List.setIfInBounds_toArray, List.set_cons_zero, List.set_cons_succ]
  refine wpAnyH_ready (rs := [4]) (by kernel_rfl) (by simp) (AllReadyH.cons rfl (fun K hK => ?_) AllReadyH.nil)
  have hS := (by assumption : Below _ Z5 _)
  (try go_simp)
  refine (rslRight_any E r0 r1 r2 r3 r4 r5 r6 r7 _ HE.out HR.out).mono ?_
  rintro e w4 ⟨rfl, hb4⟩
  have hS4 := hS.trans (hb4.mono hS.size)
  clear hS
  refine hK.out _ _ ?_ (fun hHeld => ?_)
  · (try dsimp only)
    (first | assumption | exact (Below.refl _ _).drew)
  clear hK K
  try simp only [Act.put, List.getElem_toArray, List.getElem_cons_zero, List.getElem_cons_succ, List.setIfInBounds_toArray, List.set_cons_zero, List.set_cons_succ]
  first | (refine wpAnyH_take (i := 5) (v := ?_) rfl (by kernel_rfl) (by kernel_rfl) (by kernel_rfl) (fun _ _ _ h => h) (Or.inl ⟨by rfl, ?_⟩) (by assumption) ?_; rotate_left; (focus (intro wS hSw; (try dsimp only at hSw); first | ((try obtain ⟨hcS, hfS⟩ := bcellR hSw); go_simp; first | done | with_reducible rfl)))) | (refine wpAnyH_take (i := 5) rfl (by kernel_rfl) (by kernel_rfl) (by kernel_rfl) (fun _ _ _ h => h) (Or.inr ⟨by rfl, rfl⟩) (by assumption) ?_) | fail
  try simp only [Act.put, List.getElem_toArray, List.getElem_cons_zero, List.getElem_cons_succ, List.setIfInBounds_toArray, List.set_cons_zero, List.set_cons_succ]
  first | (refine wpAnyH_take (i := 6) (v := ?_) rfl (by kernel_rfl) (by kernel_rfl) (by kernel_rfl) (fun _ _ _ h => h) (Or.inl ⟨by rfl, ?_⟩) (by assumption) ?_; rotate_left; (focus (intro wS hSw; (try dsimp only at hSw); first | ((try obtain ⟨hcS, hfS⟩ := bcellR hSw); go_simp; first | done | with_reducible rfl)))) | (refine wpAnyH_take (i := 6) rfl (by kernel_rfl) (by kernel_rfl) (by kernel_rfl) (fun _ _ _ h => h) (Or.inr ⟨by rfl, rfl⟩) (by assumption) ?_) | fail
  try simp only [Act.put, List.getElem_toArray, List.getElem_cons_zero, List.getElem_cons_succ, List.setIfInBounds_toArray, List.set_cons_zero, List.set_cons_succ]
  first | (refine wpAnyH_take (i := 7) (v := ?_) rfl (by kernel_rfl) (by kernel_rfl) (by kernel_rfl) (fun _ _ _ h => h) (Or.inl ⟨by rfl, ?_⟩) (by assumption) ?_; rotate_left; (focus (intro wS hSw; (try dsimp only at hSw); first | (refine run_load_rowB XS5 hSw ?_ (fun _ => ?_) (fun _ => ?_); rfl; kernel_rfl; kernel_rfl) | (refine run_load_cellB XS5 hSw ?_ ?_ (fun _ => ?_); rfl; rfl; kernel_rfl) | (refine run_load_rowB XX5 hSw ?_ (fun _ => ?_) (fun _ => ?_); rfl; kernel_rfl; kernel_rfl) | (refine run_load_cellB XX5 hSw ?_ ?_ (fun _ => ?_); rfl; rfl; kernel_rfl) | (refine run_load_rowB YY5 hSw ?_ (fun _ => ?_) (fun _ => ?_); rfl; kernel_rfl; kernel_rfl) | (refine run_load_cellB YY5 hSw ?_ ?_ (fun _ => ?_); rfl; rfl; kernel_rfl) | ((try obtain ⟨hcS, hfS⟩ := bcellR hSw); go_simp; first | done | with_reducible rfl)))) | (refine wpAnyH_take (i := 7) rfl (by kernel_rfl) (by kernel_rfl) (by kernel_rfl) (fun _ _ _ h => h) (Or.inr ⟨by rfl, rfl⟩) (by assumption) ?_) | fail
  try simp only [Act.put, List.getElem_toArray, List.getElem_cons_zero, List.getElem_cons_succ, List.setIfInBounds_toArray, List.set_cons_zero, List.set_cons_succ]
  first | (refine wpAnyH_take (i := 9) (v := ?_) rfl (by kernel_rfl) (by kernel_rfl) (by kernel_rfl) (fun _ _ _ h => h) (Or.inl ⟨by rfl, ?_⟩) (by assumption) ?_; rotate_left; (focus (intro wS hSw; (try dsimp only at hSw); first | (refine run_load_rowB XS5 hSw ?_ (fun _ => ?_) (fun _ => ?_); rfl; kernel_rfl; kernel_rfl) | (refine run_load_cellB XS5 hSw ?_ ?_ (fun _ => ?_); rfl; rfl; kernel_rfl) | (refine run_load_rowB XX5 hSw ?_ (fun _ => ?_) (fun _ => ?_); rfl; kernel_rfl; kernel_rfl) | (refine run_load_cellB XX5 hSw ?_ ?_ (fun _ => ?_); rfl; rfl; kernel_rfl) | (refine run_load_rowB YY5 hSw ?_ (fun _ => ?_) (fun _ => ?_); rfl; kernel_rfl; kernel_rfl) | (refine run_load_cellB YY5 hSw ?_ ?_ (fun _ => ?_); rfl; rfl; kernel_rfl) | ((try obtain ⟨hcS, hfS⟩ := bcellR hSw); go_simp; first | done | with_reducible rfl)))) | (refine wpAnyH_take (i := 9) rfl (by kernel_rfl) (by kernel_rfl) (by kernel_rfl) (fun _ _ _ h => h) (Or.inr ⟨by rfl, rfl⟩) (by assumption) ?_) | fail
  try simp only [Act.put, List.getElem_toArray, List.getElem_cons_zero, List.getElem_cons_succ, List.setIfInBounds_toArray, List.set_cons_zero, List.set_cons_succ]
  refine wpAnyH_ready (rs := [8]) (by kernel_rfl) (by simp) (AllReadyH.cons rfl (fun K hK => ?_) AllReadyH.nil)
  have hS := (by assumption : Below _ Z5 _)
  (try go_simp)
  refine (slEnc_lit E r0 r1 r2 r3 r4 r5 r6 r7 _ HE.out HR.out).mono ?_
  rintro e w8 ⟨rfl, hb8⟩
  have hS8 := hS.trans (hb8.mono hS.size)
  rw [HEA.out]
  clear hS
  refine hK.out _ _ ?_ (fun hHeld => ?_)
  · (try dsimp only)
    (first | assumption | exact (Below.refl _ _).drew)
  clear hK K
  try simp only [Act.put, List.getElem_toArray, List.getElem_cons_zero, List.getElem_cons_succ, List.setIfInBounds_toArray, List.set_cons_zero, List.set_cons_succ]
  refine wpAnyH_ready (rs := [10]) (by kernel_rfl) (by simp) (AllReadyH.cons rfl (fun K hK => ?_) AllReadyH.nil)
  have hS := (by assumption : Below _ Z5 _)
  (try go_simp)
  refine (ref17_any _ _ _ _ _ _ _ _ _ _).mono ?_
  rintro e w10 ⟨rfl, hb10⟩
  have hS10 := hS.trans (hb10.mono hS.size)
  clear hS
  refine hK.out _ _ ?_ (fun hHeld => ?_)
  · (try dsimp only)
    (first | assumption | exact (Below.refl _ _).drew)
  clear hK K
  try simp only [Act.put, List.getElem_toArray, List.getElem_cons_zero, List.getElem_cons_succ, List.setIfInBounds_toArray, List.set_cons_zero, List.set_cons_succ]
  refine wpAnyH_ready (rs := [11]) (by kernel_rfl) (by simp) (AllReadyH.cons rfl (fun K hK => ?_) AllReadyH.nil)
  have hS := (by assumption : Below _ Z5 _)
  (try go_simp)
  refine (rslEnc_lit E r0 r1 r2 r3 r4 r5 r6 r7 _ HE.out HR.out).mono ?_
  rintro e w11 ⟨rfl, hb11⟩
  have hS11 := hS.trans (hb11.mono hS.size)
  rw [HEA.out]
  clear hS
  refine hK.out _ _ ?_ (fun hHeld => ?_)
  · (try dsimp only)
    (first | assumption | exact (Below.refl _ _).drew)
  clear hK K
  try simp only [Act.put, List.getElem_toArray, List.getElem_cons_zero, List.getElem_cons_succ, List.setIfInBounds_toArray, List.set_cons_zero, List.set_cons_succ]
  first | (refine wpAnyH_take (i := 12) (v := ?_) rfl (by kernel_rfl) (by kernel_rfl) (by kernel_rfl) (fun _ _ _ h => h) (Or.inl ⟨by rfl, ?_⟩) (by assumption) ?_; rotate_left; (focus (intro wS hSw; (try dsimp only at hSw); first | ((try obtain ⟨hcS, hfS⟩ := bcellR hSw); go_simp; first | done | with_reducible rfl)))) | (refine wpAnyH_take (i := 12) rfl (by kernel_rfl) (by kernel_rfl) (by kernel_rfl) (fun _ _ _ h => h) (Or.inr ⟨by rfl, rfl⟩) (by assumption) ?_) | fail
  try simp only [Act.put, List.getElem_toArray, List.getElem_cons_zero, List.getElem_cons_succ, List.setIfInBounds_toArray, List.set_cons_zero, List.set_cons_succ]
  first | (refine wpAnyH_take (i := 13) (v := ?_) rfl (by kernel_rfl) (by kernel_rfl) (by kernel_rfl) (fun _ _ _ h => h) (Or.inl ⟨by rfl, ?_⟩) (by assumption) ?_; rotate_left; (focus (intro wS hSw; (try dsimp only at hSw); first | ((try obtain ⟨hcS, hfS⟩ := bcellR hSw); go_simp; first | done | with_reducible rfl)))) | (refine wpAnyH_take (i := 13) rfl (by kernel_rfl) (by kernel_rfl) (by kernel_rfl) (fun _ _ _ h => h) (Or.inr ⟨by rfl, rfl⟩) (by assumption) ?_) | fail
  try simp only [Act.put, List.getElem_toArray, List.getElem_cons_zero, List.getElem_cons_succ, List.setIfInBounds_toArray, List.set_cons_zero, List.set_cons_succ]
  first | (refine wpAnyH_take (i := 14) (v := ?_) rfl (by kernel_rfl) (by kernel_rfl) (by kernel_rfl) (fun _ _ _ h => h) (Or.inl ⟨by rfl, ?_⟩) (by assumption) ?_; rotate_left; (focus (intro wS hSw; (try dsimp only at hSw); first | ((try obtain ⟨hcS, hfS⟩ := bcellR hSw); go_simp; first | done | with_reducible rfl)))) | (refine wpAnyH_take (i := 14) rfl (by kernel_rfl) (by kernel_rfl) (by kernel_rfl) (fun _ _ _ h => h) (Or.inr ⟨by rfl, rfl⟩) (by assumption) ?_) | fail
  try simp only [Act.put, List.getElem_toArray, List.getElem_cons_zero, List.getElem_cons_succ, List.setIfInBounds_toArray, List.set_cons_zero, List.set_cons_succ]
  first | (refine wpAnyH_take (i := 15) (v := ?_) rfl (by kernel_rfl) (by kernel_rfl) (by kernel_rfl) (fun _ _ _ h => h) (Or.inl ⟨by rfl, ?_⟩) (by assumption) ?_; rotate_left; (focus (intro wS hSw; (try dsimp only at hSw); first | (refine run_load_rowB XS5 hSw ?_ (fun _ => ?_) (fun _ => ?_); rfl; kernel_rfl; kernel_rfl) | (refine run_load_cellB XS5 hSw ?_ ?_ (fun _ => ?_); rfl; rfl; kernel_rfl) | (refine run_load_rowB XX5 hSw ?_ (fun _ => ?_) (fun _ => ?_); rfl; kernel_rfl; kernel_rfl) | (refine run_load_cellB XX5 hSw ?_ ?_ (fun _ => ?_); rfl; rfl; kernel_rfl) | (refine run_load_rowB YY5 hSw ?_ (fun _ => ?_) (fun _ => ?_); rfl; kernel_rfl; kernel_rfl) | (refine run_load_cellB YY5 hSw ?_ ?_ (fun _ => ?_); rfl; rfl; kernel_rfl) | ((try obtain ⟨hcS, hfS⟩ := bcellR hSw); go_simp; first | done | with_reducible rfl)))) | (refine wpAnyH_take (i := 15) rfl (by kernel_rfl) (by kernel_rfl) (by kernel_rfl) (fun _ _ _ h => h) (Or.inr ⟨by rfl, rfl⟩) (by assumption) ?_) | fail
  try simp only [Act.put, List.getElem_toArray, List.getElem_cons_zero, List.getElem_cons_succ, List.setIfInBounds_toArray, List.set_cons_zero, List.set_cons_succ]
  first | (refine wpAnyH_take (i := 17) (v := ?_) rfl (by kernel_rfl) (by kernel_rfl) (by kernel_rfl) (fun _ _ _ h => h) (Or.inl ⟨by rfl, ?_⟩) (by assumption) ?_; rotate_left; (focus (intro wS hSw; (try dsimp only at hSw); first | (refine run_load_rowB XS5 hSw ?_ (fun _ => ?_) (fun _ => ?_); rfl; kernel_rfl; kernel_rfl) | (refine run_load_cellB XS5 hSw ?_ ?_ (fun _ => ?_); rfl; rfl; kernel_rfl) | (refine run_load_rowB XX5 hSw ?_ (fun _ => ?_) (fun _ => ?_); rfl; kernel_rfl; kernel_rfl) | (refine run_load_cellB XX5 hSw ?_ ?_ (fun _ => ?_); rfl; rfl; kernel_rfl) | (refine run_load_rowB YY5 hSw ?_ (fun _ => ?_) (fun _ => ?_); rfl; kernel_rfl; kernel_rfl) | (refine run_load_cellB YY5 hSw ?_ ?_ (fun _ => ?_); rfl; rfl; kernel_rfl) | ((try obtain ⟨hcS, hfS⟩ := bcellR hSw); go_simp; first | done | with_reducible rfl)))) | (refine wpAnyH_take (i := 17) rfl (by kernel_rfl) (by kernel_rfl) (by kernel_rfl) (fun _ _ _ h => h) (Or.inr ⟨by rfl, rfl⟩) (by assumption) ?_) | fail
  try simp only [Act.put, List.getElem_toArray, List.getElem_cons_zero, List.getElem_cons_succ, List.setIfInBounds_toArray, List.set_cons_zero, List.set_cons_succ]
  refine wpAnyH_ready (rs := [16]) (by kernel_rfl) (by simp) (AllReadyH.cons rfl (fun K hK => ?_) AllReadyH.nil)
  have hS := (by assumption : Below _ Z5 _)
  (try go_simp)
  refine (ref17_any _ _ _ _ _ _ _ _ _ _).mono ?_
  rintro e w16 ⟨rfl, hb16⟩
  have hS16 := hS.trans (hb16.mono hS.size)
  clear hS
  refine hK.out _ _ ?_ (fun hHeld => ?_)
  · (try dsimp only)
    (first | assumption | exact (Below.refl _ _).drew)
  clear hK K
  try simp only [Act.put, List.getElem_toArray, List.getElem_cons_zero, List.getElem_cons_succ, List.setIfInBounds_toArray, List.set_cons_zero, List.set_cons_succ]
  first | (refine wpAnyH_take (i := 18) (v := ?_) rfl (by kernel_rfl) (by kernel_rfl) (by kernel_rfl) (fun _ _ _ h => h) (Or.inl ⟨by rfl, ?_⟩) (by assumption) ?_; rotate_left; (focus (intro wS hSw; (try dsimp only at hSw); first | ((try obtain ⟨hcS, hfS⟩ := bcellR hSw); go_simp; first | done | with_reducible rfl)))) | (refine wpAnyH_take (i := 18) rfl (by kernel_rfl) (by kernel_rfl) (by kernel_rfl) (fun _ _ _ h => h) (Or.inr ⟨by rfl, rfl⟩) (by assumption) ?_) | fail
  try simp only [Act.put, List.getElem_toArray, List.getElem_cons_zero, List.getElem_cons_succ, List.setIfInBounds_toArray, List.set_cons_zero, List.set_cons_succ]
  first | (refine wpAnyH_take (i := 19) (v := ?_) rfl (by kernel_rfl) (by kernel_rfl) (by kernel_rfl) (fun _ _ _ h => h) (Or.inl ⟨by rfl, ?_⟩) (by assumption) ?_; rotate_left; (focus (intro wS hSw; (try dsimp only at hSw); first | ((try obtain ⟨hcS, hfS⟩ := bcellR hSw); go_simp; first | done | with_reducible rfl)))) | (refine wpAnyH_take (i := 19) rfl (by kernel_rfl) (by kernel_rfl) (by kernel_rfl) (fun _ _ _ h => h) (Or.inr ⟨by rfl, rfl⟩) (by assumption) ?_) | fail
  try simp only [Act.put, List.getElem_toArray, List.getElem_cons_zero, List.getElem_cons_succ, List.setIfInBounds_toArray, List.set_cons_zero, List.set_cons_succ]
  first | (refine wpAnyH_take (i := 20) (v := ?_) rfl (by kernel_rfl) (by kernel_rfl) (by kernel_rfl) (fun _ _ _ h => h) (Or.inl ⟨by rfl, ?_⟩) (by assumption) ?_; rotate_left; (focus (intro wS hSw; (try dsimp only at hSw); first | ((try obtain ⟨hcS, hfS⟩ := bcellR hSw); go_simp; first | done | with_reducible rfl)))) | (refine wpAnyH_take (i := 20) rfl (by kernel_rfl) (by kernel_rfl) (by kernel_rfl) (fun _ _ _ h => h) (Or.inr ⟨by rfl, rfl⟩) (by assumption) ?_) | fail
  try simp only [Act.put, List.getElem_toArray, List.getElem_cons_zero, List.getElem_cons_succ, List.setIfInBounds_toArray, List.set_cons_zero, List.set_cons_succ]
  first | (refine wpAnyH_take (i := 21) (v := ?_) rfl (by kernel_rfl) (by kernel_rfl) (by kernel_rfl) (fun _ _ _ h => h) (Or.inl ⟨by rfl, ?_⟩) (by assumption) ?_; rotate_left; (focus (intro wS hSw; (try dsimp only at hSw); first | ((try obtain ⟨hcS, hfS⟩ := bcellR hSw); go_simp; first | done | with_reducible rfl)))) | (refine wpAnyH_take (i := 21) rfl (by kernel_rfl) (by kernel_rfl) (by kernel_rfl) (fun _ _ _ h => h) (Or.inr ⟨by rfl, rfl⟩) (by assumption) ?_) | fail
  try simp only [Act.put, List.getElem_toArray, List.getElem_cons_zero, List.getElem_cons_succ, List.setIfInBounds_toArray, List.set_cons_zero, List.set_cons_succ]
  first | (refine wpAnyH_take (i := 22) (v := ?_) rfl (by kernel_rfl) (by kernel_rfl) (by kernel_rfl) (fun _ _ _ h => h) (Or.inl ⟨by rfl, ?_⟩) (by assumption) ?_; rotate_left; (focus (intro wS hSw; (try dsimp only at hSw); first | ((try obtain ⟨hcS, hfS⟩ := bcellR hSw); go_simp; first | done | with_reducible rfl)))) | (refine wpAnyH_take (i := 22) rfl (by kernel_rfl) (by kernel_rfl) (by kernel_rfl) (fun _ _ _ h => h) (Or.inr ⟨by rfl, rfl⟩) (by assumption) ?_) | fail
  try simp only [Act.put, List.getElem_toArray, List.getElem_cons_zero, List.getElem_cons_succ, List.setIfInBounds_toArray, List.set_cons_zero, List.set_cons_succ]
  first | (refine wpAnyH_take (i := 23) (v := ?_) rfl (by kernel_rfl) (by kernel_rfl) (by kernel_rfl) (fun _ _ _ h => h) (Or.inl ⟨by rfl, ?_⟩) (by assumption) ?_; rotate_left; (focus (intro wS hSw; (try dsimp only at hSw); first | ((try obtain ⟨hcS, hfS⟩ := bcellR hSw); go_simp; first | done | with_reducible rfl)))) | (refine wpAnyH_take (i := 23) rfl (by kernel_rfl) (by kernel_rfl) (by kernel_rfl) (fun _ _ _ h => h) (Or.inr ⟨by rfl, rfl⟩) (by assumption) ?_) | fail
  try simp only [Act.put, List.getElem_toArray, List.getElem_cons_zero, List.getElem_cons_succ, List.setIfInBounds_toArray, List.set_cons_zero, List.set_cons_succ]
  first | (refine wpAnyH_take (i := 24) (v := ?_) rfl (by kernel_rfl) (by kernel_rfl) (by kernel_rfl) (fun _ _ _ h => h) (Or.inl ⟨by rfl, ?_⟩) (by assumption) ?_; rotate_left; (focus (intro wS hSw; (try dsimp only at hSw); first | ((try obtain ⟨hcS, hfS⟩ := bcellR hSw); go_simp; first | done | with_reducible rfl)))) | (refine wpAnyH_take (i := 24) rfl (by kernel_rfl) (by kernel_rfl) (by kernel_rfl) (fun _ _ _ h => h) (Or.inr ⟨by rfl, rfl⟩) (by assumption) ?_) | fail
  try simp only [Act.put, List.getElem_toArray, List.getElem_cons_zero, List.getElem_cons_succ, List.setIfInBounds_toArray, List.set_cons_zero, List.set_cons_succ]
  first | (refine wpAnyH_take (i := 25) (v := ?_) rfl (by kernel_rfl) (by kernel_rfl) (by kernel_rfl) (fun _ _ _ h => h) (Or.inl ⟨by rfl, ?_⟩) (by assumption) ?_; rotate_left; (focus (intro wS hSw; (try dsimp only at hSw); first | ((try obtain ⟨hcS, hfS⟩ := bcellR hSw); go_simp; first | done | with_reducible rfl)))) | (refine wpAnyH_take (i := 25) rfl (by kernel_rfl) (by kernel_rfl) (by kernel_rfl) (fun _ _ _ h => h) (Or.inr ⟨by rfl, rfl⟩) (by assumption) ?_) | fail
  try simp only [Act.put, List.getElem_toArray, List.getElem_cons_zero, List.getElem_cons_succ, List.setIfInBounds_toArray, List.set_cons_zero, List.set_cons_succ]
  refine wpAnyH_done (by kernel_rfl) ?_ _
  have hS := (by assumption : Below _ Z5 _)
  go_wp2_with fail
  go_ret
  exact ⟨by first | rfl | exact ret_bool rfl | exact ret_bool (by simp), hB5.trans (hS.mono hB5.size)⟩
end Go.Proofs.Ytgcjagffoeoldaa
