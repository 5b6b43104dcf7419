/- Parts of the proof, one behind the other. -/
import Derived.Test.YtmekhdclnhhhbaaKRootsOpensf
set_option linter.unusedSimpArgs false
set_option linter.unusedVariables false
section
namespace Go.Proofs.Ytmekhdclnhhhbaa
open Go.RowKit
set_option maxHeartbeats 8000000
set_option maxRecDepth 100000
theorem s16 {Z W : World} {y : Nat} {T' : TypeId} {d0 d1 d2 d3 d4 d5 d6 d7 d8 d9 d10 d11 d12 d13 d14 d15 : Value} (Y : Blk Z y #[d0, d1, d2, d3, d4, d5, d6, d7, d8, d9, d10, d11, d12, d13, d14, d15] T') (h : Below Z.heap.size Z W) :
  W.cell? ⟨y, 0, none⟩ = some d0 ∧ W.cell? ⟨y, 1, none⟩ = some d1 ∧ W.cell? ⟨y, 2, none⟩ = some d2 ∧ W.cell? ⟨y, 3, none⟩ = some d3 ∧ W.cell? ⟨y, 4, none⟩ = some d4 ∧ W.cell? ⟨y, 5, none⟩ = some d5 ∧ W.cell? ⟨y, 6, none⟩ = some d6 ∧ W.cell? ⟨y, 7, none⟩ = some d7 ∧ W.cell? ⟨y, 8, none⟩ = some d8 ∧ W.cell? ⟨y, 9, none⟩ = some d9 ∧ W.cell? ⟨y, 10, none⟩ = some d10 ∧ W.cell? ⟨y, 11, none⟩ = some d11 ∧ W.cell? ⟨y, 12, none⟩ = some d12 ∧ W.cell? ⟨y, 13, none⟩ = some d13 ∧ W.cell? ⟨y, 14, none⟩ = some d14 ∧ W.cell? ⟨y, 15, none⟩ = some d15 ∧ Below Z.heap.size Z W := by
 have Y' := Y.below h Y.lt
 exact ⟨Y'.cell 0 _ rfl, Y'.cell 1 _ rfl, Y'.cell 2 _ rfl, Y'.cell 3 _ rfl, Y'.cell 4 _ rfl, Y'.cell 5 _ rfl, Y'.cell 6 _ rfl, Y'.cell 7 _ rfl, Y'.cell 8 _ rfl, Y'.cell 9 _ rfl, Y'.cell 10 _ rfl, Y'.cell 11 _ rfl, Y'.cell 12 _ rfl, Y'.cell 13 _ rfl, Y'.cell 14 _ rfl, Y'.cell 15 _ rfl, h⟩
theorem rslDec_sum0 (l0 l1 l2 l3 l4 l5 l6 l7 l8 l9 l10 l11 l12 l13 l14 l15 : Int) (w : World) (hl0 : U64s l0) (hl1 : U64s l1) (hl2 : U64s l2) (hl3 : U64s l3) (hl4 : U64s l4) (hl5 : U64s l5) (hl6 : U64s l6) (hl7 : U64s l7) (hl8 : U64s l8) (hl9 : U64s l9) (hl10 : U64s l10) (hl11 : U64s l11) (hl12 : U64s l12) (hl13 : U64s l13) (hl14 : U64s l14) (hl15 : U64s l15) (hne : l7 ≠ St.sum7 l0 l1 l2 l3 l4 l5 l6) :
  Calls Try.prog 120 #[.agg #[.int .u64 l0, .int .u64 l1, .int .u64 l2, .int .u64 l3, .int .u64 l4, .int .u64 l5, .int .u64 l6, .int .u64 l7, .int .u64 l8, .int .u64 l9, .int .u64 l10, .int .u64 l11, .int .u64 l12, .int .u64 l13, .int .u64 l14, .int .u64 l15]] w fun e w' => e = .returned (.tuple #[.agg #[.int .u64 0, .int .i64 0, .int .i64 0, .int .i64 0, .int .i64 0, .int .i64 0, .int .i64 0, .int .i64 0, .int .i64 0], .int .i64 25]) ∧ Below w.heap.size w w' := by
 have d0 : (l7 != St.sum7 l0 l1 l2 l3 l4 l5 l6) = true := by rw [bne_iff_ne]; exact hne
 clear hne
 have W0 := Lib.hid (u64s_wf l0 l1 l2 l3 l4 l5 l6 hl0 hl1 hl2 hl3 hl4 hl5 hl6)
 have W1 := Lib.hid (u64s_wf l8 l9 l10 l11 l12 l13 l14 hl8 hl9 hl10 hl11 hl12 hl13 hl14)
 have b0 := St.sum7_bd l0 l1 l2 l3 l4 l5 l6
 have b1 := St.sum7_bd l8 l9 l10 l11 l12 l13 l14
 have q0 : IntKind.u64.wrap (St.sum7 l0 l1 l2 l3 l4 l5 l6) = St.sum7 l0 l1 l2 l3 l4 l5 l6 := by rw [IntKind.wrap_u64]; omega
 have q1 : IntKind.u64.wrap (St.sum7 l8 l9 l10 l11 l12 l13 l14) = St.sum7 l8 l9 l10 l11 l12 l13 l14 := by rw [IntKind.wrap_u64]; omega
 have X := Lib.hid ((Blk.new w #[.int .u64 l0, .int .u64 l1, .int .u64 l2, .int .u64 l3, .int .u64 l4, .int .u64 l5, .int .u64 l6, .int .u64 l7, .int .u64 l8, .int .u64 l9, .int .u64 l10, .int .u64 l11, .int .u64 l12, .int .u64 l13, .int .u64 l14, .int .u64 l15] 99).alloc (.cells #[.int .u64 0, .int .i64 0, .int .i64 0, .int .i64 0, .int .i64 0, .int .i64 0, .int .i64 0, .int .i64 0, .int .i64 0] 89))
 have R := Lib.hid (Blk.new1 w (.cells #[.int .u64 l0, .int .u64 l1, .int .u64 l2, .int .u64 l3, .int .u64 l4, .int .u64 l5, .int .u64 l6, .int .u64 l7, .int .u64 l8, .int .u64 l9, .int .u64 l10, .int .u64 l11, .int .u64 l12, .int .u64 l13, .int .u64 l14, .int .u64 l15] 99) #[.int .u64 0, .int .i64 0, .int .i64 0, .int .i64 0, .int .i64 0, .int .i64 0, .int .i64 0, .int .i64 0, .int .i64 0] 89)
 have hB : Below w.heap.size w ((w.alloc (.cells #[.int .u64 l0, .int .u64 l1, .int .u64 l2, .int .u64 l3, .int .u64 l4, .int .u64 l5, .int .u64 l6, .int .u64 l7, .int .u64 l8, .int .u64 l9, .int .u64 l10, .int .u64 l11, .int .u64 l12, .int .u64 l13, .int .u64 l14, .int .u64 l15] 99)).alloc (.cells #[.int .u64 0, .int .i64 0, .int .i64 0, .int .i64 0, .int .i64 0, .int .i64 0, .int .i64 0, .int .i64 0, .int .i64 0] 89)) := ((Below.refl _ _).alloc (Nat.le_refl _) _).alloc (by simp) _
 generalize hZ : ((w.alloc (.cells #[.int .u64 l0, .int .u64 l1, .int .u64 l2, .int .u64 l3, .int .u64 l4, .int .u64 l5, .int .u64 l6, .int .u64 l7, .int .u64 l8, .int .u64 l9, .int .u64 l10, .int .u64 l11, .int .u64 l12, .int .u64 l13, .int .u64 l14, .int .u64 l15] 99)).alloc (.cells #[.int .u64 0, .int .i64 0, .int .i64 0, .int .i64 0, .int .i64 0, .int .i64 0, .int .i64 0, .int .i64 0, .int .i64 0] 89)) = Z at *
 have s16' := s16 X.out (Below.refl _ _).drew
 go_enter Try.func120, Try.ntmps120
 go_wp2_with fail
 refine wp_region_held_drew (S := fun W => W.cell? ⟨w.heap.size, 0, none⟩ = some (.int .u64 l0) ∧ W.cell? ⟨w.heap.size, 1, none⟩ = some (.int .u64 l1) ∧ W.cell? ⟨w.heap.size, 2, none⟩ = some (.int .u64 l2) ∧ W.cell? ⟨w.heap.size, 3, none⟩ = some (.int .u64 l3) ∧ W.cell? ⟨w.heap.size, 4, none⟩ = some (.int .u64 l4) ∧ W.cell? ⟨w.heap.size, 5, none⟩ = some (.int .u64 l5) ∧ W.cell? ⟨w.heap.size, 6, none⟩ = some (.int .u64 l6) ∧ W.cell? ⟨w.heap.size, 7, none⟩ = some (.int .u64 l7) ∧ W.cell? ⟨w.heap.size, 8, none⟩ = some (.int .u64 l8) ∧ W.cell? ⟨w.heap.size, 9, none⟩ = some (.int .u64 l9) ∧ W.cell? ⟨w.heap.size, 10, none⟩ = some (.int .u64 l10) ∧ W.cell? ⟨w.heap.size, 11, none⟩ = some (.int .u64 l11) ∧ W.cell? ⟨w.heap.size, 12, none⟩ = some (.int .u64 l12) ∧ W.cell? ⟨w.heap.size, 13, none⟩ = some (.int .u64 l13) ∧ W.cell? ⟨w.heap.size, 14, none⟩ = some (.int .u64 l14) ∧ W.cell? ⟨w.heap.size, 15, none⟩ = some (.int .u64 l15) ∧ Below Z.heap.size Z W) (by kernel_rfl) ?_ (fun hHeld => ?_)
 ·(try dsimp only)
  (first | assumption | exact s16')
 first | (refine wpAnyH_take (i := 0) (v := ?_) rfl (by kernel_rfl) (by kernel_rfl) (by kernel_rfl) (fun _ _ _ h => h) (Or.inl ⟨by rfl, ?_⟩) (by assumption) ?_; rotate_left; (focus (intro w hSw; (try dsimp only at hSw); go_simp; first | done | with_reducible rfl))) | (refine wpAnyH_take (i := 0) rfl (by kernel_rfl) (by kernel_rfl) (by kernel_rfl) (fun _ _ _ h => h) (Or.inr ⟨by rfl, rfl⟩) (by assumption) ?_) | fail
 try simp only [Act.put, List.getElem_toArray, List.getElem_cons_zero, List.getElem_cons_succ, List.setIfInBounds_toArray, List.set_cons_zero, List.set_cons_succ]
 first | (refine wpAnyH_take (i := 1) (v := ?_) rfl (by kernel_rfl) (by kernel_rfl) (by kernel_rfl) (fun _ _ _ h => h) (Or.inl ⟨by rfl, ?_⟩) (by assumption) ?_; rotate_left; (focus (intro w hSw; (try dsimp only at hSw); go_simp; first | done | with_reducible rfl))) | (refine wpAnyH_take (i := 1) rfl (by kernel_rfl) (by kernel_rfl) (by kernel_rfl) (fun _ _ _ h => h) (Or.inr ⟨by rfl, rfl⟩) (by assumption) ?_) | fail
 try simp only [Act.put, List.getElem_toArray, List.getElem_cons_zero, List.getElem_cons_succ, List.setIfInBounds_toArray, List.set_cons_zero, List.set_cons_succ]
 first | (refine wpAnyH_take (i := 2) (v := ?_) rfl (by kernel_rfl) (by kernel_rfl) (by kernel_rfl) (fun _ _ _ h => h) (Or.inl ⟨by rfl, ?_⟩) (by assumption) ?_; rotate_left; (focus (intro w hSw; (try dsimp only at hSw); go_simp; first | done | with_reducible rfl))) | (refine wpAnyH_take (i := 2) rfl (by kernel_rfl) (by kernel_rfl) (by kernel_rfl) (fun _ _ _ h => h) (Or.inr ⟨by rfl, rfl⟩) (by assumption) ?_) | fail
 try simp only [Act.put, List.getElem_toArray, List.getElem_cons_zero, List.getElem_cons_succ, List.setIfInBounds_toArray, List.set_cons_zero, List.set_cons_succ]
 refine wpAnyH_ready (rs := [3]) (by kernel_rfl) (by simp) (AllReadyH.cons rfl (fun K hK => ?_) AllReadyH.nil)
 (try go_simp)
 have hS := (by assumption : _ ∧ _ ∧ _ ∧ _ ∧ _ ∧ _ ∧ _ ∧ _ ∧ _ ∧ _ ∧ _ ∧ _ ∧ _ ∧ _ ∧ _ ∧ _ ∧ Below _ _ _).2.2.2.2.2.2.2.2.2.2.2.2.2.2.2.2
 refine (rCrcWords_any _ 7 _ [l0, l1, l2, l3, l4, l5, l6] _ _ ((RowAt.of_blk_at X.out 0 7 (by simp)).below hS) W0.out (by omega) hS.size).mono ?_
 rintro e w5 ⟨rfl, hb5⟩
 rw [show Cr.more 0 (By.bytes [l0, l1, l2, l3, l4, l5, l6]) = St.sum7 l0 l1 l2 l3 l4 l5 l6 from rfl]
 have hb5' := hS.trans (hb5.mono hS.size)
 have hS' := s16 X.out hb5'
 clear hb5 hS
 refine hK.out _ _ ?_ (fun hHeld => ?_)
 ·(try dsimp only)
  (first | assumption | exact s16')
 clear hK K
 try simp only [Act.put, List.getElem_toArray, List.getElem_cons_zero, List.getElem_cons_succ, List.setIfInBounds_toArray, List.set_cons_zero, List.set_cons_succ]
 first | (refine wpAnyH_take (i := 4) (v := ?_) rfl (by kernel_rfl) (by kernel_rfl) (by kernel_rfl) (fun _ _ _ h => h) (Or.inl ⟨by rfl, ?_⟩) (by assumption) ?_; rotate_left; (focus (intro w hSw; (try dsimp only at hSw); go_simp; first | done | with_reducible rfl))) | (refine wpAnyH_take (i := 4) rfl (by kernel_rfl) (by kernel_rfl) (by kernel_rfl) (fun _ _ _ h => h) (Or.inr ⟨by rfl, rfl⟩) (by assumption) ?_) | fail
 try simp only [Act.put, List.getElem_toArray, List.getElem_cons_zero, List.getElem_cons_succ, List.setIfInBounds_toArray, List.set_cons_zero, List.set_cons_succ]
 first | (refine wpAnyH_take (i := 5) (v := ?_) rfl (by kernel_rfl) (by kernel_rfl) (by kernel_rfl) (fun _ _ _ h => h) (Or.inl ⟨by rfl, ?_⟩) (by assumption) ?_; rotate_left; (focus (intro w hSw; (try dsimp only at hSw); go_simp; first | done | with_reducible rfl))) | (refine wpAnyH_take (i := 5) rfl (by kernel_rfl) (by kernel_rfl) (by kernel_rfl) (fun _ _ _ h => h) (Or.inr ⟨by rfl, rfl⟩) (by assumption) ?_) | fail
 try simp only [Act.put, List.getElem_toArray, List.getElem_cons_zero, List.getElem_cons_succ, List.setIfInBounds_toArray, List.set_cons_zero, List.set_cons_succ]
 first | (refine wpAnyH_take (i := 6) (v := ?_) rfl (by kernel_rfl) (by kernel_rfl) (by kernel_rfl) (fun _ _ _ h => h) (Or.inl ⟨by rfl, ?_⟩) (by assumption) ?_; rotate_left; (focus (intro w hSw; (try dsimp only at hSw); go_simp; first | done | with_reducible rfl))) | (refine wpAnyH_take (i := 6) rfl (by kernel_rfl) (by kernel_rfl) (by kernel_rfl) (fun _ _ _ h => h) (Or.inr ⟨by rfl, rfl⟩) (by assumption) ?_) | fail
 try simp only [Act.put, List.getElem_toArray, List.getElem_cons_zero, List.getElem_cons_succ, List.setIfInBounds_toArray, List.set_cons_zero, List.set_cons_succ]
 first | (refine wpAnyH_take (i := 7) rfl (by kernel_rfl) (by kernel_rfl) (by kernel_rfl) (fun _ _ _ h => h) (Or.inr ⟨by rfl, rfl⟩) (by assumption) ?_) | (refine wpAnyH_take (i := 7) (v := ?_) rfl (by kernel_rfl) (by kernel_rfl) (by kernel_rfl) (fun _ _ _ h => h) (Or.inl ⟨by rfl, ?_⟩) (by assumption) ?_; rotate_left; (focus (intro w hSw; (try dsimp only at hSw); go_simp; first | done | with_reducible rfl))) | fail
 try simp only [Act.put, List.getElem_toArray, List.getElem_cons_zero, List.getElem_cons_succ, List.setIfInBounds_toArray, List.set_cons_zero, List.set_cons_succ]
 first | (refine wpAnyH_take (i := 8) rfl (by kernel_rfl) (by kernel_rfl) (by kernel_rfl) (fun _ _ _ h => h) (Or.inr ⟨by rfl, rfl⟩) (by assumption) ?_) | (refine wpAnyH_take (i := 8) (v := ?_) rfl (by kernel_rfl) (by kernel_rfl) (by kernel_rfl) (fun _ _ _ h => h) (Or.inl ⟨by rfl, ?_⟩) (by assumption) ?_; rotate_left; (focus (intro w hSw; (try dsimp only at hSw); go_simp; first | done | with_reducible rfl))) | fail
 try simp only [Act.put, List.getElem_toArray, List.getElem_cons_zero, List.getElem_cons_succ, List.setIfInBounds_toArray, List.set_cons_zero, List.set_cons_succ]
 first | (refine wpAnyH_take (i := 9) rfl (by kernel_rfl) (by kernel_rfl) (by kernel_rfl) (fun _ _ _ h => h) (Or.inr ⟨by rfl, rfl⟩) (by assumption) ?_) | (refine wpAnyH_take (i := 9) (v := ?_) rfl (by kernel_rfl) (by kernel_rfl) (by kernel_rfl) (fun _ _ _ h => h) (Or.inl ⟨by rfl, ?_⟩) (by assumption) ?_; rotate_left; (focus (intro w hSw; (try dsimp only at hSw); go_simp; first | done | with_reducible rfl))) | fail
 try simp only [Act.put, List.getElem_toArray, List.getElem_cons_zero, List.getElem_cons_succ, List.setIfInBounds_toArray, List.set_cons_zero, List.set_cons_succ]
 first | (refine wpAnyH_take (i := 10) rfl (by kernel_rfl) (by kernel_rfl) (by kernel_rfl) (fun _ _ _ h => h) (Or.inr ⟨by rfl, rfl⟩) (by assumption) ?_) | (refine wpAnyH_take (i := 10) (v := ?_) rfl (by kernel_rfl) (by kernel_rfl) (by kernel_rfl) (fun _ _ _ h => h) (Or.inl ⟨by rfl, ?_⟩) (by assumption) ?_; rotate_left; (focus (intro w hSw; (try dsimp only at hSw); go_simp; first | done | with_reducible rfl))) | fail
 try simp only [Act.put, List.getElem_toArray, List.getElem_cons_zero, List.getElem_cons_succ, List.setIfInBounds_toArray, List.set_cons_zero, List.set_cons_succ]
 first | (refine wpAnyH_take (i := 11) rfl (by kernel_rfl) (by kernel_rfl) (by kernel_rfl) (fun _ _ _ h => h) (Or.inr ⟨by rfl, rfl⟩) (by assumption) ?_) | (refine wpAnyH_take (i := 11) (v := ?_) rfl (by kernel_rfl) (by kernel_rfl) (by kernel_rfl) (fun _ _ _ h => h) (Or.inl ⟨by rfl, ?_⟩) (by assumption) ?_; rotate_left; (focus (intro w hSw; (try dsimp only at hSw); go_simp; first | done | with_reducible rfl))) | fail
 try simp only [Act.put, List.getElem_toArray, List.getElem_cons_zero, List.getElem_cons_succ, List.setIfInBounds_toArray, List.set_cons_zero, List.set_cons_succ]
 first | (refine wpAnyH_take (i := 12) rfl (by kernel_rfl) (by kernel_rfl) (by kernel_rfl) (fun _ _ _ h => h) (Or.inr ⟨by rfl, rfl⟩) (by assumption) ?_) | (refine wpAnyH_take (i := 12) (v := ?_) rfl (by kernel_rfl) (by kernel_rfl) (by kernel_rfl) (fun _ _ _ h => h) (Or.inl ⟨by rfl, ?_⟩) (by assumption) ?_; rotate_left; (focus (intro w hSw; (try dsimp only at hSw); go_simp; first | done | with_reducible rfl))) | fail
 try simp only [Act.put, List.getElem_toArray, List.getElem_cons_zero, List.getElem_cons_succ, List.setIfInBounds_toArray, List.set_cons_zero, List.set_cons_succ]
 first | (refine wpAnyH_take (i := 13) (v := ?_) rfl (by kernel_rfl) (by kernel_rfl) (by kernel_rfl) (fun _ _ _ h => h) (Or.inl ⟨by rfl, ?_⟩) (by assumption) ?_; rotate_left; (focus (intro w hSw; (try dsimp only at hSw); go_simp; first | done | with_reducible rfl))) | (refine wpAnyH_take (i := 13) rfl (by kernel_rfl) (by kernel_rfl) (by kernel_rfl) (fun _ _ _ h => h) (Or.inr ⟨by rfl, rfl⟩) (by assumption) ?_) | fail
 try simp only [Act.put, List.getElem_toArray, List.getElem_cons_zero, List.getElem_cons_succ, List.setIfInBounds_toArray, List.set_cons_zero, List.set_cons_succ]
 refine wpAnyH_done (by kernel_rfl) ?_ _
 have Xw5 := X.out.below hb5' X.out.lt
 have Rw5 := R.out.below hb5' R.out.lt
 have Bw5 := hB.trans (hb5'.mono hB.size)
 clear s16'
 have r0 := Rw5.cell 0 _ rfl
 have r1 := Rw5.cell 1 _ rfl
 have r2 := Rw5.cell 2 _ rfl
 have r3 := Rw5.cell 3 _ rfl
 have r4 := Rw5.cell 4 _ rfl
 have r5 := Rw5.cell 5 _ rfl
 have r6 := Rw5.cell 6 _ rfl
 have r7 := Rw5.cell 7 _ rfl
 have r8 := Rw5.cell 8 _ rfl
 have f0 := Rw5.frozen 0
 have f1 := Rw5.frozen 1
 have f2 := Rw5.frozen 2
 have f3 := Rw5.frozen 3
 have f4 := Rw5.frozen 4
 have f5 := Rw5.frozen 5
 have f6 := Rw5.frozen 6
 have f7 := Rw5.frozen 7
 have f8 := Rw5.frozen 8
 go_wp2_with fail
 exact bodyPost_ret (v := .tuple #[.agg #[.int .u64 0, .int .i64 0, .int .i64 0, .int .i64 0, .int .i64 0, .int .i64 0, .int .i64 0, .int .i64 0, .int .i64 0], .int .i64 25]) (by simp [results, go_sem, Try.results120, r0, r1, r2, r3, r4, r5, r6, r7, r8]) rfl ⟨rfl, (((((((((Bw5).setCell (by simp) _).setCell (by simp) _).setCell (by simp) _).setCell (by simp) _).setCell (by simp) _).setCell (by simp) _).setCell (by simp) _).setCell (by simp) _).setCell (by simp) _⟩
theorem rslDec_sum1 (l0 l1 l2 l3 l4 l5 l6 l8 l9 l10 l11 l12 l13 l14 l15 : Int) (w : World) (hl0 : U64s l0) (hl1 : U64s l1) (hl2 : U64s l2) (hl3 : U64s l3) (hl4 : U64s l4) (hl5 : U64s l5) (hl6 : U64s l6) (hl8 : U64s l8) (hl9 : U64s l9) (hl10 : U64s l10) (hl11 : U64s l11) (hl12 : U64s l12) (hl13 : U64s l13) (hl14 : U64s l14) (hl15 : U64s l15) (hne : l15 ≠ St.sum7 l8 l9 l10 l11 l12 l13 l14) :
  Calls Try.prog 120 #[.agg #[.int .u64 l0, .int .u64 l1, .int .u64 l2, .int .u64 l3, .int .u64 l4, .int .u64 l5, .int .u64 l6, .int .u64 (St.sum7 l0 l1 l2 l3 l4 l5 l6), .int .u64 l8, .int .u64 l9, .int .u64 l10, .int .u64 l11, .int .u64 l12, .int .u64 l13, .int .u64 l14, .int .u64 l15]] w fun e w' => e = .returned (.tuple #[.agg #[.int .u64 0, .int .i64 0, .int .i64 0, .int .i64 0, .int .i64 0, .int .i64 0, .int .i64 0, .int .i64 0, .int .i64 0], .int .i64 25]) ∧ Below w.heap.size w w' := by
 have d1 : (l15 != St.sum7 l8 l9 l10 l11 l12 l13 l14) = true := by rw [bne_iff_ne]; exact hne
 clear hne
 have W0 := Lib.hid (u64s_wf l0 l1 l2 l3 l4 l5 l6 hl0 hl1 hl2 hl3 hl4 hl5 hl6)
 have W1 := Lib.hid (u64s_wf l8 l9 l10 l11 l12 l13 l14 hl8 hl9 hl10 hl11 hl12 hl13 hl14)
 have b0 := St.sum7_bd l0 l1 l2 l3 l4 l5 l6
 have b1 := St.sum7_bd l8 l9 l10 l11 l12 l13 l14
 have q0 : IntKind.u64.wrap (St.sum7 l0 l1 l2 l3 l4 l5 l6) = St.sum7 l0 l1 l2 l3 l4 l5 l6 := by rw [IntKind.wrap_u64]; omega
 have q1 : IntKind.u64.wrap (St.sum7 l8 l9 l10 l11 l12 l13 l14) = St.sum7 l8 l9 l10 l11 l12 l13 l14 := by rw [IntKind.wrap_u64]; omega
 have X := Lib.hid ((Blk.new w #[.int .u64 l0, .int .u64 l1, .int .u64 l2, .int .u64 l3, .int .u64 l4, .int .u64 l5, .int .u64 l6, .int .u64 (St.sum7 l0 l1 l2 l3 l4 l5 l6), .int .u64 l8, .int .u64 l9, .int .u64 l10, .int .u64 l11, .int .u64 l12, .int .u64 l13, .int .u64 l14, .int .u64 l15] 99).alloc (.cells #[.int .u64 0, .int .i64 0, .int .i64 0, .int .i64 0, .int .i64 0, .int .i64 0, .int .i64 0, .int .i64 0, .int .i64 0] 89))
 have R := Lib.hid (Blk.new1 w (.cells #[.int .u64 l0, .int .u64 l1, .int .u64 l2, .int .u64 l3, .int .u64 l4, .int .u64 l5, .int .u64 l6, .int .u64 (St.sum7 l0 l1 l2 l3 l4 l5 l6), .int .u64 l8, .int .u64 l9, .int .u64 l10, .int .u64 l11, .int .u64 l12, .int .u64 l13, .int .u64 l14, .int .u64 l15] 99) #[.int .u64 0, .int .i64 0, .int .i64 0, .int .i64 0, .int .i64 0, .int .i64 0, .int .i64 0, .int .i64 0, .int .i64 0] 89)
 have hB : Below w.heap.size w ((w.alloc (.cells #[.int .u64 l0, .int .u64 l1, .int .u64 l2, .int .u64 l3, .int .u64 l4, .int .u64 l5, .int .u64 l6, .int .u64 (St.sum7 l0 l1 l2 l3 l4 l5 l6), .int .u64 l8, .int .u64 l9, .int .u64 l10, .int .u64 l11, .int .u64 l12, .int .u64 l13, .int .u64 l14, .int .u64 l15] 99)).alloc (.cells #[.int .u64 0, .int .i64 0, .int .i64 0, .int .i64 0, .int .i64 0, .int .i64 0, .int .i64 0, .int .i64 0, .int .i64 0] 89)) := ((Below.refl _ _).alloc (Nat.le_refl _) _).alloc (by simp) _
 generalize hZ : ((w.alloc (.cells #[.int .u64 l0, .int .u64 l1, .int .u64 l2, .int .u64 l3, .int .u64 l4, .int .u64 l5, .int .u64 l6, .int .u64 (St.sum7 l0 l1 l2 l3 l4 l5 l6), .int .u64 l8, .int .u64 l9, .int .u64 l10, .int .u64 l11, .int .u64 l12, .int .u64 l13, .int .u64 l14, .int .u64 l15] 99)).alloc (.cells #[.int .u64 0, .int .i64 0, .int .i64 0, .int .i64 0, .int .i64 0, .int .i64 0, .int .i64 0, .int .i64 0, .int .i64 0] 89)) = Z at *
 have s16' := s16 X.out (Below.refl _ _).drew
 go_enter Try.func120, Try.ntmps120
 go_wp2_with fail
 refine wp_region_held_drew (S := fun W => W.cell? ⟨w.heap.size, 0, none⟩ = some (.int .u64 l0) ∧ W.cell? ⟨w.heap.size, 1, none⟩ = some (.int .u64 l1) ∧ W.cell? ⟨w.heap.size, 2, none⟩ = some (.int .u64 l2) ∧ W.cell? ⟨w.heap.size, 3, none⟩ = some (.int .u64 l3) ∧ W.cell? ⟨w.heap.size, 4, none⟩ = some (.int .u64 l4) ∧ W.cell? ⟨w.heap.size, 5, none⟩ = some (.int .u64 l5) ∧ W.cell? ⟨w.heap.size, 6, none⟩ = some (.int .u64 l6) ∧ W.cell? ⟨w.heap.size, 7, none⟩ = some (.int .u64 (St.sum7 l0 l1 l2 l3 l4 l5 l6)) ∧ W.cell? ⟨w.heap.size, 8, none⟩ = some (.int .u64 l8) ∧ W.cell? ⟨w.heap.size, 9, none⟩ = some (.int .u64 l9) ∧ W.cell? ⟨w.heap.size, 10, none⟩ = some (.int .u64 l10) ∧ W.cell? ⟨w.heap.size, 11, none⟩ = some (.int .u64 l11) ∧ W.cell? ⟨w.heap.size, 12, none⟩ = some (.int .u64 l12) ∧ W.cell? ⟨w.heap.size, 13, none⟩ = some (.int .u64 l13) ∧ W.cell? ⟨w.heap.size, 14, none⟩ = some (.int .u64 l14) ∧ W.cell? ⟨w.heap.size, 15, none⟩ = some (.int .u64 l15) ∧ Below Z.heap.size Z W) (by kernel_rfl) ?_ (fun hHeld => ?_)
 ·(try dsimp only)
  (first | assumption | exact s16')
 first | (refine wpAnyH_take (i := 0) (v := ?_) rfl (by kernel_rfl) (by kernel_rfl) (by kernel_rfl) (fun _ _ _ h => h) (Or.inl ⟨by rfl, ?_⟩) (by assumption) ?_; rotate_left; (focus (intro w hSw; (try dsimp only at hSw); go_simp; first | done | with_reducible rfl))) | (refine wpAnyH_take (i := 0) rfl (by kernel_rfl) (by kernel_rfl) (by kernel_rfl) (fun _ _ _ h => h) (Or.inr ⟨by rfl, rfl⟩) (by assumption) ?_) | fail
 try simp only [Act.put, List.getElem_toArray, List.getElem_cons_zero, List.getElem_cons_succ, List.setIfInBounds_toArray, List.set_cons_zero, List.set_cons_succ]
 first | (refine wpAnyH_take (i := 1) (v := ?_) rfl (by kernel_rfl) (by kernel_rfl) (by kernel_rfl) (fun _ _ _ h => h) (Or.inl ⟨by rfl, ?_⟩) (by assumption) ?_; rotate_left; (focus (intro w hSw; (try dsimp only at hSw); go_simp; first | done | with_reducible rfl))) | (refine wpAnyH_take (i := 1) rfl (by kernel_rfl) (by kernel_rfl) (by kernel_rfl) (fun _ _ _ h => h) (Or.inr ⟨by rfl, rfl⟩) (by assumption) ?_) | fail
 try simp only [Act.put, List.getElem_toArray, List.getElem_cons_zero, List.getElem_cons_succ, List.setIfInBounds_toArray, List.set_cons_zero, List.set_cons_succ]
 first | (refine wpAnyH_take (i := 2) (v := ?_) rfl (by kernel_rfl) (by kernel_rfl) (by kernel_rfl) (fun _ _ _ h => h) (Or.inl ⟨by rfl, ?_⟩) (by assumption) ?_; rotate_left; (focus (intro w hSw; (try dsimp only at hSw); go_simp; first | done | with_reducible rfl))) | (refine wpAnyH_take (i := 2) rfl (by kernel_rfl) (by kernel_rfl) (by kernel_rfl) (fun _ _ _ h => h) (Or.inr ⟨by rfl, rfl⟩) (by assumption) ?_) | fail
 try simp only [Act.put, List.getElem_toArray, List.getElem_cons_zero, List.getElem_cons_succ, List.setIfInBounds_toArray, List.set_cons_zero, List.set_cons_succ]
 refine wpAnyH_ready (rs := [3]) (by kernel_rfl) (by simp) (AllReadyH.cons rfl (fun K hK => ?_) AllReadyH.nil)
 (try go_simp)
 have hS := (by assumption : _ ∧ _ ∧ _ ∧ _ ∧ _ ∧ _ ∧ _ ∧ _ ∧ _ ∧ _ ∧ _ ∧ _ ∧ _ ∧ _ ∧ _ ∧ _ ∧ Below _ _ _).2.2.2.2.2.2.2.2.2.2.2.2.2.2.2.2
 refine (rCrcWords_any _ 7 _ [l0, l1, l2, l3, l4, l5, l6] _ _ ((RowAt.of_blk_at X.out 0 7 (by simp)).below hS) W0.out (by omega) hS.size).mono ?_
 rintro e w5 ⟨rfl, hb5⟩
 rw [show Cr.more 0 (By.bytes [l0, l1, l2, l3, l4, l5, l6]) = St.sum7 l0 l1 l2 l3 l4 l5 l6 from rfl]
 have hb5' := hS.trans (hb5.mono hS.size)
 have hS' := s16 X.out hb5'
 clear hb5 hS
 refine hK.out _ _ ?_ (fun hHeld => ?_)
 ·(try dsimp only)
  (first | assumption | exact s16')
 clear hK K
 try simp only [Act.put, List.getElem_toArray, List.getElem_cons_zero, List.getElem_cons_succ, List.setIfInBounds_toArray, List.set_cons_zero, List.set_cons_succ]
 first | (refine wpAnyH_take (i := 4) (v := ?_) rfl (by kernel_rfl) (by kernel_rfl) (by kernel_rfl) (fun _ _ _ h => h) (Or.inl ⟨by rfl, ?_⟩) (by assumption) ?_; rotate_left; (focus (intro w hSw; (try dsimp only at hSw); go_simp; first | done | with_reducible rfl))) | (refine wpAnyH_take (i := 4) rfl (by kernel_rfl) (by kernel_rfl) (by kernel_rfl) (fun _ _ _ h => h) (Or.inr ⟨by rfl, rfl⟩) (by assumption) ?_) | fail
 try simp only [Act.put, List.getElem_toArray, List.getElem_cons_zero, List.getElem_cons_succ, List.setIfInBounds_toArray, List.set_cons_zero, List.set_cons_succ]
 first | (refine wpAnyH_take (i := 5) (v := ?_) rfl (by kernel_rfl) (by kernel_rfl) (by kernel_rfl) (fun _ _ _ h => h) (Or.inl ⟨by rfl, ?_⟩) (by assumption) ?_; rotate_left; (focus (intro w hSw; (try dsimp only at hSw); go_simp; first | done | with_reducible rfl))) | (refine wpAnyH_take (i := 5) rfl (by kernel_rfl) (by kernel_rfl) (by kernel_rfl) (fun _ _ _ h => h) (Or.inr ⟨by rfl, rfl⟩) (by assumption) ?_) | fail
 try simp only [Act.put, List.getElem_toArray, List.getElem_cons_zero, List.getElem_cons_succ, List.setIfInBounds_toArray, List.set_cons_zero, List.set_cons_succ]
 first | (refine wpAnyH_take (i := 6) (v := ?_) rfl (by kernel_rfl) (by kernel_rfl) (by kernel_rfl) (fun _ _ _ h => h) (Or.inl ⟨by rfl, ?_⟩) (by assumption) ?_; rotate_left; (focus (intro w hSw; (try dsimp only at hSw); go_simp; first | done | with_reducible rfl))) | (refine wpAnyH_take (i := 6) rfl (by kernel_rfl) (by kernel_rfl) (by kernel_rfl) (fun _ _ _ h => h) (Or.inr ⟨by rfl, rfl⟩) (by assumption) ?_) | fail
 try simp only [Act.put, List.getElem_toArray, List.getElem_cons_zero, List.getElem_cons_succ, List.setIfInBounds_toArray, List.set_cons_zero, List.set_cons_succ]
 first | (refine wpAnyH_take (i := 7) (v := ?_) rfl (by kernel_rfl) (by kernel_rfl) (by kernel_rfl) (fun _ _ _ h => h) (Or.inl ⟨by rfl, ?_⟩) (by assumption) ?_; rotate_left; (focus (intro w hSw; (try dsimp only at hSw); go_simp; first | done | with_reducible rfl))) | (refine wpAnyH_take (i := 7) rfl (by kernel_rfl) (by kernel_rfl) (by kernel_rfl) (fun _ _ _ h => h) (Or.inr ⟨by rfl, rfl⟩) (by assumption) ?_) | fail
 try simp only [Act.put, List.getElem_toArray, List.getElem_cons_zero, List.getElem_cons_succ, List.setIfInBounds_toArray, List.set_cons_zero, List.set_cons_succ]
 first | (refine wpAnyH_take (i := 8) (v := ?_) rfl (by kernel_rfl) (by kernel_rfl) (by kernel_rfl) (fun _ _ _ h => h) (Or.inl ⟨by rfl, ?_⟩) (by assumption) ?_; rotate_left; (focus (intro w hSw; (try dsimp only at hSw); go_simp; first | done | with_reducible rfl))) | (refine wpAnyH_take (i := 8) rfl (by kernel_rfl) (by kernel_rfl) (by kernel_rfl) (fun _ _ _ h => h) (Or.inr ⟨by rfl, rfl⟩) (by assumption) ?_) | fail
 try simp only [Act.put, List.getElem_toArray, List.getElem_cons_zero, List.getElem_cons_succ, List.setIfInBounds_toArray, List.set_cons_zero, List.set_cons_succ]
 first | (refine wpAnyH_take (i := 9) (v := ?_) rfl (by kernel_rfl) (by kernel_rfl) (by kernel_rfl) (fun _ _ _ h => h) (Or.inl ⟨by rfl, ?_⟩) (by assumption) ?_; rotate_left; (focus (intro w hSw; (try dsimp only at hSw); go_simp; first | done | with_reducible rfl))) | (refine wpAnyH_take (i := 9) rfl (by kernel_rfl) (by kernel_rfl) (by kernel_rfl) (fun _ _ _ h => h) (Or.inr ⟨by rfl, rfl⟩) (by assumption) ?_) | fail
 try simp only [Act.put, List.getElem_toArray, List.getElem_cons_zero, List.getElem_cons_succ, List.setIfInBounds_toArray, List.set_cons_zero, List.set_cons_succ]
 refine wpAnyH_ready (rs := [10]) (by kernel_rfl) (by simp) (AllReadyH.cons rfl (fun K hK => ?_) AllReadyH.nil)
 (try go_simp)
 refine (rCrcWords_any _ 7 _ [l8, l9, l10, l11, l12, l13, l14] _ _ ((RowAt.of_blk_at X.out 8 7 (by simp)).below hb5') W1.out (by omega) hb5'.size).mono ?_
 rintro e w6 ⟨rfl, hb6⟩
 rw [show Cr.more 0 (By.bytes [l8, l9, l10, l11, l12, l13, l14]) = St.sum7 l8 l9 l10 l11 l12 l13 l14 from rfl]
 have hb6' := hb5'.trans (hb6.mono hb5'.size)
 have hS' := s16 X.out hb6'
 clear hb6
 refine hK.out _ _ ?_ (fun hHeld => ?_)
 ·(try dsimp only)
  (first | assumption | exact s16')
 clear hK K
 try simp only [Act.put, List.getElem_toArray, List.getElem_cons_zero, List.getElem_cons_succ, List.setIfInBounds_toArray, List.set_cons_zero, List.set_cons_succ]
 first | (refine wpAnyH_take (i := 11) (v := ?_) rfl (by kernel_rfl) (by kernel_rfl) (by kernel_rfl) (fun _ _ _ h => h) (Or.inl ⟨by rfl, ?_⟩) (by assumption) ?_; rotate_left; (focus (intro w hSw; (try dsimp only at hSw); go_simp; first | done | with_reducible rfl))) | (refine wpAnyH_take (i := 11) rfl (by kernel_rfl) (by kernel_rfl) (by kernel_rfl) (fun _ _ _ h => h) (Or.inr ⟨by rfl, rfl⟩) (by assumption) ?_) | fail
 try simp only [Act.put, List.getElem_toArray, List.getElem_cons_zero, List.getElem_cons_succ, List.setIfInBounds_toArray, List.set_cons_zero, List.set_cons_succ]
 first | (refine wpAnyH_take (i := 12) (v := ?_) rfl (by kernel_rfl) (by kernel_rfl) (by kernel_rfl) (fun _ _ _ h => h) (Or.inl ⟨by rfl, ?_⟩) (by assumption) ?_; rotate_left; (focus (intro w hSw; (try dsimp only at hSw); go_simp; first | done | with_reducible rfl))) | (refine wpAnyH_take (i := 12) rfl (by kernel_rfl) (by kernel_rfl) (by kernel_rfl) (fun _ _ _ h => h) (Or.inr ⟨by rfl, rfl⟩) (by assumption) ?_) | fail
 try simp only [Act.put, List.getElem_toArray, List.getElem_cons_zero, List.getElem_cons_succ, List.setIfInBounds_toArray, List.set_cons_zero, List.set_cons_succ]
 first | (refine wpAnyH_take (i := 13) (v := ?_) rfl (by kernel_rfl) (by kernel_rfl) (by kernel_rfl) (fun _ _ _ h => h) (Or.inl ⟨by rfl, ?_⟩) (by assumption) ?_; rotate_left; (focus (intro w hSw; (try dsimp only at hSw); go_simp; first | done | with_reducible rfl))) | (refine wpAnyH_take (i := 13) rfl (by kernel_rfl) (by kernel_rfl) (by kernel_rfl) (fun _ _ _ h => h) (Or.inr ⟨by rfl, rfl⟩) (by assumption) ?_) | fail
 try simp only [Act.put, List.getElem_toArray, List.getElem_cons_zero, List.getElem_cons_succ, List.setIfInBounds_toArray, List.set_cons_zero, List.set_cons_succ]
 refine wpAnyH_done (by kernel_rfl) ?_ _
 have Xw6 := X.out.below hb6' X.out.lt
 have Rw6 := R.out.below hb6' R.out.lt
 have Bw6 := hB.trans (hb6'.mono hB.size)
 clear s16'
 have r0 := Rw6.cell 0 _ rfl
 have r1 := Rw6.cell 1 _ rfl
 have r2 := Rw6.cell 2 _ rfl
 have r3 := Rw6.cell 3 _ rfl
 have r4 := Rw6.cell 4 _ rfl
 have r5 := Rw6.cell 5 _ rfl
 have r6 := Rw6.cell 6 _ rfl
 have r7 := Rw6.cell 7 _ rfl
 have r8 := Rw6.cell 8 _ rfl
 have f0 := Rw6.frozen 0
 have f1 := Rw6.frozen 1
 have f2 := Rw6.frozen 2
 have f3 := Rw6.frozen 3
 have f4 := Rw6.frozen 4
 have f5 := Rw6.frozen 5
 have f6 := Rw6.frozen 6
 have f7 := Rw6.frozen 7
 have f8 := Rw6.frozen 8
 go_wp2_with fail
 exact bodyPost_ret (v := .tuple #[.agg #[.int .u64 0, .int .i64 0, .int .i64 0, .int .i64 0, .int .i64 0, .int .i64 0, .int .i64 0, .int .i64 0, .int .i64 0], .int .i64 25]) (by simp [results, go_sem, Try.results120, r0, r1, r2, r3, r4, r5, r6, r7, r8]) rfl ⟨rfl, (((((((((Bw6).setCell (by simp) _).setCell (by simp) _).setCell (by simp) _).setCell (by simp) _).setCell (by simp) _).setCell (by simp) _).setCell (by simp) _).setCell (by simp) _).setCell (by simp) _⟩
def rF (l0 l1 l2 l3 l4 l9 l10 l11 l12 : Int) : Nat → Array Value
 | 0 => #[.int .u64 l0, .int .i64 0, .int .i64 0, .int .i64 0, .int .i64 0, .int .i64 0, .int .i64 0, .int .i64 0, .int .i64 0]
 | 1 => #[.int .u64 l0, .int .i64 l1, .int .i64 0, .int .i64 0, .int .i64 0, .int .i64 l9, .int .i64 0, .int .i64 0, .int .i64 0]
 | 2 => #[.int .u64 l0, .int .i64 l1, .int .i64 l2, .int .i64 0, .int .i64 0, .int .i64 l9, .int .i64 l10, .int .i64 0, .int .i64 0]
 | 3 => #[.int .u64 l0, .int .i64 l1, .int .i64 l2, .int .i64 l3, .int .i64 0, .int .i64 l9, .int .i64 l10, .int .i64 l11, .int .i64 0]
 | _ + 4 => #[.int .u64 l0, .int .i64 l1, .int .i64 l2, .int .i64 l3, .int .i64 l4, .int .i64 l9, .int .i64 l10, .int .i64 l11, .int .i64 l12]
def rOK (l1 l2 l3 l4 l9 l10 l11 l12 : Int) (k : Nat) : Prop := (1 ≤ k → l1 ≤ 131071 ∧ l9 ≤ 131071) ∧ (2 ≤ k → l2 ≤ 131071 ∧ l10 ≤ 131071) ∧ (3 ≤ k → l3 ≤ 131071 ∧ l11 ≤ 131071) ∧ (4 ≤ k → l4 ≤ 131071 ∧ l12 ≤ 131071)
theorem rightB_root (l0 l1 l2 l3 l4 l9 l10 l11 l12 : Int) (h : St.rightB l0 [l1, l2, l3, l4, l9, l10, l11, l12] = true) : l1 ≤ 131071 ∧ l2 ≤ 131071 ∧ l3 ≤ 131071 ∧ l4 ≤ 131071 ∧ l9 ≤ 131071 ∧ l10 ≤ 131071 ∧ l11 ≤ 131071 ∧ l12 ≤ 131071 := by
 unfold St.rightB St.okR at h
 simp only [decide_eq_true_eq, List.mem_cons, List.not_mem_nil, or_false, forall_eq_or_imp, forall_eq] at h
 omega
theorem rslDec_both (l0 l1 l2 l3 l4 l5 l6 l8 l9 l10 l11 l12 l13 l14 : Int) (w : World) (hl0 : U64s l0) (hl1 : U64s l1) (hl2 : U64s l2) (hl3 : U64s l3) (hl4 : U64s l4) (hl5 : U64s l5) (hl6 : U64s l6) (hl8 : U64s l8) (hl9 : U64s l9) (hl10 : U64s l10) (hl11 : U64s l11) (hl12 : U64s l12) (hl13 : U64s l13) (hl14 : U64s l14) (V : Value) (C : Int) (hV : IsDec l0 l1 l2 l3 l4 l5 l6 l8 l9 l10 l11 l12 l13 l14 V C) :
  Calls Try.prog 120 #[.agg #[.int .u64 l0, .int .u64 l1, .int .u64 l2, .int .u64 l3, .int .u64 l4, .int .u64 l5, .int .u64 l6, .int .u64 (St.sum7 l0 l1 l2 l3 l4 l5 l6), .int .u64 l8, .int .u64 l9, .int .u64 l10, .int .u64 l11, .int .u64 l12, .int .u64 l13, .int .u64 l14, .int .u64 (St.sum7 l8 l9 l10 l11 l12 l13 l14)]] w fun e w' => e = .returned (.tuple #[V, .int .i64 C]) ∧ Below w.heap.size w w' := by
 replace hV := Lib.hid hV
 have W0 := Lib.hid (u64s_wf l0 l1 l2 l3 l4 l5 l6 hl0 hl1 hl2 hl3 hl4 hl5 hl6)
 have W1 := Lib.hid (u64s_wf l8 l9 l10 l11 l12 l13 l14 hl8 hl9 hl10 hl11 hl12 hl13 hl14)
 have b0 := St.sum7_bd l0 l1 l2 l3 l4 l5 l6
 have b1 := St.sum7_bd l8 l9 l10 l11 l12 l13 l14
 have q0 : IntKind.u64.wrap (St.sum7 l0 l1 l2 l3 l4 l5 l6) = St.sum7 l0 l1 l2 l3 l4 l5 l6 := by rw [IntKind.wrap_u64]; omega
 have q1 : IntKind.u64.wrap (St.sum7 l8 l9 l10 l11 l12 l13 l14) = St.sum7 l8 l9 l10 l11 l12 l13 l14 := by rw [IntKind.wrap_u64]; omega
 have X := Lib.hid ((Blk.new w #[.int .u64 l0, .int .u64 l1, .int .u64 l2, .int .u64 l3, .int .u64 l4, .int .u64 l5, .int .u64 l6, .int .u64 (St.sum7 l0 l1 l2 l3 l4 l5 l6), .int .u64 l8, .int .u64 l9, .int .u64 l10, .int .u64 l11, .int .u64 l12, .int .u64 l13, .int .u64 l14, .int .u64 (St.sum7 l8 l9 l10 l11 l12 l13 l14)] 99).alloc (.cells #[.int .u64 0, .int .i64 0, .int .i64 0, .int .i64 0, .int .i64 0, .int .i64 0, .int .i64 0, .int .i64 0, .int .i64 0] 89))
 have R := Lib.hid (Blk.new1 w (.cells #[.int .u64 l0, .int .u64 l1, .int .u64 l2, .int .u64 l3, .int .u64 l4, .int .u64 l5, .int .u64 l6, .int .u64 (St.sum7 l0 l1 l2 l3 l4 l5 l6), .int .u64 l8, .int .u64 l9, .int .u64 l10, .int .u64 l11, .int .u64 l12, .int .u64 l13, .int .u64 l14, .int .u64 (St.sum7 l8 l9 l10 l11 l12 l13 l14)] 99) #[.int .u64 0, .int .i64 0, .int .i64 0, .int .i64 0, .int .i64 0, .int .i64 0, .int .i64 0, .int .i64 0, .int .i64 0] 89)
 have hB : Below w.heap.size w ((w.alloc (.cells #[.int .u64 l0, .int .u64 l1, .int .u64 l2, .int .u64 l3, .int .u64 l4, .int .u64 l5, .int .u64 l6, .int .u64 (St.sum7 l0 l1 l2 l3 l4 l5 l6), .int .u64 l8, .int .u64 l9, .int .u64 l10, .int .u64 l11, .int .u64 l12, .int .u64 l13, .int .u64 l14, .int .u64 (St.sum7 l8 l9 l10 l11 l12 l13 l14)] 99)).alloc (.cells #[.int .u64 0, .int .i64 0, .int .i64 0, .int .i64 0, .int .i64 0, .int .i64 0, .int .i64 0, .int .i64 0, .int .i64 0] 89)) := ((Below.refl _ _).alloc (Nat.le_refl _) _).alloc (by simp) _
 generalize hZ : ((w.alloc (.cells #[.int .u64 l0, .int .u64 l1, .int .u64 l2, .int .u64 l3, .int .u64 l4, .int .u64 l5, .int .u64 l6, .int .u64 (St.sum7 l0 l1 l2 l3 l4 l5 l6), .int .u64 l8, .int .u64 l9, .int .u64 l10, .int .u64 l11, .int .u64 l12, .int .u64 l13, .int .u64 l14, .int .u64 (St.sum7 l8 l9 l10 l11 l12 l13 l14)] 99)).alloc (.cells #[.int .u64 0, .int .i64 0, .int .i64 0, .int .i64 0, .int .i64 0, .int .i64 0, .int .i64 0, .int .i64 0, .int .i64 0] 89)) = Z at *
 have s16' := s16 X.out (Below.refl _ _).drew
 go_enter Try.func120, Try.ntmps120
 go_wp2_with fail
 refine wp_region_held_drew (S := fun W => W.cell? ⟨w.heap.size, 0, none⟩ = some (.int .u64 l0) ∧ W.cell? ⟨w.heap.size, 1, none⟩ = some (.int .u64 l1) ∧ W.cell? ⟨w.heap.size, 2, none⟩ = some (.int .u64 l2) ∧ W.cell? ⟨w.heap.size, 3, none⟩ = some (.int .u64 l3) ∧ W.cell? ⟨w.heap.size, 4, none⟩ = some (.int .u64 l4) ∧ W.cell? ⟨w.heap.size, 5, none⟩ = some (.int .u64 l5) ∧ W.cell? ⟨w.heap.size, 6, none⟩ = some (.int .u64 l6) ∧ W.cell? ⟨w.heap.size, 7, none⟩ = some (.int .u64 (St.sum7 l0 l1 l2 l3 l4 l5 l6)) ∧ W.cell? ⟨w.heap.size, 8, none⟩ = some (.int .u64 l8) ∧ W.cell? ⟨w.heap.size, 9, none⟩ = some (.int .u64 l9) ∧ W.cell? ⟨w.heap.size, 10, none⟩ = some (.int .u64 l10) ∧ W.cell? ⟨w.heap.size, 11, none⟩ = some (.int .u64 l11) ∧ W.cell? ⟨w.heap.size, 12, none⟩ = some (.int .u64 l12) ∧ W.cell? ⟨w.heap.size, 13, none⟩ = some (.int .u64 l13) ∧ W.cell? ⟨w.heap.size, 14, none⟩ = some (.int .u64 l14) ∧ W.cell? ⟨w.heap.size, 15, none⟩ = some (.int .u64 (St.sum7 l8 l9 l10 l11 l12 l13 l14)) ∧ Below Z.heap.size Z W) (by kernel_rfl) ?_ (fun hHeld => ?_)
 ·(try dsimp only)
  (first | assumption | exact s16')
 first | (refine wpAnyH_take (i := 0) (v := ?_) rfl (by kernel_rfl) (by kernel_rfl) (by kernel_rfl) (fun _ _ _ h => h) (Or.inl ⟨by rfl, ?_⟩) (by assumption) ?_; rotate_left; (focus (intro w hSw; (try dsimp only at hSw); go_simp; first | done | with_reducible rfl))) | (refine wpAnyH_take (i := 0) rfl (by kernel_rfl) (by kernel_rfl) (by kernel_rfl) (fun _ _ _ h => h) (Or.inr ⟨by rfl, rfl⟩) (by assumption) ?_) | fail
 try simp only [Act.put, List.getElem_toArray, List.getElem_cons_zero, List.getElem_cons_succ, List.setIfInBounds_toArray, List.set_cons_zero, List.set_cons_succ]
 first | (refine wpAnyH_take (i := 1) (v := ?_) rfl (by kernel_rfl) (by kernel_rfl) (by kernel_rfl) (fun _ _ _ h => h) (Or.inl ⟨by rfl, ?_⟩) (by assumption) ?_; rotate_left; (focus (intro w hSw; (try dsimp only at hSw); go_simp; first | done | with_reducible rfl))) | (refine wpAnyH_take (i := 1) rfl (by kernel_rfl) (by kernel_rfl) (by kernel_rfl) (fun _ _ _ h => h) (Or.inr ⟨by rfl, rfl⟩) (by assumption) ?_) | fail
 try simp only [Act.put, List.getElem_toArray, List.getElem_cons_zero, List.getElem_cons_succ, List.setIfInBounds_toArray, List.set_cons_zero, List.set_cons_succ]
 first | (refine wpAnyH_take (i := 2) (v := ?_) rfl (by kernel_rfl) (by kernel_rfl) (by kernel_rfl) (fun _ _ _ h => h) (Or.inl ⟨by rfl, ?_⟩) (by assumption) ?_; rotate_left; (focus (intro w hSw; (try dsimp only at hSw); go_simp; first | done | with_reducible rfl))) | (refine wpAnyH_take (i := 2) rfl (by kernel_rfl) (by kernel_rfl) (by kernel_rfl) (fun _ _ _ h => h) (Or.inr ⟨by rfl, rfl⟩) (by assumption) ?_) | fail
 try simp only [Act.put, List.getElem_toArray, List.getElem_cons_zero, List.getElem_cons_succ, List.setIfInBounds_toArray, List.set_cons_zero, List.set_cons_succ]
 refine wpAnyH_ready (rs := [3]) (by kernel_rfl) (by simp) (AllReadyH.cons rfl (fun K hK => ?_) AllReadyH.nil)
 (try go_simp)
 have hS := (by assumption : _ ∧ _ ∧ _ ∧ _ ∧ _ ∧ _ ∧ _ ∧ _ ∧ _ ∧ _ ∧ _ ∧ _ ∧ _ ∧ _ ∧ _ ∧ _ ∧ Below _ _ _).2.2.2.2.2.2.2.2.2.2.2.2.2.2.2.2
 refine (rCrcWords_any _ 7 _ [l0, l1, l2, l3, l4, l5, l6] _ _ ((RowAt.of_blk_at X.out 0 7 (by simp)).below hS) W0.out (by omega) hS.size).mono ?_
 rintro e w5 ⟨rfl, hb5⟩
 rw [show Cr.more 0 (By.bytes [l0, l1, l2, l3, l4, l5, l6]) = St.sum7 l0 l1 l2 l3 l4 l5 l6 from rfl]
 have hb5' := hS.trans (hb5.mono hS.size)
 have hS' := s16 X.out hb5'
 clear hb5 hS
 refine hK.out _ _ ?_ (fun hHeld => ?_)
 ·(try dsimp only)
  (first | assumption | exact s16')
 clear hK K
 try simp only [Act.put, List.getElem_toArray, List.getElem_cons_zero, List.getElem_cons_succ, List.setIfInBounds_toArray, List.set_cons_zero, List.set_cons_succ]
 first | (refine wpAnyH_take (i := 4) (v := ?_) rfl (by kernel_rfl) (by kernel_rfl) (by kernel_rfl) (fun _ _ _ h => h) (Or.inl ⟨by rfl, ?_⟩) (by assumption) ?_; rotate_left; (focus (intro w hSw; (try dsimp only at hSw); go_simp; first | done | with_reducible rfl))) | (refine wpAnyH_take (i := 4) rfl (by kernel_rfl) (by kernel_rfl) (by kernel_rfl) (fun _ _ _ h => h) (Or.inr ⟨by rfl, rfl⟩) (by assumption) ?_) | fail
 try simp only [Act.put, List.getElem_toArray, List.getElem_cons_zero, List.getElem_cons_succ, List.setIfInBounds_toArray, List.set_cons_zero, List.set_cons_succ]
 first | (refine wpAnyH_take (i := 5) (v := ?_) rfl (by kernel_rfl) (by kernel_rfl) (by kernel_rfl) (fun _ _ _ h => h) (Or.inl ⟨by rfl, ?_⟩) (by assumption) ?_; rotate_left; (focus (intro w hSw; (try dsimp only at hSw); go_simp; first | done | with_reducible rfl))) | (refine wpAnyH_take (i := 5) rfl (by kernel_rfl) (by kernel_rfl) (by kernel_rfl) (fun _ _ _ h => h) (Or.inr ⟨by rfl, rfl⟩) (by assumption) ?_) | fail
 try simp only [Act.put, List.getElem_toArray, List.getElem_cons_zero, List.getElem_cons_succ, List.setIfInBounds_toArray, List.set_cons_zero, List.set_cons_succ]
 first | (refine wpAnyH_take (i := 6) (v := ?_) rfl (by kernel_rfl) (by kernel_rfl) (by kernel_rfl) (fun _ _ _ h => h) (Or.inl ⟨by rfl, ?_⟩) (by assumption) ?_; rotate_left; (focus (intro w hSw; (try dsimp only at hSw); go_simp; first | done | with_reducible rfl))) | (refine wpAnyH_take (i := 6) rfl (by kernel_rfl) (by kernel_rfl) (by kernel_rfl) (fun _ _ _ h => h) (Or.inr ⟨by rfl, rfl⟩) (by assumption) ?_) | fail
 try simp only [Act.put, List.getElem_toArray, List.getElem_cons_zero, List.getElem_cons_succ, List.setIfInBounds_toArray, List.set_cons_zero, List.set_cons_succ]
 first | (refine wpAnyH_take (i := 7) (v := ?_) rfl (by kernel_rfl) (by kernel_rfl) (by kernel_rfl) (fun _ _ _ h => h) (Or.inl ⟨by rfl, ?_⟩) (by assumption) ?_; rotate_left; (focus (intro w hSw; (try dsimp only at hSw); go_simp; first | done | with_reducible rfl))) | (refine wpAnyH_take (i := 7) rfl (by kernel_rfl) (by kernel_rfl) (by kernel_rfl) (fun _ _ _ h => h) (Or.inr ⟨by rfl, rfl⟩) (by assumption) ?_) | fail
 try simp only [Act.put, List.getElem_toArray, List.getElem_cons_zero, List.getElem_cons_succ, List.setIfInBounds_toArray, List.set_cons_zero, List.set_cons_succ]
 first | (refine wpAnyH_take (i := 8) (v := ?_) rfl (by kernel_rfl) (by kernel_rfl) (by kernel_rfl) (fun _ _ _ h => h) (Or.inl ⟨by rfl, ?_⟩) (by assumption) ?_; rotate_left; (focus (intro w hSw; (try dsimp only at hSw); go_simp; first | done | with_reducible rfl))) | (refine wpAnyH_take (i := 8) rfl (by kernel_rfl) (by kernel_rfl) (by kernel_rfl) (fun _ _ _ h => h) (Or.inr ⟨by rfl, rfl⟩) (by assumption) ?_) | fail
 try simp only [Act.put, List.getElem_toArray, List.getElem_cons_zero, List.getElem_cons_succ, List.setIfInBounds_toArray, List.set_cons_zero, List.set_cons_succ]
 first | (refine wpAnyH_take (i := 9) (v := ?_) rfl (by kernel_rfl) (by kernel_rfl) (by kernel_rfl) (fun _ _ _ h => h) (Or.inl ⟨by rfl, ?_⟩) (by assumption) ?_; rotate_left; (focus (intro w hSw; (try dsimp only at hSw); go_simp; first | done | with_reducible rfl))) | (refine wpAnyH_take (i := 9) rfl (by kernel_rfl) (by kernel_rfl) (by kernel_rfl) (fun _ _ _ h => h) (Or.inr ⟨by rfl, rfl⟩) (by assumption) ?_) | fail
 try simp only [Act.put, List.getElem_toArray, List.getElem_cons_zero, List.getElem_cons_succ, List.setIfInBounds_toArray, List.set_cons_zero, List.set_cons_succ]
 refine wpAnyH_ready (rs := [10]) (by kernel_rfl) (by simp) (AllReadyH.cons rfl (fun K hK => ?_) AllReadyH.nil)
 (try go_simp)
 refine (rCrcWords_any _ 7 _ [l8, l9, l10, l11, l12, l13, l14] _ _ ((RowAt.of_blk_at X.out 8 7 (by simp)).below hb5') W1.out (by omega) hb5'.size).mono ?_
 rintro e w6 ⟨rfl, hb6⟩
 rw [show Cr.more 0 (By.bytes [l8, l9, l10, l11, l12, l13, l14]) = St.sum7 l8 l9 l10 l11 l12 l13 l14 from rfl]
 have hb6' := hb5'.trans (hb6.mono hb5'.size)
 have hS' := s16 X.out hb6'
 clear hb6
 refine hK.out _ _ ?_ (fun hHeld => ?_)
 ·(try dsimp only)
  (first | assumption | exact s16')
 clear hK K
 try simp only [Act.put, List.getElem_toArray, List.getElem_cons_zero, List.getElem_cons_succ, List.setIfInBounds_toArray, List.set_cons_zero, List.set_cons_succ]
 first | (refine wpAnyH_take (i := 11) (v := ?_) rfl (by kernel_rfl) (by kernel_rfl) (by kernel_rfl) (fun _ _ _ h => h) (Or.inl ⟨by rfl, ?_⟩) (by assumption) ?_; rotate_left; (focus (intro w hSw; (try dsimp only at hSw); go_simp; first | done | with_reducible rfl))) | (refine wpAnyH_take (i := 11) rfl (by kernel_rfl) (by kernel_rfl) (by kernel_rfl) (fun _ _ _ h => h) (Or.inr ⟨by rfl, rfl⟩) (by assumption) ?_) | fail
 try simp only [Act.put, List.getElem_toArray, List.getElem_cons_zero, List.getElem_cons_succ, List.setIfInBounds_toArray, List.set_cons_zero, List.set_cons_succ]
 first | (refine wpAnyH_take (i := 12) (v := ?_) rfl (by kernel_rfl) (by kernel_rfl) (by kernel_rfl) (fun _ _ _ h => h) (Or.inl ⟨by rfl, ?_⟩) (by assumption) ?_; rotate_left; (focus (intro w hSw; (try dsimp only at hSw); go_simp; first | done | with_reducible rfl))) | (refine wpAnyH_take (i := 12) rfl (by kernel_rfl) (by kernel_rfl) (by kernel_rfl) (fun _ _ _ h => h) (Or.inr ⟨by rfl, rfl⟩) (by assumption) ?_) | fail
 try simp only [Act.put, List.getElem_toArray, List.getElem_cons_zero, List.getElem_cons_succ, List.setIfInBounds_toArray, List.set_cons_zero, List.set_cons_succ]
 first | (refine wpAnyH_take (i := 13) (v := ?_) rfl (by kernel_rfl) (by kernel_rfl) (by kernel_rfl) (fun _ _ _ h => h) (Or.inl ⟨by rfl, ?_⟩) (by assumption) ?_; rotate_left; (focus (intro w hSw; (try dsimp only at hSw); go_simp; first | done | with_reducible rfl))) | (refine wpAnyH_take (i := 13) rfl (by kernel_rfl) (by kernel_rfl) (by kernel_rfl) (fun _ _ _ h => h) (Or.inr ⟨by rfl, rfl⟩) (by assumption) ?_) | fail
 try simp only [Act.put, List.getElem_toArray, List.getElem_cons_zero, List.getElem_cons_succ, List.setIfInBounds_toArray, List.set_cons_zero, List.set_cons_succ]
 refine wpAnyH_done (by kernel_rfl) ?_ _
 have Xw6 := X.out.below hb6' X.out.lt
 have Rw6 := R.out.below hb6' R.out.lt
 have Bw6 := hB.trans (hb6'.mono hB.size)
 clear s16'
 have x0 := Xw6.cell 0 _ rfl
 go_wp2_with fail
 have S6 := Blk.new w6 #[.int .u64 l0, .int .i64 0, .int .i64 0, .int .i64 0, .int .i64 0, .int .i64 0, .int .i64 0, .int .i64 0, .int .i64 0] 89
 have X6 := Xw6.alloc (.cells #[.int .u64 l0, .int .i64 0, .int .i64 0, .int .i64 0, .int .i64 0, .int .i64 0, .int .i64 0, .int .i64 0, .int .i64 0] 89)
 have R6 := Rw6.alloc (.cells #[.int .u64 l0, .int .i64 0, .int .i64 0, .int .i64 0, .int .i64 0, .int .i64 0, .int .i64 0, .int .i64 0, .int .i64 0] 89)
 have B6 := Bw6.alloc Bw6.size (.cells #[.int .u64 l0, .int .i64 0, .int .i64 0, .int .i64 0, .int .i64 0, .int .i64 0, .int .i64 0, .int .i64 0, .int .i64 0] 89)
 have hz6 : w.heap.size + 1 < w6.heap.size := Rw6.lt
 have S6' : Blk (w6.alloc (.cells #[.int .u64 l0, .int .i64 0, .int .i64 0, .int .i64 0, .int .i64 0, .int .i64 0, .int .i64 0, .int .i64 0, .int .i64 0] 89)) w6.heap.size (rF l0 l1 l2 l3 l4 l9 l10 l11 l12 0) 89 := S6
 clear x0 S6 hb5' hb6'
 go_loopw [5] (fun t wr => ∃ (k : Nat) (c : Int), c = k ∧ rOK l1 l2 l3 l4 l9 l10 l11 l12 k ∧ k ≤ 4 ∧ t = .int .i64 c ∧ Blk wr w6.heap.size (rF l0 l1 l2 l3 l4 l9 l10 l11 l12 k) 89 ∧ Blk wr w.heap.size #[.int .u64 l0, .int .u64 l1, .int .u64 l2, .int .u64 l3, .int .u64 l4, .int .u64 l5, .int .u64 l6, .int .u64 (St.sum7 l0 l1 l2 l3 l4 l5 l6), .int .u64 l8, .int .u64 l9, .int .u64 l10, .int .u64 l11, .int .u64 l12, .int .u64 l13, .int .u64 l14, .int .u64 (St.sum7 l8 l9 l10 l11 l12 l13 l14)] 99 ∧ Blk wr (w.heap.size + 1) #[.int .u64 0, .int .i64 0, .int .i64 0, .int .i64 0, .int .i64 0, .int .i64 0, .int .i64 0, .int .i64 0, .int .i64 0] 89 ∧ Below w.heap.size w wr) (fun t _ => 4 - (intOf t).toNat)
 case atStart => exact ⟨0, 0, rfl, by unfold rOK; omega, by omega, rfl, S6', X6, R6, B6⟩
 case round =>
  clear S6' X6 R6 B6
  obtain ⟨k, c, hc, hok, hk, rfl, Sk, Xk, Rk, Bk⟩ := hrel
  rcases (show k = 0 ∨ k = 1 ∨ k = 2 ∨ k = 3 ∨ k = 4 from by omega) with rfl | rfl | rfl | rfl | rfl
  ·obtain rfl : c = 0 := by simpa using hc
   clear hc
   replace Sk : Blk wr w6.heap.size #[.int .u64 l0, .int .i64 0, .int .i64 0, .int .i64 0, .int .i64 0, .int .i64 0, .int .i64 0, .int .i64 0, .int .i64 0] 89 := Sk
   have xa := Xk.cell 1 _ rfl
   have xb := Xk.cell 9 _ rfl
   replace xa : wr.cell? ⟨w.heap.size, 1, none⟩ = some (.int .u64 l1) := xa
   replace xb : wr.cell? ⟨w.heap.size, 9, none⟩ = some (.int .u64 l9) := xb
   have ha := hl1
   have hb := hl9
   unfold U64s at ha hb
   by_cases ga : l1 ≤ 131071
   rotate_left
   focus
    have hno : ¬ okD l0 l1 l2 l3 l4 l5 l6 l8 l9 l10 l11 l12 l13 l14 := fun h => by
     have := rightB_root _ _ _ _ _ _ _ _ _ h.1
     omega
    rcases hV.out with ⟨h, _, _⟩ | ⟨_, rfl, rfl⟩
    ·exact absurd h hno
    clear hno hV
    have r0 := Rk.cell 0 _ rfl
    have r1 := Rk.cell 1 _ rfl
    have r2 := Rk.cell 2 _ rfl
    have r3 := Rk.cell 3 _ rfl
    have r4 := Rk.cell 4 _ rfl
    have r5 := Rk.cell 5 _ rfl
    have r6 := Rk.cell 6 _ rfl
    have r7 := Rk.cell 7 _ rfl
    have r8 := Rk.cell 8 _ rfl
    have f0 := Rk.frozen 0
    have f1 := Rk.frozen 1
    have f2 := Rk.frozen 2
    have f3 := Rk.frozen 3
    have f4 := Rk.frozen 4
    have f5 := Rk.frozen 5
    have f6 := Rk.frozen 6
    have f7 := Rk.frozen 7
    have f8 := Rk.frozen 8
    go_wp2_with fail
    exact bodyPost_ret (v := .tuple #[.agg #[.int .u64 0, .int .i64 0, .int .i64 0, .int .i64 0, .int .i64 0, .int .i64 0, .int .i64 0, .int .i64 0, .int .i64 0], .int .i64 26]) (by simp [results, go_sem, Try.results120, r0, r1, r2, r3, r4, r5, r6, r7, r8]) rfl ⟨rfl, (((((((((Bk).setCell (by simp) _).setCell (by simp) _).setCell (by simp) _).setCell (by simp) _).setCell (by simp) _).setCell (by simp) _).setCell (by simp) _).setCell (by simp) _).setCell (by simp) _⟩
   by_cases gb : l9 ≤ 131071
   rotate_left
   focus
    have hno : ¬ okD l0 l1 l2 l3 l4 l5 l6 l8 l9 l10 l11 l12 l13 l14 := fun h => by
     have := rightB_root _ _ _ _ _ _ _ _ _ h.1
     omega
    rcases hV.out with ⟨h, _, _⟩ | ⟨_, rfl, rfl⟩
    ·exact absurd h hno
    clear hno hV
    have r0 := Rk.cell 0 _ rfl
    have r1 := Rk.cell 1 _ rfl
    have r2 := Rk.cell 2 _ rfl
    have r3 := Rk.cell 3 _ rfl
    have r4 := Rk.cell 4 _ rfl
    have r5 := Rk.cell 5 _ rfl
    have r6 := Rk.cell 6 _ rfl
    have r7 := Rk.cell 7 _ rfl
    have r8 := Rk.cell 8 _ rfl
    have f0 := Rk.frozen 0
    have f1 := Rk.frozen 1
    have f2 := Rk.frozen 2
    have f3 := Rk.frozen 3
    have f4 := Rk.frozen 4
    have f5 := Rk.frozen 5
    have f6 := Rk.frozen 6
    have f7 := Rk.frozen 7
    have f8 := Rk.frozen 8
    go_wp2_with fail
    exact bodyPost_ret (v := .tuple #[.agg #[.int .u64 0, .int .i64 0, .int .i64 0, .int .i64 0, .int .i64 0, .int .i64 0, .int .i64 0, .int .i64 0, .int .i64 0], .int .i64 26]) (by simp [results, go_sem, Try.results120, r0, r1, r2, r3, r4, r5, r6, r7, r8]) rfl ⟨rfl, (((((((((Bk).setCell (by simp) _).setCell (by simp) _).setCell (by simp) _).setCell (by simp) _).setCell (by simp) _).setCell (by simp) _).setCell (by simp) _).setCell (by simp) _).setCell (by simp) _⟩
   have N1 := (Sk.drew.set 1 (.int .i64 l1)).set 5 (.int .i64 l9)
   replace N1 : Blk (World.setCell (World.setCell wr.drew ⟨w6.heap.size, 1, none⟩ (.int .i64 l1)) ⟨w6.heap.size, 5, none⟩ (.int .i64 l9)) w6.heap.size #[.int .u64 l0, .int .i64 l1, .int .i64 0, .int .i64 0, .int .i64 0, .int .i64 l9, .int .i64 0, .int .i64 0, .int .i64 0] 89 := N1
   replace N1 := Lib.hid N1
   have X1 := Xk.drew.other ⟨w6.heap.size, 1, none⟩ (.int .i64 l1) (by simp; omega)
   have X2 := X1.other ⟨w6.heap.size, 5, none⟩ (.int .i64 l9) (by simp; omega)
   have Rd1 := (Rk.drew.other ⟨w6.heap.size, 1, none⟩ (.int .i64 l1) (by simp; omega)).other ⟨w6.heap.size, 5, none⟩ (.int .i64 l9) (by simp; omega)
   have K1 : (World.setCell wr.drew ⟨w6.heap.size, 1, none⟩ (.int .i64 l1)).cell? ⟨w.heap.size, 1, none⟩ = some (.int .u64 l1) ∧ (World.setCell wr.drew ⟨w6.heap.size, 1, none⟩ (.int .i64 l1)).cell? ⟨w.heap.size, 9, none⟩ = some (.int .u64 l9) := ⟨X1.cell 1 _ rfl, X1.cell 9 _ rfl⟩
   have K2 : (World.setCell (World.setCell wr.drew ⟨w6.heap.size, 1, none⟩ (.int .i64 l1)) ⟨w6.heap.size, 5, none⟩ (.int .i64 l9)).cell? ⟨w.heap.size, 1, none⟩ = some (.int .u64 l1) ∧ (World.setCell (World.setCell wr.drew ⟨w6.heap.size, 1, none⟩ (.int .i64 l1)) ⟨w6.heap.size, 5, none⟩ (.int .i64 l9)).cell? ⟨w.heap.size, 9, none⟩ = some (.int .u64 l9) := ⟨X2.cell 1 _ rfl, X2.cell 9 _ rfl⟩
   have B2 := (Bk.drew.setCell (p := ⟨w6.heap.size, 1, none⟩) (by simp; omega) (.int .i64 l1)).setCell (p := ⟨w6.heap.size, 5, none⟩) (by simp; omega) (.int .i64 l9)
   have sf1 := Sk.frozen 1
   have sf2 := Sk.frozen 5
   have sc1 := Sk.cell 1 _ rfl
   have sc2 := Sk.cell 5 _ rfl
   have K1 := Lib.hid K1
   have K2 := Lib.hid K2
   have X2 := Lib.hid X2
   have Rd1 := Lib.hid Rd1
   have B2 := Lib.hid B2
   have ci : IntKind.i64.wrap l1 = l1 := by rw [IntKind.wrap_i64]; omega
   have cj : IntKind.i64.wrap l9 = l9 := by rw [IntKind.wrap_i64]; omega
   clear X1 hV
   have v1 : IntKind.i64.wrap 1 = 1 := by rfl
   have v9 : IntKind.i64.wrap 9 = 9 := by rfl
   have v4 : IntKind.i64.wrap 4 = 4 := by rfl
   go_wp2_with fail
   refine wp_region_held_drew (S := fun W => W.cell? ⟨w.heap.size, 1, none⟩ = some (.int .u64 l1) ∧ W.cell? ⟨w.heap.size, 9, none⟩ = some (.int .u64 l9)) (by kernel_rfl) ?_ (fun hHeld => ?_)
   ·(try dsimp only)
    (first | assumption | exact ⟨xa, xb⟩ | exact K1.out | exact K2.out)
   first | (refine wpAnyH_take (i := 0) (v := ?_) rfl (by kernel_rfl) (by kernel_rfl) (by kernel_rfl) (fun _ _ _ h => h) (Or.inl ⟨by rfl, ?_⟩) (by assumption) ?_; rotate_left; (focus (intro w hSw; (try dsimp only at hSw); go_simp; first | done | with_reducible rfl))) | (refine wpAnyH_take (i := 0) rfl (by kernel_rfl) (by kernel_rfl) (by kernel_rfl) (fun _ _ _ h => h) (Or.inr ⟨by rfl, rfl⟩) (by assumption) ?_) | fail
   try simp only [Act.put, List.getElem_toArray, List.getElem_cons_zero, List.getElem_cons_succ, List.setIfInBounds_toArray, List.set_cons_zero, List.set_cons_succ]
   first | (refine wpAnyH_take (i := 1) (v := ?_) rfl (by kernel_rfl) (by kernel_rfl) (by kernel_rfl) (fun _ _ _ h => h) (Or.inl ⟨by rfl, ?_⟩) (by assumption) ?_; rotate_left; (focus (intro w hSw; (try dsimp only at hSw); go_simp; first | done | with_reducible rfl))) | (refine wpAnyH_take (i := 1) rfl (by kernel_rfl) (by kernel_rfl) (by kernel_rfl) (fun _ _ _ h => h) (Or.inr ⟨by rfl, rfl⟩) (by assumption) ?_) | fail
   try simp only [Act.put, List.getElem_toArray, List.getElem_cons_zero, List.getElem_cons_succ, List.setIfInBounds_toArray, List.set_cons_zero, List.set_cons_succ]
   first | (refine wpAnyH_take (i := 2) (v := ?_) rfl (by kernel_rfl) (by kernel_rfl) (by kernel_rfl) (fun _ _ _ h => h) (Or.inl ⟨by rfl, ?_⟩) (by assumption) ?_; rotate_left; (focus (intro w hSw; (try dsimp only at hSw); go_simp; first | done | with_reducible rfl))) | (refine wpAnyH_take (i := 2) rfl (by kernel_rfl) (by kernel_rfl) (by kernel_rfl) (fun _ _ _ h => h) (Or.inr ⟨by rfl, rfl⟩) (by assumption) ?_) | fail
   try simp only [Act.put, List.getElem_toArray, List.getElem_cons_zero, List.getElem_cons_succ, List.setIfInBounds_toArray, List.set_cons_zero, List.set_cons_succ]
   first | (refine wpAnyH_take (i := 3) (v := ?_) rfl (by kernel_rfl) (by kernel_rfl) (by kernel_rfl) (fun _ _ _ h => h) (Or.inl ⟨by rfl, ?_⟩) (by assumption) ?_; rotate_left; (focus (intro w hSw; (try dsimp only at hSw); go_simp; first | done | with_reducible rfl))) | (refine wpAnyH_take (i := 3) rfl (by kernel_rfl) (by kernel_rfl) (by kernel_rfl) (fun _ _ _ h => h) (Or.inr ⟨by rfl, rfl⟩) (by assumption) ?_) | fail
   try simp only [Act.put, List.getElem_toArray, List.getElem_cons_zero, List.getElem_cons_succ, List.setIfInBounds_toArray, List.set_cons_zero, List.set_cons_succ]
   first | (refine wpAnyH_take (i := 4) (v := ?_) rfl (by kernel_rfl) (by kernel_rfl) (by kernel_rfl) (fun _ _ _ h => h) (Or.inl ⟨by rfl, ?_⟩) (by assumption) ?_; rotate_left; (focus (intro w hSw; (try dsimp only at hSw); go_simp; first | done | with_reducible rfl))) | (refine wpAnyH_take (i := 4) rfl (by kernel_rfl) (by kernel_rfl) (by kernel_rfl) (fun _ _ _ h => h) (Or.inr ⟨by rfl, rfl⟩) (by assumption) ?_) | fail
   try simp only [Act.put, List.getElem_toArray, List.getElem_cons_zero, List.getElem_cons_succ, List.setIfInBounds_toArray, List.set_cons_zero, List.set_cons_succ]
   first | (refine wpAnyH_take (i := 5) (v := ?_) rfl (by kernel_rfl) (by kernel_rfl) (by kernel_rfl) (fun _ _ _ h => h) (Or.inl ⟨by rfl, ?_⟩) (by assumption) ?_; rotate_left; (focus (intro w hSw; (try dsimp only at hSw); go_simp; first | done | with_reducible rfl))) | (refine wpAnyH_take (i := 5) rfl (by kernel_rfl) (by kernel_rfl) (by kernel_rfl) (fun _ _ _ h => h) (Or.inr ⟨by rfl, rfl⟩) (by assumption) ?_) | fail
   try simp only [Act.put, List.getElem_toArray, List.getElem_cons_zero, List.getElem_cons_succ, List.setIfInBounds_toArray, List.set_cons_zero, List.set_cons_succ]
   first | (refine wpAnyH_take (i := 6) (v := ?_) rfl (by kernel_rfl) (by kernel_rfl) (by kernel_rfl) (fun _ _ _ h => h) (Or.inl ⟨by rfl, ?_⟩) (by assumption) ?_; rotate_left; (focus (intro w hSw; (try dsimp only at hSw); go_simp; first | done | with_reducible rfl))) | (refine wpAnyH_take (i := 6) rfl (by kernel_rfl) (by kernel_rfl) (by kernel_rfl) (fun _ _ _ h => h) (Or.inr ⟨by rfl, rfl⟩) (by assumption) ?_) | fail
   try simp only [Act.put, List.getElem_toArray, List.getElem_cons_zero, List.getElem_cons_succ, List.setIfInBounds_toArray, List.set_cons_zero, List.set_cons_succ]
   first | (refine wpAnyH_take (i := 7) (v := ?_) rfl (by kernel_rfl) (by kernel_rfl) (by kernel_rfl) (fun _ _ _ h => h) (Or.inl ⟨by rfl, ?_⟩) (by assumption) ?_; rotate_left; (focus (intro w hSw; (try dsimp only at hSw); go_simp; first | done | with_reducible rfl))) | (refine wpAnyH_take (i := 7) rfl (by kernel_rfl) (by kernel_rfl) (by kernel_rfl) (fun _ _ _ h => h) (Or.inr ⟨by rfl, rfl⟩) (by assumption) ?_) | fail
   try simp only [Act.put, List.getElem_toArray, List.getElem_cons_zero, List.getElem_cons_succ, List.setIfInBounds_toArray, List.set_cons_zero, List.set_cons_succ]
   first | (refine wpAnyH_take (i := 8) (v := ?_) rfl (by kernel_rfl) (by kernel_rfl) (by kernel_rfl) (fun _ _ _ h => h) (Or.inl ⟨by rfl, ?_⟩) (by assumption) ?_; rotate_left; (focus (intro w hSw; (try dsimp only at hSw); go_simp; first | done | with_reducible rfl))) | (refine wpAnyH_take (i := 8) rfl (by kernel_rfl) (by kernel_rfl) (by kernel_rfl) (fun _ _ _ h => h) (Or.inr ⟨by rfl, rfl⟩) (by assumption) ?_) | fail
   try simp only [Act.put, List.getElem_toArray, List.getElem_cons_zero, List.getElem_cons_succ, List.setIfInBounds_toArray, List.set_cons_zero, List.set_cons_succ]
   first | (refine wpAnyH_take (i := 9) (v := ?_) rfl (by kernel_rfl) (by kernel_rfl) (by kernel_rfl) (fun _ _ _ h => h) (Or.inl ⟨by rfl, ?_⟩) (by assumption) ?_; rotate_left; (focus (intro w hSw; (try dsimp only at hSw); go_simp; first | done | with_reducible rfl))) | (refine wpAnyH_take (i := 9) rfl (by kernel_rfl) (by kernel_rfl) (by kernel_rfl) (fun _ _ _ h => h) (Or.inr ⟨by rfl, rfl⟩) (by assumption) ?_) | fail
   try simp only [Act.put, List.getElem_toArray, List.getElem_cons_zero, List.getElem_cons_succ, List.setIfInBounds_toArray, List.set_cons_zero, List.set_cons_succ]
   first | (refine wpAnyH_take (i := 10) (v := ?_) rfl (by kernel_rfl) (by kernel_rfl) (by kernel_rfl) (fun _ _ _ h => h) (Or.inl ⟨by rfl, ?_⟩) (by assumption) ?_; rotate_left; (focus (intro w hSw; (try dsimp only at hSw); go_simp; first | done | with_reducible rfl))) | (refine wpAnyH_take (i := 10) rfl (by kernel_rfl) (by kernel_rfl) (by kernel_rfl) (fun _ _ _ h => h) (Or.inr ⟨by rfl, rfl⟩) (by assumption) ?_) | fail
   try simp only [Act.put, List.getElem_toArray, List.getElem_cons_zero, List.getElem_cons_succ, List.setIfInBounds_toArray, List.set_cons_zero, List.set_cons_succ]
   first | (refine wpAnyH_take (i := 11) (v := ?_) rfl (by kernel_rfl) (by kernel_rfl) (by kernel_rfl) (fun _ _ _ h => h) (Or.inl ⟨by rfl, ?_⟩) (by assumption) ?_; rotate_left; (focus (intro w hSw; (try dsimp only at hSw); go_simp; first | done | with_reducible rfl))) | (refine wpAnyH_take (i := 11) rfl (by kernel_rfl) (by kernel_rfl) (by kernel_rfl) (fun _ _ _ h => h) (Or.inr ⟨by rfl, rfl⟩) (by assumption) ?_) | fail
   try simp only [Act.put, List.getElem_toArray, List.getElem_cons_zero, List.getElem_cons_succ, List.setIfInBounds_toArray, List.set_cons_zero, List.set_cons_succ]
   first | (refine wpAnyH_take (i := 12) (v := ?_) rfl (by kernel_rfl) (by kernel_rfl) (by kernel_rfl) (fun _ _ _ h => h) (Or.inl ⟨by rfl, ?_⟩) (by assumption) ?_; rotate_left; (focus (intro w hSw; (try dsimp only at hSw); go_simp; first | done | with_reducible rfl))) | (refine wpAnyH_take (i := 12) rfl (by kernel_rfl) (by kernel_rfl) (by kernel_rfl) (fun _ _ _ h => h) (Or.inr ⟨by rfl, rfl⟩) (by assumption) ?_) | fail
   try simp only [Act.put, List.getElem_toArray, List.getElem_cons_zero, List.getElem_cons_succ, List.setIfInBounds_toArray, List.set_cons_zero, List.set_cons_succ]
   first | (refine wpAnyH_take (i := 13) (v := ?_) rfl (by kernel_rfl) (by kernel_rfl) (by kernel_rfl) (fun _ _ _ h => h) (Or.inl ⟨by rfl, ?_⟩) (by assumption) ?_; rotate_left; (focus (intro w hSw; (try dsimp only at hSw); go_simp; first | done | with_reducible rfl))) | (refine wpAnyH_take (i := 13) rfl (by kernel_rfl) (by kernel_rfl) (by kernel_rfl) (fun _ _ _ h => h) (Or.inr ⟨by rfl, rfl⟩) (by assumption) ?_) | fail
   try simp only [Act.put, List.getElem_toArray, List.getElem_cons_zero, List.getElem_cons_succ, List.setIfInBounds_toArray, List.set_cons_zero, List.set_cons_succ]
   first | (refine wpAnyH_take (i := 14) (v := ?_) rfl (by kernel_rfl) (by kernel_rfl) (by kernel_rfl) (fun _ _ _ h => h) (Or.inl ⟨by rfl, ?_⟩) (by assumption) ?_; rotate_left; (focus (intro w hSw; (try dsimp only at hSw); go_simp; first | done | with_reducible rfl))) | (refine wpAnyH_take (i := 14) rfl (by kernel_rfl) (by kernel_rfl) (by kernel_rfl) (fun _ _ _ h => h) (Or.inr ⟨by rfl, rfl⟩) (by assumption) ?_) | fail
   try simp only [Act.put, List.getElem_toArray, List.getElem_cons_zero, List.getElem_cons_succ, List.setIfInBounds_toArray, List.set_cons_zero, List.set_cons_succ]
   first | (refine wpAnyH_take (i := 16) (v := ?_) rfl (by kernel_rfl) (by kernel_rfl) (by kernel_rfl) (fun _ _ _ h => h) (Or.inl ⟨by rfl, ?_⟩) (by assumption) ?_; rotate_left; (focus (intro w hSw; (try dsimp only at hSw); go_simp; first | done | with_reducible rfl))) | (refine wpAnyH_take (i := 16) rfl (by kernel_rfl) (by kernel_rfl) (by kernel_rfl) (fun _ _ _ h => h) (Or.inr ⟨by rfl, rfl⟩) (by assumption) ?_) | fail
   try simp only [Act.put, List.getElem_toArray, List.getElem_cons_zero, List.getElem_cons_succ, List.setIfInBounds_toArray, List.set_cons_zero, List.set_cons_succ]
   refine wpAnyH_ready (rs := [15]) (by kernel_rfl) (by simp) (AllReadyH.cons rfl (fun K hK => ?_) AllReadyH.nil)
   (try go_simp)
   refine hK.out _ _ ?_ (fun hHeld => ?_)
   ·(try dsimp only)
    (first | assumption | exact ⟨xa, xb⟩ | exact K1.out | exact K2.out)
   clear hK K
   try simp only [Act.put, List.getElem_toArray, List.getElem_cons_zero, List.getElem_cons_succ, List.setIfInBounds_toArray, List.set_cons_zero, List.set_cons_succ]
   first | (refine wpAnyH_take (i := 17) (v := ?_) rfl (by kernel_rfl) (by kernel_rfl) (by kernel_rfl) (fun _ _ _ h => h) (Or.inl ⟨by rfl, ?_⟩) (by assumption) ?_; rotate_left; (focus (intro w hSw; (try dsimp only at hSw); go_simp; first | done | with_reducible rfl))) | (refine wpAnyH_take (i := 17) rfl (by kernel_rfl) (by kernel_rfl) (by kernel_rfl) (fun _ _ _ h => h) (Or.inr ⟨by rfl, rfl⟩) (by assumption) ?_) | fail
   try simp only [Act.put, List.getElem_toArray, List.getElem_cons_zero, List.getElem_cons_succ, List.setIfInBounds_toArray, List.set_cons_zero, List.set_cons_succ]
   refine wpAnyH_ready (rs := [18]) (by kernel_rfl) (by simp) (AllReadyH.cons rfl (fun K hK => ?_) AllReadyH.nil)
   (try go_simp)
   refine hK.out _ _ ?_ (fun hHeld => ?_)
   ·(try dsimp only)
    (first | assumption | exact ⟨xa, xb⟩ | exact K1.out | exact K2.out)
   clear hK K
   try simp only [Act.put, List.getElem_toArray, List.getElem_cons_zero, List.getElem_cons_succ, List.setIfInBounds_toArray, List.set_cons_zero, List.set_cons_succ]
   refine wpAnyH_done (by kernel_rfl) ?_ _
   go_wp2_with fail
   go_roundw
   case rel => exact ⟨1, 1, rfl, by unfold rOK at hok ⊢; omega, by omega, rfl, N1.out, X2.out, Rd1.out, B2.out⟩
   case measure => simp [intOf] <;> omega
  ·obtain rfl : c = 1 := by simpa using hc
   clear hc
   replace Sk : Blk wr w6.heap.size #[.int .u64 l0, .int .i64 l1, .int .i64 0, .int .i64 0, .int .i64 0, .int .i64 l9, .int .i64 0, .int .i64 0, .int .i64 0] 89 := Sk
   have xa := Xk.cell 2 _ rfl
   have xb := Xk.cell 10 _ rfl
   replace xa : wr.cell? ⟨w.heap.size, 2, none⟩ = some (.int .u64 l2) := xa
   replace xb : wr.cell? ⟨w.heap.size, 10, none⟩ = some (.int .u64 l10) := xb
   have ha := hl2
   have hb := hl10
   unfold U64s at ha hb
   by_cases ga : l2 ≤ 131071
   rotate_left
   focus
    have hno : ¬ okD l0 l1 l2 l3 l4 l5 l6 l8 l9 l10 l11 l12 l13 l14 := fun h => by
     have := rightB_root _ _ _ _ _ _ _ _ _ h.1
     omega
    rcases hV.out with ⟨h, _, _⟩ | ⟨_, rfl, rfl⟩
    ·exact absurd h hno
    clear hno hV
    have r0 := Rk.cell 0 _ rfl
    have r1 := Rk.cell 1 _ rfl
    have r2 := Rk.cell 2 _ rfl
    have r3 := Rk.cell 3 _ rfl
    have r4 := Rk.cell 4 _ rfl
    have r5 := Rk.cell 5 _ rfl
    have r6 := Rk.cell 6 _ rfl
    have r7 := Rk.cell 7 _ rfl
    have r8 := Rk.cell 8 _ rfl
    have f0 := Rk.frozen 0
    have f1 := Rk.frozen 1
    have f2 := Rk.frozen 2
    have f3 := Rk.frozen 3
    have f4 := Rk.frozen 4
    have f5 := Rk.frozen 5
    have f6 := Rk.frozen 6
    have f7 := Rk.frozen 7
    have f8 := Rk.frozen 8
    go_wp2_with fail
    exact bodyPost_ret (v := .tuple #[.agg #[.int .u64 0, .int .i64 0, .int .i64 0, .int .i64 0, .int .i64 0, .int .i64 0, .int .i64 0, .int .i64 0, .int .i64 0], .int .i64 26]) (by simp [results, go_sem, Try.results120, r0, r1, r2, r3, r4, r5, r6, r7, r8]) rfl ⟨rfl, (((((((((Bk).setCell (by simp) _).setCell (by simp) _).setCell (by simp) _).setCell (by simp) _).setCell (by simp) _).setCell (by simp) _).setCell (by simp) _).setCell (by simp) _).setCell (by simp) _⟩
   by_cases gb : l10 ≤ 131071
   rotate_left
   focus
    have hno : ¬ okD l0 l1 l2 l3 l4 l5 l6 l8 l9 l10 l11 l12 l13 l14 := fun h => by
     have := rightB_root _ _ _ _ _ _ _ _ _ h.1
     omega
    rcases hV.out with ⟨h, _, _⟩ | ⟨_, rfl, rfl⟩
    ·exact absurd h hno
    clear hno hV
    have r0 := Rk.cell 0 _ rfl
    have r1 := Rk.cell 1 _ rfl
    have r2 := Rk.cell 2 _ rfl
    have r3 := Rk.cell 3 _ rfl
    have r4 := Rk.cell 4 _ rfl
    have r5 := Rk.cell 5 _ rfl
    have r6 := Rk.cell 6 _ rfl
    have r7 := Rk.cell 7 _ rfl
    have r8 := Rk.cell 8 _ rfl
    have f0 := Rk.frozen 0
    have f1 := Rk.frozen 1
    have f2 := Rk.frozen 2
    have f3 := Rk.frozen 3
    have f4 := Rk.frozen 4
    have f5 := Rk.frozen 5
    have f6 := Rk.frozen 6
    have f7 := Rk.frozen 7
    have f8 := Rk.frozen 8
    go_wp2_with fail
    exact bodyPost_ret (v := .tuple #[.agg #[.int .u64 0, .int .i64 0, .int .i64 0, .int .i64 0, .int .i64 0, .int .i64 0, .int .i64 0, .int .i64 0, .int .i64 0], .int .i64 26]) (by simp [results, go_sem, Try.results120, r0, r1, r2, r3, r4, r5, r6, r7, r8]) rfl ⟨rfl, (((((((((Bk).setCell (by simp) _).setCell (by simp) _).setCell (by simp) _).setCell (by simp) _).setCell (by simp) _).setCell (by simp) _).setCell (by simp) _).setCell (by simp) _).setCell (by simp) _⟩
   have N1 := (Sk.drew.set 2 (.int .i64 l2)).set 6 (.int .i64 l10)
   replace N1 : Blk (World.setCell (World.setCell wr.drew ⟨w6.heap.size, 2, none⟩ (.int .i64 l2)) ⟨w6.heap.size, 6, none⟩ (.int .i64 l10)) w6.heap.size #[.int .u64 l0, .int .i64 l1, .int .i64 l2, .int .i64 0, .int .i64 0, .int .i64 l9, .int .i64 l10, .int .i64 0, .int .i64 0] 89 := N1
   replace N1 := Lib.hid N1
   have X1 := Xk.drew.other ⟨w6.heap.size, 2, none⟩ (.int .i64 l2) (by simp; omega)
   have X2 := X1.other ⟨w6.heap.size, 6, none⟩ (.int .i64 l10) (by simp; omega)
   have Rd1 := (Rk.drew.other ⟨w6.heap.size, 2, none⟩ (.int .i64 l2) (by simp; omega)).other ⟨w6.heap.size, 6, none⟩ (.int .i64 l10) (by simp; omega)
   have K1 : (World.setCell wr.drew ⟨w6.heap.size, 2, none⟩ (.int .i64 l2)).cell? ⟨w.heap.size, 2, none⟩ = some (.int .u64 l2) ∧ (World.setCell wr.drew ⟨w6.heap.size, 2, none⟩ (.int .i64 l2)).cell? ⟨w.heap.size, 10, none⟩ = some (.int .u64 l10) := ⟨X1.cell 2 _ rfl, X1.cell 10 _ rfl⟩
   have K2 : (World.setCell (World.setCell wr.drew ⟨w6.heap.size, 2, none⟩ (.int .i64 l2)) ⟨w6.heap.size, 6, none⟩ (.int .i64 l10)).cell? ⟨w.heap.size, 2, none⟩ = some (.int .u64 l2) ∧ (World.setCell (World.setCell wr.drew ⟨w6.heap.size, 2, none⟩ (.int .i64 l2)) ⟨w6.heap.size, 6, none⟩ (.int .i64 l10)).cell? ⟨w.heap.size, 10, none⟩ = some (.int .u64 l10) := ⟨X2.cell 2 _ rfl, X2.cell 10 _ rfl⟩
   have B2 := (Bk.drew.setCell (p := ⟨w6.heap.size, 2, none⟩) (by simp; omega) (.int .i64 l2)).setCell (p := ⟨w6.heap.size, 6, none⟩) (by simp; omega) (.int .i64 l10)
   have sf1 := Sk.frozen 2
   have sf2 := Sk.frozen 6
   have sc1 := Sk.cell 2 _ rfl
   have sc2 := Sk.cell 6 _ rfl
   have K1 := Lib.hid K1
   have K2 := Lib.hid K2
   have X2 := Lib.hid X2
   have Rd1 := Lib.hid Rd1
   have B2 := Lib.hid B2
   have ci : IntKind.i64.wrap l2 = l2 := by rw [IntKind.wrap_i64]; omega
   have cj : IntKind.i64.wrap l10 = l10 := by rw [IntKind.wrap_i64]; omega
   clear X1 hV
   have v1 : IntKind.i64.wrap 2 = 2 := by rfl
   have v9 : IntKind.i64.wrap 10 = 10 := by rfl
   have v4 : IntKind.i64.wrap 5 = 5 := by rfl
   go_wp2_with fail
   refine wp_region_held_drew (S := fun W => W.cell? ⟨w.heap.size, 2, none⟩ = some (.int .u64 l2) ∧ W.cell? ⟨w.heap.size, 10, none⟩ = some (.int .u64 l10)) (by kernel_rfl) ?_ (fun hHeld => ?_)
   ·(try dsimp only)
    (first | assumption | exact ⟨xa, xb⟩ | exact K1.out | exact K2.out)
   first | (refine wpAnyH_take (i := 0) (v := ?_) rfl (by kernel_rfl) (by kernel_rfl) (by kernel_rfl) (fun _ _ _ h => h) (Or.inl ⟨by rfl, ?_⟩) (by assumption) ?_; rotate_left; (focus (intro w hSw; (try dsimp only at hSw); go_simp; first | done | with_reducible rfl))) | (refine wpAnyH_take (i := 0) rfl (by kernel_rfl) (by kernel_rfl) (by kernel_rfl) (fun _ _ _ h => h) (Or.inr ⟨by rfl, rfl⟩) (by assumption) ?_) | fail
   try simp only [Act.put, List.getElem_toArray, List.getElem_cons_zero, List.getElem_cons_succ, List.setIfInBounds_toArray, List.set_cons_zero, List.set_cons_succ]
   first | (refine wpAnyH_take (i := 1) (v := ?_) rfl (by kernel_rfl) (by kernel_rfl) (by kernel_rfl) (fun _ _ _ h => h) (Or.inl ⟨by rfl, ?_⟩) (by assumption) ?_; rotate_left; (focus (intro w hSw; (try dsimp only at hSw); go_simp; first | done | with_reducible rfl))) | (refine wpAnyH_take (i := 1) rfl (by kernel_rfl) (by kernel_rfl) (by kernel_rfl) (fun _ _ _ h => h) (Or.inr ⟨by rfl, rfl⟩) (by assumption) ?_) | fail
   try simp only [Act.put, List.getElem_toArray, List.getElem_cons_zero, List.getElem_cons_succ, List.setIfInBounds_toArray, List.set_cons_zero, List.set_cons_succ]
   first | (refine wpAnyH_take (i := 2) (v := ?_) rfl (by kernel_rfl) (by kernel_rfl) (by kernel_rfl) (fun _ _ _ h => h) (Or.inl ⟨by rfl, ?_⟩) (by assumption) ?_; rotate_left; (focus (intro w hSw; (try dsimp only at hSw); go_simp; first | done | with_reducible rfl))) | (refine wpAnyH_take (i := 2) rfl (by kernel_rfl) (by kernel_rfl) (by kernel_rfl) (fun _ _ _ h => h) (Or.inr ⟨by rfl, rfl⟩) (by assumption) ?_) | fail
   try simp only [Act.put, List.getElem_toArray, List.getElem_cons_zero, List.getElem_cons_succ, List.setIfInBounds_toArray, List.set_cons_zero, List.set_cons_succ]
   first | (refine wpAnyH_take (i := 3) (v := ?_) rfl (by kernel_rfl) (by kernel_rfl) (by kernel_rfl) (fun _ _ _ h => h) (Or.inl ⟨by rfl, ?_⟩) (by assumption) ?_; rotate_left; (focus (intro w hSw; (try dsimp only at hSw); go_simp; first | done | with_reducible rfl))) | (refine wpAnyH_take (i := 3) rfl (by kernel_rfl) (by kernel_rfl) (by kernel_rfl) (fun _ _ _ h => h) (Or.inr ⟨by rfl, rfl⟩) (by assumption) ?_) | fail
   try simp only [Act.put, List.getElem_toArray, List.getElem_cons_zero, List.getElem_cons_succ, List.setIfInBounds_toArray, List.set_cons_zero, List.set_cons_succ]
   first | (refine wpAnyH_take (i := 4) (v := ?_) rfl (by kernel_rfl) (by kernel_rfl) (by kernel_rfl) (fun _ _ _ h => h) (Or.inl ⟨by rfl, ?_⟩) (by assumption) ?_; rotate_left; (focus (intro w hSw; (try dsimp only at hSw); go_simp; first | done | with_reducible rfl))) | (refine wpAnyH_take (i := 4) rfl (by kernel_rfl) (by kernel_rfl) (by kernel_rfl) (fun _ _ _ h => h) (Or.inr ⟨by rfl, rfl⟩) (by assumption) ?_) | fail
   try simp only [Act.put, List.getElem_toArray, List.getElem_cons_zero, List.getElem_cons_succ, List.setIfInBounds_toArray, List.set_cons_zero, List.set_cons_succ]
   first | (refine wpAnyH_take (i := 5) (v := ?_) rfl (by kernel_rfl) (by kernel_rfl) (by kernel_rfl) (fun _ _ _ h => h) (Or.inl ⟨by rfl, ?_⟩) (by assumption) ?_; rotate_left; (focus (intro w hSw; (try dsimp only at hSw); go_simp; first | done | with_reducible rfl))) | (refine wpAnyH_take (i := 5) rfl (by kernel_rfl) (by kernel_rfl) (by kernel_rfl) (fun _ _ _ h => h) (Or.inr ⟨by rfl, rfl⟩) (by assumption) ?_) | fail
   try simp only [Act.put, List.getElem_toArray, List.getElem_cons_zero, List.getElem_cons_succ, List.setIfInBounds_toArray, List.set_cons_zero, List.set_cons_succ]
   first | (refine wpAnyH_take (i := 6) (v := ?_) rfl (by kernel_rfl) (by kernel_rfl) (by kernel_rfl) (fun _ _ _ h => h) (Or.inl ⟨by rfl, ?_⟩) (by assumption) ?_; rotate_left; (focus (intro w hSw; (try dsimp only at hSw); go_simp; first | done | with_reducible rfl))) | (refine wpAnyH_take (i := 6) rfl (by kernel_rfl) (by kernel_rfl) (by kernel_rfl) (fun _ _ _ h => h) (Or.inr ⟨by rfl, rfl⟩) (by assumption) ?_) | fail
   try simp only [Act.put, List.getElem_toArray, List.getElem_cons_zero, List.getElem_cons_succ, List.setIfInBounds_toArray, List.set_cons_zero, List.set_cons_succ]
   first | (refine wpAnyH_take (i := 7) (v := ?_) rfl (by kernel_rfl) (by kernel_rfl) (by kernel_rfl) (fun _ _ _ h => h) (Or.inl ⟨by rfl, ?_⟩) (by assumption) ?_; rotate_left; (focus (intro w hSw; (try dsimp only at hSw); go_simp; first | done | with_reducible rfl))) | (refine wpAnyH_take (i := 7) rfl (by kernel_rfl) (by kernel_rfl) (by kernel_rfl) (fun _ _ _ h => h) (Or.inr ⟨by rfl, rfl⟩) (by assumption) ?_) | fail
   try simp only [Act.put, List.getElem_toArray, List.getElem_cons_zero, List.getElem_cons_succ, List.setIfInBounds_toArray, List.set_cons_zero, List.set_cons_succ]
   first | (refine wpAnyH_take (i := 8) (v := ?_) rfl (by kernel_rfl) (by kernel_rfl) (by kernel_rfl) (fun _ _ _ h => h) (Or.inl ⟨by rfl, ?_⟩) (by assumption) ?_; rotate_left; (focus (intro w hSw; (try dsimp only at hSw); go_simp; first | done | with_reducible rfl))) | (refine wpAnyH_take (i := 8) rfl (by kernel_rfl) (by kernel_rfl) (by kernel_rfl) (fun _ _ _ h => h) (Or.inr ⟨by rfl, rfl⟩) (by assumption) ?_) | fail
   try simp only [Act.put, List.getElem_toArray, List.getElem_cons_zero, List.getElem_cons_succ, List.setIfInBounds_toArray, List.set_cons_zero, List.set_cons_succ]
   first | (refine wpAnyH_take (i := 9) (v := ?_) rfl (by kernel_rfl) (by kernel_rfl) (by kernel_rfl) (fun _ _ _ h => h) (Or.inl ⟨by rfl, ?_⟩) (by assumption) ?_; rotate_left; (focus (intro w hSw; (try dsimp only at hSw); go_simp; first | done | with_reducible rfl))) | (refine wpAnyH_take (i := 9) rfl (by kernel_rfl) (by kernel_rfl) (by kernel_rfl) (fun _ _ _ h => h) (Or.inr ⟨by rfl, rfl⟩) (by assumption) ?_) | fail
   try simp only [Act.put, List.getElem_toArray, List.getElem_cons_zero, List.getElem_cons_succ, List.setIfInBounds_toArray, List.set_cons_zero, List.set_cons_succ]
   first | (refine wpAnyH_take (i := 10) (v := ?_) rfl (by kernel_rfl) (by kernel_rfl) (by kernel_rfl) (fun _ _ _ h => h) (Or.inl ⟨by rfl, ?_⟩) (by assumption) ?_; rotate_left; (focus (intro w hSw; (try dsimp only at hSw); go_simp; first | done | with_reducible rfl))) | (refine wpAnyH_take (i := 10) rfl (by kernel_rfl) (by kernel_rfl) (by kernel_rfl) (fun _ _ _ h => h) (Or.inr ⟨by rfl, rfl⟩) (by assumption) ?_) | fail
   try simp only [Act.put, List.getElem_toArray, List.getElem_cons_zero, List.getElem_cons_succ, List.setIfInBounds_toArray, List.set_cons_zero, List.set_cons_succ]
   first | (refine wpAnyH_take (i := 11) (v := ?_) rfl (by kernel_rfl) (by kernel_rfl) (by kernel_rfl) (fun _ _ _ h => h) (Or.inl ⟨by rfl, ?_⟩) (by assumption) ?_; rotate_left; (focus (intro w hSw; (try dsimp only at hSw); go_simp; first | done | with_reducible rfl))) | (refine wpAnyH_take (i := 11) rfl (by kernel_rfl) (by kernel_rfl) (by kernel_rfl) (fun _ _ _ h => h) (Or.inr ⟨by rfl, rfl⟩) (by assumption) ?_) | fail
   try simp only [Act.put, List.getElem_toArray, List.getElem_cons_zero, List.getElem_cons_succ, List.setIfInBounds_toArray, List.set_cons_zero, List.set_cons_succ]
   first | (refine wpAnyH_take (i := 12) (v := ?_) rfl (by kernel_rfl) (by kernel_rfl) (by kernel_rfl) (fun _ _ _ h => h) (Or.inl ⟨by rfl, ?_⟩) (by assumption) ?_; rotate_left; (focus (intro w hSw; (try dsimp only at hSw); go_simp; first | done | with_reducible rfl))) | (refine wpAnyH_take (i := 12) rfl (by kernel_rfl) (by kernel_rfl) (by kernel_rfl) (fun _ _ _ h => h) (Or.inr ⟨by rfl, rfl⟩) (by assumption) ?_) | fail
   try simp only [Act.put, List.getElem_toArray, List.getElem_cons_zero, List.getElem_cons_succ, List.setIfInBounds_toArray, List.set_cons_zero, List.set_cons_succ]
   first | (refine wpAnyH_take (i := 13) (v := ?_) rfl (by kernel_rfl) (by kernel_rfl) (by kernel_rfl) (fun _ _ _ h => h) (Or.inl ⟨by rfl, ?_⟩) (by assumption) ?_; rotate_left; (focus (intro w hSw; (try dsimp only at hSw); go_simp; first | done | with_reducible rfl))) | (refine wpAnyH_take (i := 13) rfl (by kernel_rfl) (by kernel_rfl) (by kernel_rfl) (fun _ _ _ h => h) (Or.inr ⟨by rfl, rfl⟩) (by assumption) ?_) | fail
   try simp only [Act.put, List.getElem_toArray, List.getElem_cons_zero, List.getElem_cons_succ, List.setIfInBounds_toArray, List.set_cons_zero, List.set_cons_succ]
   first | (refine wpAnyH_take (i := 14) (v := ?_) rfl (by kernel_rfl) (by kernel_rfl) (by kernel_rfl) (fun _ _ _ h => h) (Or.inl ⟨by rfl, ?_⟩) (by assumption) ?_; rotate_left; (focus (intro w hSw; (try dsimp only at hSw); go_simp; first | done | with_reducible rfl))) | (refine wpAnyH_take (i := 14) rfl (by kernel_rfl) (by kernel_rfl) (by kernel_rfl) (fun _ _ _ h => h) (Or.inr ⟨by rfl, rfl⟩) (by assumption) ?_) | fail
   try simp only [Act.put, List.getElem_toArray, List.getElem_cons_zero, List.getElem_cons_succ, List.setIfInBounds_toArray, List.set_cons_zero, List.set_cons_succ]
   first | (refine wpAnyH_take (i := 16) (v := ?_) rfl (by kernel_rfl) (by kernel_rfl) (by kernel_rfl) (fun _ _ _ h => h) (Or.inl ⟨by rfl, ?_⟩) (by assumption) ?_; rotate_left; (focus (intro w hSw; (try dsimp only at hSw); go_simp; first | done | with_reducible rfl))) | (refine wpAnyH_take (i := 16) rfl (by kernel_rfl) (by kernel_rfl) (by kernel_rfl) (fun _ _ _ h => h) (Or.inr ⟨by rfl, rfl⟩) (by assumption) ?_) | fail
   try simp only [Act.put, List.getElem_toArray, List.getElem_cons_zero, List.getElem_cons_succ, List.setIfInBounds_toArray, List.set_cons_zero, List.set_cons_succ]
   refine wpAnyH_ready (rs := [15]) (by kernel_rfl) (by simp) (AllReadyH.cons rfl (fun K hK => ?_) AllReadyH.nil)
   (try go_simp)
   refine hK.out _ _ ?_ (fun hHeld => ?_)
   ·(try dsimp only)
    (first | assumption | exact ⟨xa, xb⟩ | exact K1.out | exact K2.out)
   clear hK K
   try simp only [Act.put, List.getElem_toArray, List.getElem_cons_zero, List.getElem_cons_succ, List.setIfInBounds_toArray, List.set_cons_zero, List.set_cons_succ]
   first | (refine wpAnyH_take (i := 17) (v := ?_) rfl (by kernel_rfl) (by kernel_rfl) (by kernel_rfl) (fun _ _ _ h => h) (Or.inl ⟨by rfl, ?_⟩) (by assumption) ?_; rotate_left; (focus (intro w hSw; (try dsimp only at hSw); go_simp; first | done | with_reducible rfl))) | (refine wpAnyH_take (i := 17) rfl (by kernel_rfl) (by kernel_rfl) (by kernel_rfl) (fun _ _ _ h => h) (Or.inr ⟨by rfl, rfl⟩) (by assumption) ?_) | fail
   try simp only [Act.put, List.getElem_toArray, List.getElem_cons_zero, List.getElem_cons_succ, List.setIfInBounds_toArray, List.set_cons_zero, List.set_cons_succ]
   refine wpAnyH_ready (rs := [18]) (by kernel_rfl) (by simp) (AllReadyH.cons rfl (fun K hK => ?_) AllReadyH.nil)
   (try go_simp)
   refine hK.out _ _ ?_ (fun hHeld => ?_)
   ·(try dsimp only)
    (first | assumption | exact ⟨xa, xb⟩ | exact K1.out | exact K2.out)
   clear hK K
   try simp only [Act.put, List.getElem_toArray, List.getElem_cons_zero, List.getElem_cons_succ, List.setIfInBounds_toArray, List.set_cons_zero, List.set_cons_succ]
   refine wpAnyH_done (by kernel_rfl) ?_ _
   go_wp2_with fail
   go_roundw
   case rel => exact ⟨2, 2, rfl, by unfold rOK at hok ⊢; omega, by omega, rfl, N1.out, X2.out, Rd1.out, B2.out⟩
   case measure => simp [intOf] <;> omega
  ·obtain rfl : c = 2 := by simpa using hc
   clear hc
   replace Sk : Blk wr w6.heap.size #[.int .u64 l0, .int .i64 l1, .int .i64 l2, .int .i64 0, .int .i64 0, .int .i64 l9, .int .i64 l10, .int .i64 0, .int .i64 0] 89 := Sk
   have xa := Xk.cell 3 _ rfl
   have xb := Xk.cell 11 _ rfl
   replace xa : wr.cell? ⟨w.heap.size, 3, none⟩ = some (.int .u64 l3) := xa
   replace xb : wr.cell? ⟨w.heap.size, 11, none⟩ = some (.int .u64 l11) := xb
   have ha := hl3
   have hb := hl11
   unfold U64s at ha hb
   by_cases ga : l3 ≤ 131071
   rotate_left
   focus
    have hno : ¬ okD l0 l1 l2 l3 l4 l5 l6 l8 l9 l10 l11 l12 l13 l14 := fun h => by
     have := rightB_root _ _ _ _ _ _ _ _ _ h.1
     omega
    rcases hV.out with ⟨h, _, _⟩ | ⟨_, rfl, rfl⟩
    ·exact absurd h hno
    clear hno hV
    have r0 := Rk.cell 0 _ rfl
    have r1 := Rk.cell 1 _ rfl
    have r2 := Rk.cell 2 _ rfl
    have r3 := Rk.cell 3 _ rfl
    have r4 := Rk.cell 4 _ rfl
    have r5 := Rk.cell 5 _ rfl
    have r6 := Rk.cell 6 _ rfl
    have r7 := Rk.cell 7 _ rfl
    have r8 := Rk.cell 8 _ rfl
    have f0 := Rk.frozen 0
    have f1 := Rk.frozen 1
    have f2 := Rk.frozen 2
    have f3 := Rk.frozen 3
    have f4 := Rk.frozen 4
    have f5 := Rk.frozen 5
    have f6 := Rk.frozen 6
    have f7 := Rk.frozen 7
    have f8 := Rk.frozen 8
    go_wp2_with fail
    exact bodyPost_ret (v := .tuple #[.agg #[.int .u64 0, .int .i64 0, .int .i64 0, .int .i64 0, .int .i64 0, .int .i64 0, .int .i64 0, .int .i64 0, .int .i64 0], .int .i64 26]) (by simp [results, go_sem, Try.results120, r0, r1, r2, r3, r4, r5, r6, r7, r8]) rfl ⟨rfl, (((((((((Bk).setCell (by simp) _).setCell (by simp) _).setCell (by simp) _).setCell (by simp) _).setCell (by simp) _).setCell (by simp) _).setCell (by simp) _).setCell (by simp) _).setCell (by simp) _⟩
   by_cases gb : l11 ≤ 131071
   rotate_left
   focus
    have hno : ¬ okD l0 l1 l2 l3 l4 l5 l6 l8 l9 l10 l11 l12 l13 l14 := fun h => by
     have := rightB_root _ _ _ _ _ _ _ _ _ h.1
     omega
    rcases hV.out with ⟨h, _, _⟩ | ⟨_, rfl, rfl⟩
    ·exact absurd h hno
    clear hno hV
    have r0 := Rk.cell 0 _ rfl
    have r1 := Rk.cell 1 _ rfl
    have r2 := Rk.cell 2 _ rfl
    have r3 := Rk.cell 3 _ rfl
    have r4 := Rk.cell 4 _ rfl
    have r5 := Rk.cell 5 _ rfl
    have r6 := Rk.cell 6 _ rfl
    have r7 := Rk.cell 7 _ rfl
    have r8 := Rk.cell 8 _ rfl
    have f0 := Rk.frozen 0
    have f1 := Rk.frozen 1
    have f2 := Rk.frozen 2
    have f3 := Rk.frozen 3
    have f4 := Rk.frozen 4
    have f5 := Rk.frozen 5
    have f6 := Rk.frozen 6
    have f7 := Rk.frozen 7
    have f8 := Rk.frozen 8
    go_wp2_with fail
    exact bodyPost_ret (v := .tuple #[.agg #[.int .u64 0, .int .i64 0, .int .i64 0, .int .i64 0, .int .i64 0, .int .i64 0, .int .i64 0, .int .i64 0, .int .i64 0], .int .i64 26]) (by simp [results, go_sem, Try.results120, r0, r1, r2, r3, r4, r5, r6, r7, r8]) rfl ⟨rfl, (((((((((Bk).setCell (by simp) _).setCell (by simp) _).setCell (by simp) _).setCell (by simp) _).setCell (by simp) _).setCell (by simp) _).setCell (by simp) _).setCell (by simp) _).setCell (by simp) _⟩
   have N1 := (Sk.drew.set 3 (.int .i64 l3)).set 7 (.int .i64 l11)
   replace N1 : Blk (World.setCell (World.setCell wr.drew ⟨w6.heap.size, 3, none⟩ (.int .i64 l3)) ⟨w6.heap.size, 7, none⟩ (.int .i64 l11)) w6.heap.size #[.int .u64 l0, .int .i64 l1, .int .i64 l2, .int .i64 l3, .int .i64 0, .int .i64 l9, .int .i64 l10, .int .i64 l11, .int .i64 0] 89 := N1
   replace N1 := Lib.hid N1
   have X1 := Xk.drew.other ⟨w6.heap.size, 3, none⟩ (.int .i64 l3) (by simp; omega)
   have X2 := X1.other ⟨w6.heap.size, 7, none⟩ (.int .i64 l11) (by simp; omega)
   have Rd1 := (Rk.drew.other ⟨w6.heap.size, 3, none⟩ (.int .i64 l3) (by simp; omega)).other ⟨w6.heap.size, 7, none⟩ (.int .i64 l11) (by simp; omega)
   have K1 : (World.setCell wr.drew ⟨w6.heap.size, 3, none⟩ (.int .i64 l3)).cell? ⟨w.heap.size, 3, none⟩ = some (.int .u64 l3) ∧ (World.setCell wr.drew ⟨w6.heap.size, 3, none⟩ (.int .i64 l3)).cell? ⟨w.heap.size, 11, none⟩ = some (.int .u64 l11) := ⟨X1.cell 3 _ rfl, X1.cell 11 _ rfl⟩
   have K2 : (World.setCell (World.setCell wr.drew ⟨w6.heap.size, 3, none⟩ (.int .i64 l3)) ⟨w6.heap.size, 7, none⟩ (.int .i64 l11)).cell? ⟨w.heap.size, 3, none⟩ = some (.int .u64 l3) ∧ (World.setCell (World.setCell wr.drew ⟨w6.heap.size, 3, none⟩ (.int .i64 l3)) ⟨w6.heap.size, 7, none⟩ (.int .i64 l11)).cell? ⟨w.heap.size, 11, none⟩ = some (.int .u64 l11) := ⟨X2.cell 3 _ rfl, X2.cell 11 _ rfl⟩
   have B2 := (Bk.drew.setCell (p := ⟨w6.heap.size, 3, none⟩) (by simp; omega) (.int .i64 l3)).setCell (p := ⟨w6.heap.size, 7, none⟩) (by simp; omega) (.int .i64 l11)
   have sf1 := Sk.frozen 3
   have sf2 := Sk.frozen 7
   have sc1 := Sk.cell 3 _ rfl
   have sc2 := Sk.cell 7 _ rfl
   have K1 := Lib.hid K1
   have K2 := Lib.hid K2
   have X2 := Lib.hid X2
   have Rd1 := Lib.hid Rd1
   have B2 := Lib.hid B2
   have ci : IntKind.i64.wrap l3 = l3 := by rw [IntKind.wrap_i64]; omega
   have cj : IntKind.i64.wrap l11 = l11 := by rw [IntKind.wrap_i64]; omega
   clear X1 hV
   have v1 : IntKind.i64.wrap 3 = 3 := by rfl
   have v9 : IntKind.i64.wrap 11 = 11 := by rfl
   have v4 : IntKind.i64.wrap 6 = 6 := by rfl
   go_wp2_with fail
   refine wp_region_held_drew (S := fun W => W.cell? ⟨w.heap.size, 3, none⟩ = some (.int .u64 l3) ∧ W.cell? ⟨w.heap.size, 11, none⟩ = some (.int .u64 l11)) (by kernel_rfl) ?_ (fun hHeld => ?_)
   ·(try dsimp only)
    (first | assumption | exact ⟨xa, xb⟩ | exact K1.out | exact K2.out)
   first | (refine wpAnyH_take (i := 0) (v := ?_) rfl (by kernel_rfl) (by kernel_rfl) (by kernel_rfl) (fun _ _ _ h => h) (Or.inl ⟨by rfl, ?_⟩) (by assumption) ?_; rotate_left; (focus (intro w hSw; (try dsimp only at hSw); go_simp; first | done | with_reducible rfl))) | (refine wpAnyH_take (i := 0) rfl (by kernel_rfl) (by kernel_rfl) (by kernel_rfl) (fun _ _ _ h => h) (Or.inr ⟨by rfl, rfl⟩) (by assumption) ?_) | fail
   try simp only [Act.put, List.getElem_toArray, List.getElem_cons_zero, List.getElem_cons_succ, List.setIfInBounds_toArray, List.set_cons_zero, List.set_cons_succ]
   first | (refine wpAnyH_take (i := 1) (v := ?_) rfl (by kernel_rfl) (by kernel_rfl) (by kernel_rfl) (fun _ _ _ h => h) (Or.inl ⟨by rfl, ?_⟩) (by assumption) ?_; rotate_left; (focus (intro w hSw; (try dsimp only at hSw); go_simp; first | done | with_reducible rfl))) | (refine wpAnyH_take (i := 1) rfl (by kernel_rfl) (by kernel_rfl) (by kernel_rfl) (fun _ _ _ h => h) (Or.inr ⟨by rfl, rfl⟩) (by assumption) ?_) | fail
   try simp only [Act.put, List.getElem_toArray, List.getElem_cons_zero, List.getElem_cons_succ, List.setIfInBounds_toArray, List.set_cons_zero, List.set_cons_succ]
   first | (refine wpAnyH_take (i := 2) (v := ?_) rfl (by kernel_rfl) (by kernel_rfl) (by kernel_rfl) (fun _ _ _ h => h) (Or.inl ⟨by rfl, ?_⟩) (by assumption) ?_; rotate_left; (focus (intro w hSw; (try dsimp only at hSw); go_simp; first | done | with_reducible rfl))) | (refine wpAnyH_take (i := 2) rfl (by kernel_rfl) (by kernel_rfl) (by kernel_rfl) (fun _ _ _ h => h) (Or.inr ⟨by rfl, rfl⟩) (by assumption) ?_) | fail
   try simp only [Act.put, List.getElem_toArray, List.getElem_cons_zero, List.getElem_cons_succ, List.setIfInBounds_toArray, List.set_cons_zero, List.set_cons_succ]
   first | (refine wpAnyH_take (i := 3) (v := ?_) rfl (by kernel_rfl) (by kernel_rfl) (by kernel_rfl) (fun _ _ _ h => h) (Or.inl ⟨by rfl, ?_⟩) (by assumption) ?_; rotate_left; (focus (intro w hSw; (try dsimp only at hSw); go_simp; first | done | with_reducible rfl))) | (refine wpAnyH_take (i := 3) rfl (by kernel_rfl) (by kernel_rfl) (by kernel_rfl) (fun _ _ _ h => h) (Or.inr ⟨by rfl, rfl⟩) (by assumption) ?_) | fail
   try simp only [Act.put, List.getElem_toArray, List.getElem_cons_zero, List.getElem_cons_succ, List.setIfInBounds_toArray, List.set_cons_zero, List.set_cons_succ]
   first | (refine wpAnyH_take (i := 4) (v := ?_) rfl (by kernel_rfl) (by kernel_rfl) (by kernel_rfl) (fun _ _ _ h => h) (Or.inl ⟨by rfl, ?_⟩) (by assumption) ?_; rotate_left; (focus (intro w hSw; (try dsimp only at hSw); go_simp; first | done | with_reducible rfl))) | (refine wpAnyH_take (i := 4) rfl (by kernel_rfl) (by kernel_rfl) (by kernel_rfl) (fun _ _ _ h => h) (Or.inr ⟨by rfl, rfl⟩) (by assumption) ?_) | fail
   try simp only [Act.put, List.getElem_toArray, List.getElem_cons_zero, List.getElem_cons_succ, List.setIfInBounds_toArray, List.set_cons_zero, List.set_cons_succ]
   first | (refine wpAnyH_take (i := 5) (v := ?_) rfl (by kernel_rfl) (by kernel_rfl) (by kernel_rfl) (fun _ _ _ h => h) (Or.inl ⟨by rfl, ?_⟩) (by assumption) ?_; rotate_left; (focus (intro w hSw; (try dsimp only at hSw); go_simp; first | done | with_reducible rfl))) | (refine wpAnyH_take (i := 5) rfl (by kernel_rfl) (by kernel_rfl) (by kernel_rfl) (fun _ _ _ h => h) (Or.inr ⟨by rfl, rfl⟩) (by assumption) ?_) | fail
   try simp only [Act.put, List.getElem_toArray, List.getElem_cons_zero, List.getElem_cons_succ, List.setIfInBounds_toArray, List.set_cons_zero, List.set_cons_succ]
   first | (refine wpAnyH_take (i := 6) (v := ?_) rfl (by kernel_rfl) (by kernel_rfl) (by kernel_rfl) (fun _ _ _ h => h) (Or.inl ⟨by rfl, ?_⟩) (by assumption) ?_; rotate_left; (focus (intro w hSw; (try dsimp only at hSw); go_simp; first | done | with_reducible rfl))) | (refine wpAnyH_take (i := 6) rfl (by kernel_rfl) (by kernel_rfl) (by kernel_rfl) (fun _ _ _ h => h) (Or.inr ⟨by rfl, rfl⟩) (by assumption) ?_) | fail
   try simp only [Act.put, List.getElem_toArray, List.getElem_cons_zero, List.getElem_cons_succ, List.setIfInBounds_toArray, List.set_cons_zero, List.set_cons_succ]
   first | (refine wpAnyH_take (i := 7) (v := ?_) rfl (by kernel_rfl) (by kernel_rfl) (by kernel_rfl) (fun _ _ _ h => h) (Or.inl ⟨by rfl, ?_⟩) (by assumption) ?_; rotate_left; (focus (intro w hSw; (try dsimp only at hSw); go_simp; first | done | with_reducible rfl))) | (refine wpAnyH_take (i := 7) rfl (by kernel_rfl) (by kernel_rfl) (by kernel_rfl) (fun _ _ _ h => h) (Or.inr ⟨by rfl, rfl⟩) (by assumption) ?_) | fail
   try simp only [Act.put, List.getElem_toArray, List.getElem_cons_zero, List.getElem_cons_succ, List.setIfInBounds_toArray, List.set_cons_zero, List.set_cons_succ]
   first | (refine wpAnyH_take (i := 8) (v := ?_) rfl (by kernel_rfl) (by kernel_rfl) (by kernel_rfl) (fun _ _ _ h => h) (Or.inl ⟨by rfl, ?_⟩) (by assumption) ?_; rotate_left; (focus (intro w hSw; (try dsimp only at hSw); go_simp; first | done | with_reducible rfl))) | (refine wpAnyH_take (i := 8) rfl (by kernel_rfl) (by kernel_rfl) (by kernel_rfl) (fun _ _ _ h => h) (Or.inr ⟨by rfl, rfl⟩) (by assumption) ?_) | fail
   try simp only [Act.put, List.getElem_toArray, List.getElem_cons_zero, List.getElem_cons_succ, List.setIfInBounds_toArray, List.set_cons_zero, List.set_cons_succ]
   first | (refine wpAnyH_take (i := 9) (v := ?_) rfl (by kernel_rfl) (by kernel_rfl) (by kernel_rfl) (fun _ _ _ h => h) (Or.inl ⟨by rfl, ?_⟩) (by assumption) ?_; rotate_left; (focus (intro w hSw; (try dsimp only at hSw); go_simp; first | done | with_reducible rfl))) | (refine wpAnyH_take (i := 9) rfl (by kernel_rfl) (by kernel_rfl) (by kernel_rfl) (fun _ _ _ h => h) (Or.inr ⟨by rfl, rfl⟩) (by assumption) ?_) | fail
   try simp only [Act.put, List.getElem_toArray, List.getElem_cons_zero, List.getElem_cons_succ, List.setIfInBounds_toArray, List.set_cons_zero, List.set_cons_succ]
   first | (refine wpAnyH_take (i := 10) (v := ?_) rfl (by kernel_rfl) (by kernel_rfl) (by kernel_rfl) (fun _ _ _ h => h) (Or.inl ⟨by rfl, ?_⟩) (by assumption) ?_; rotate_left; (focus (intro w hSw; (try dsimp only at hSw); go_simp; first | done | with_reducible rfl))) | (refine wpAnyH_take (i := 10) rfl (by kernel_rfl) (by kernel_rfl) (by kernel_rfl) (fun _ _ _ h => h) (Or.inr ⟨by rfl, rfl⟩) (by assumption) ?_) | fail
   try simp only [Act.put, List.getElem_toArray, List.getElem_cons_zero, List.getElem_cons_succ, List.setIfInBounds_toArray, List.set_cons_zero, List.set_cons_succ]
   first | (refine wpAnyH_take (i := 11) (v := ?_) rfl (by kernel_rfl) (by kernel_rfl) (by kernel_rfl) (fun _ _ _ h => h) (Or.inl ⟨by rfl, ?_⟩) (by assumption) ?_; rotate_left; (focus (intro w hSw; (try dsimp only at hSw); go_simp; first | done | with_reducible rfl))) | (refine wpAnyH_take (i := 11) rfl (by kernel_rfl) (by kernel_rfl) (by kernel_rfl) (fun _ _ _ h => h) (Or.inr ⟨by rfl, rfl⟩) (by assumption) ?_) | fail
   try simp only [Act.put, List.getElem_toArray, List.getElem_cons_zero, List.getElem_cons_succ, List.setIfInBounds_toArray, List.set_cons_zero, List.set_cons_succ]
   first | (refine wpAnyH_take (i := 12) (v := ?_) rfl (by kernel_rfl) (by kernel_rfl) (by kernel_rfl) (fun _ _ _ h => h) (Or.inl ⟨by rfl, ?_⟩) (by assumption) ?_; rotate_left; (focus (intro w hSw; (try dsimp only at hSw); go_simp; first | done | with_reducible rfl))) | (refine wpAnyH_take (i := 12) rfl (by kernel_rfl) (by kernel_rfl) (by kernel_rfl) (fun _ _ _ h => h) (Or.inr ⟨by rfl, rfl⟩) (by assumption) ?_) | fail
   try simp only [Act.put, List.getElem_toArray, List.getElem_cons_zero, List.getElem_cons_succ, List.setIfInBounds_toArray, List.set_cons_zero, List.set_cons_succ]
   first | (refine wpAnyH_take (i := 13) (v := ?_) rfl (by kernel_rfl) (by kernel_rfl) (by kernel_rfl) (fun _ _ _ h => h) (Or.inl ⟨by rfl, ?_⟩) (by assumption) ?_; rotate_left; (focus (intro w hSw; (try dsimp only at hSw); go_simp; first | done | with_reducible rfl))) | (refine wpAnyH_take (i := 13) rfl (by kernel_rfl) (by kernel_rfl) (by kernel_rfl) (fun _ _ _ h => h) (Or.inr ⟨by rfl, rfl⟩) (by assumption) ?_) | fail
   try simp only [Act.put, List.getElem_toArray, List.getElem_cons_zero, List.getElem_cons_succ, List.setIfInBounds_toArray, List.set_cons_zero, List.set_cons_succ]
   first | (refine wpAnyH_take (i := 14) (v := ?_) rfl (by kernel_rfl) (by kernel_rfl) (by kernel_rfl) (fun _ _ _ h => h) (Or.inl ⟨by rfl, ?_⟩) (by assumption) ?_; rotate_left; (focus (intro w hSw; (try dsimp only at hSw); go_simp; first | done | with_reducible rfl))) | (refine wpAnyH_take (i := 14) rfl (by kernel_rfl) (by kernel_rfl) (by kernel_rfl) (fun _ _ _ h => h) (Or.inr ⟨by rfl, rfl⟩) (by assumption) ?_) | fail
   try simp only [Act.put, List.getElem_toArray, List.getElem_cons_zero, List.getElem_cons_succ, List.setIfInBounds_toArray, List.set_cons_zero, List.set_cons_succ]
   first | (refine wpAnyH_take (i := 16) (v := ?_) rfl (by kernel_rfl) (by kernel_rfl) (by kernel_rfl) (fun _ _ _ h => h) (Or.inl ⟨by rfl, ?_⟩) (by assumption) ?_; rotate_left; (focus (intro w hSw; (try dsimp only at hSw); go_simp; first | done | with_reducible rfl))) | (refine wpAnyH_take (i := 16) rfl (by kernel_rfl) (by kernel_rfl) (by kernel_rfl) (fun _ _ _ h => h) (Or.inr ⟨by rfl, rfl⟩) (by assumption) ?_) | fail
   try simp only [Act.put, List.getElem_toArray, List.getElem_cons_zero, List.getElem_cons_succ, List.setIfInBounds_toArray, List.set_cons_zero, List.set_cons_succ]
   refine wpAnyH_ready (rs := [15]) (by kernel_rfl) (by simp) (AllReadyH.cons rfl (fun K hK => ?_) AllReadyH.nil)
   (try go_simp)
   refine hK.out _ _ ?_ (fun hHeld => ?_)
   ·(try dsimp only)
    (first | assumption | exact ⟨xa, xb⟩ | exact K1.out | exact K2.out)
   clear hK K
   try simp only [Act.put, List.getElem_toArray, List.getElem_cons_zero, List.getElem_cons_succ, List.setIfInBounds_toArray, List.set_cons_zero, List.set_cons_succ]
   first | (refine wpAnyH_take (i := 17) (v := ?_) rfl (by kernel_rfl) (by kernel_rfl) (by kernel_rfl) (fun _ _ _ h => h) (Or.inl ⟨by rfl, ?_⟩) (by assumption) ?_; rotate_left; (focus (intro w hSw; (try dsimp only at hSw); go_simp; first | done | with_reducible rfl))) | (refine wpAnyH_take (i := 17) rfl (by kernel_rfl) (by kernel_rfl) (by kernel_rfl) (fun _ _ _ h => h) (Or.inr ⟨by rfl, rfl⟩) (by assumption) ?_) | fail
   try simp only [Act.put, List.getElem_toArray, List.getElem_cons_zero, List.getElem_cons_succ, List.setIfInBounds_toArray, List.set_cons_zero, List.set_cons_succ]
   refine wpAnyH_ready (rs := [18]) (by kernel_rfl) (by simp) (AllReadyH.cons rfl (fun K hK => ?_) AllReadyH.nil)
   (try go_simp)
   refine hK.out _ _ ?_ (fun hHeld => ?_)
   ·(try dsimp only)
    (first | assumption | exact ⟨xa, xb⟩ | exact K1.out | exact K2.out)
   clear hK K
   try simp only [Act.put, List.getElem_toArray, List.getElem_cons_zero, List.getElem_cons_succ, List.setIfInBounds_toArray, List.set_cons_zero, List.set_cons_succ]
   refine wpAnyH_done (by kernel_rfl) ?_ _
   go_wp2_with fail
   go_roundw
   case rel => exact ⟨3, 3, rfl, by unfold rOK at hok ⊢; omega, by omega, rfl, N1.out, X2.out, Rd1.out, B2.out⟩
   case measure => simp [intOf] <;> omega
  ·obtain rfl : c = 3 := by simpa using hc
   clear hc
   replace Sk : Blk wr w6.heap.size #[.int .u64 l0, .int .i64 l1, .int .i64 l2, .int .i64 l3, .int .i64 0, .int .i64 l9, .int .i64 l10, .int .i64 l11, .int .i64 0] 89 := Sk
   have xa := Xk.cell 4 _ rfl
   have xb := Xk.cell 12 _ rfl
   replace xa : wr.cell? ⟨w.heap.size, 4, none⟩ = some (.int .u64 l4) := xa
   replace xb : wr.cell? ⟨w.heap.size, 12, none⟩ = some (.int .u64 l12) := xb
   have ha := hl4
   have hb := hl12
   unfold U64s at ha hb
   by_cases ga : l4 ≤ 131071
   rotate_left
   focus
    have hno : ¬ okD l0 l1 l2 l3 l4 l5 l6 l8 l9 l10 l11 l12 l13 l14 := fun h => by
     have := rightB_root _ _ _ _ _ _ _ _ _ h.1
     omega
    rcases hV.out with ⟨h, _, _⟩ | ⟨_, rfl, rfl⟩
    ·exact absurd h hno
    clear hno hV
    have r0 := Rk.cell 0 _ rfl
    have r1 := Rk.cell 1 _ rfl
    have r2 := Rk.cell 2 _ rfl
    have r3 := Rk.cell 3 _ rfl
    have r4 := Rk.cell 4 _ rfl
    have r5 := Rk.cell 5 _ rfl
    have r6 := Rk.cell 6 _ rfl
    have r7 := Rk.cell 7 _ rfl
    have r8 := Rk.cell 8 _ rfl
    have f0 := Rk.frozen 0
    have f1 := Rk.frozen 1
    have f2 := Rk.frozen 2
    have f3 := Rk.frozen 3
    have f4 := Rk.frozen 4
    have f5 := Rk.frozen 5
    have f6 := Rk.frozen 6
    have f7 := Rk.frozen 7
    have f8 := Rk.frozen 8
    go_wp2_with fail
    exact bodyPost_ret (v := .tuple #[.agg #[.int .u64 0, .int .i64 0, .int .i64 0, .int .i64 0, .int .i64 0, .int .i64 0, .int .i64 0, .int .i64 0, .int .i64 0], .int .i64 26]) (by simp [results, go_sem, Try.results120, r0, r1, r2, r3, r4, r5, r6, r7, r8]) rfl ⟨rfl, (((((((((Bk).setCell (by simp) _).setCell (by simp) _).setCell (by simp) _).setCell (by simp) _).setCell (by simp) _).setCell (by simp) _).setCell (by simp) _).setCell (by simp) _).setCell (by simp) _⟩
   by_cases gb : l12 ≤ 131071
   rotate_left
   focus
    have hno : ¬ okD l0 l1 l2 l3 l4 l5 l6 l8 l9 l10 l11 l12 l13 l14 := fun h => by
     have := rightB_root _ _ _ _ _ _ _ _ _ h.1
     omega
    rcases hV.out with ⟨h, _, _⟩ | ⟨_, rfl, rfl⟩
    ·exact absurd h hno
    clear hno hV
    have r0 := Rk.cell 0 _ rfl
    have r1 := Rk.cell 1 _ rfl
    have r2 := Rk.cell 2 _ rfl
    have r3 := Rk.cell 3 _ rfl
    have r4 := Rk.cell 4 _ rfl
    have r5 := Rk.cell 5 _ rfl
    have r6 := Rk.cell 6 _ rfl
    have r7 := Rk.cell 7 _ rfl
    have r8 := Rk.cell 8 _ rfl
    have f0 := Rk.frozen 0
    have f1 := Rk.frozen 1
    have f2 := Rk.frozen 2
    have f3 := Rk.frozen 3
    have f4 := Rk.frozen 4
    have f5 := Rk.frozen 5
    have f6 := Rk.frozen 6
    have f7 := Rk.frozen 7
    have f8 := Rk.frozen 8
    go_wp2_with fail
    exact bodyPost_ret (v := .tuple #[.agg #[.int .u64 0, .int .i64 0, .int .i64 0, .int .i64 0, .int .i64 0, .int .i64 0, .int .i64 0, .int .i64 0, .int .i64 0], .int .i64 26]) (by simp [results, go_sem, Try.results120, r0, r1, r2, r3, r4, r5, r6, r7, r8]) rfl ⟨rfl, (((((((((Bk).setCell (by simp) _).setCell (by simp) _).setCell (by simp) _).setCell (by simp) _).setCell (by simp) _).setCell (by simp) _).setCell (by simp) _).setCell (by simp) _).setCell (by simp) _⟩
   have N1 := (Sk.drew.set 4 (.int .i64 l4)).set 8 (.int .i64 l12)
   replace N1 : Blk (World.setCell (World.setCell wr.drew ⟨w6.heap.size, 4, none⟩ (.int .i64 l4)) ⟨w6.heap.size, 8, none⟩ (.int .i64 l12)) w6.heap.size #[.int .u64 l0, .int .i64 l1, .int .i64 l2, .int .i64 l3, .int .i64 l4, .int .i64 l9, .int .i64 l10, .int .i64 l11, .int .i64 l12] 89 := N1
   replace N1 := Lib.hid N1
   have X1 := Xk.drew.other ⟨w6.heap.size, 4, none⟩ (.int .i64 l4) (by simp; omega)
   have X2 := X1.other ⟨w6.heap.size, 8, none⟩ (.int .i64 l12) (by simp; omega)
   have Rd1 := (Rk.drew.other ⟨w6.heap.size, 4, none⟩ (.int .i64 l4) (by simp; omega)).other ⟨w6.heap.size, 8, none⟩ (.int .i64 l12) (by simp; omega)
   have K1 : (World.setCell wr.drew ⟨w6.heap.size, 4, none⟩ (.int .i64 l4)).cell? ⟨w.heap.size, 4, none⟩ = some (.int .u64 l4) ∧ (World.setCell wr.drew ⟨w6.heap.size, 4, none⟩ (.int .i64 l4)).cell? ⟨w.heap.size, 12, none⟩ = some (.int .u64 l12) := ⟨X1.cell 4 _ rfl, X1.cell 12 _ rfl⟩
   have K2 : (World.setCell (World.setCell wr.drew ⟨w6.heap.size, 4, none⟩ (.int .i64 l4)) ⟨w6.heap.size, 8, none⟩ (.int .i64 l12)).cell? ⟨w.heap.size, 4, none⟩ = some (.int .u64 l4) ∧ (World.setCell (World.setCell wr.drew ⟨w6.heap.size, 4, none⟩ (.int .i64 l4)) ⟨w6.heap.size, 8, none⟩ (.int .i64 l12)).cell? ⟨w.heap.size, 12, none⟩ = some (.int .u64 l12) := ⟨X2.cell 4 _ rfl, X2.cell 12 _ rfl⟩
   have B2 := (Bk.drew.setCell (p := ⟨w6.heap.size, 4, none⟩) (by simp; omega) (.int .i64 l4)).setCell (p := ⟨w6.heap.size, 8, none⟩) (by simp; omega) (.int .i64 l12)
   have sf1 := Sk.frozen 4
   have sf2 := Sk.frozen 8
   have sc1 := Sk.cell 4 _ rfl
   have sc2 := Sk.cell 8 _ rfl
   have K1 := Lib.hid K1
   have K2 := Lib.hid K2
   have X2 := Lib.hid X2
   have Rd1 := Lib.hid Rd1
   have B2 := Lib.hid B2
   have ci : IntKind.i64.wrap l4 = l4 := by rw [IntKind.wrap_i64]; omega
   have cj : IntKind.i64.wrap l12 = l12 := by rw [IntKind.wrap_i64]; omega
   clear X1 hV
   have v1 : IntKind.i64.wrap 4 = 4 := by rfl
   have v9 : IntKind.i64.wrap 12 = 12 := by rfl
   have v4 : IntKind.i64.wrap 7 = 7 := by rfl
   go_wp2_with fail
   refine wp_region_held_drew (S := fun W => W.cell? ⟨w.heap.size, 4, none⟩ = some (.int .u64 l4) ∧ W.cell? ⟨w.heap.size, 12, none⟩ = some (.int .u64 l12)) (by kernel_rfl) ?_ (fun hHeld => ?_)
   ·(try dsimp only)
    (first | assumption | exact ⟨xa, xb⟩ | exact K1.out | exact K2.out)
   first | (refine wpAnyH_take (i := 0) (v := ?_) rfl (by kernel_rfl) (by kernel_rfl) (by kernel_rfl) (fun _ _ _ h => h) (Or.inl ⟨by rfl, ?_⟩) (by assumption) ?_; rotate_left; (focus (intro w hSw; (try dsimp only at hSw); go_simp; first | done | with_reducible rfl))) | (refine wpAnyH_take (i := 0) rfl (by kernel_rfl) (by kernel_rfl) (by kernel_rfl) (fun _ _ _ h => h) (Or.inr ⟨by rfl, rfl⟩) (by assumption) ?_) | fail
   try simp only [Act.put, List.getElem_toArray, List.getElem_cons_zero, List.getElem_cons_succ, List.setIfInBounds_toArray, List.set_cons_zero, List.set_cons_succ]
   first | (refine wpAnyH_take (i := 1) (v := ?_) rfl (by kernel_rfl) (by kernel_rfl) (by kernel_rfl) (fun _ _ _ h => h) (Or.inl ⟨by rfl, ?_⟩) (by assumption) ?_; rotate_left; (focus (intro w hSw; (try dsimp only at hSw); go_simp; first | done | with_reducible rfl))) | (refine wpAnyH_take (i := 1) rfl (by kernel_rfl) (by kernel_rfl) (by kernel_rfl) (fun _ _ _ h => h) (Or.inr ⟨by rfl, rfl⟩) (by assumption) ?_) | fail
   try simp only [Act.put, List.getElem_toArray, List.getElem_cons_zero, List.getElem_cons_succ, List.setIfInBounds_toArray, List.set_cons_zero, List.set_cons_succ]
   first | (refine wpAnyH_take (i := 2) (v := ?_) rfl (by kernel_rfl) (by kernel_rfl) (by kernel_rfl) (fun _ _ _ h => h) (Or.inl ⟨by rfl, ?_⟩) (by assumption) ?_; rotate_left; (focus (intro w hSw; (try dsimp only at hSw); go_simp; first | done | with_reducible rfl))) | (refine wpAnyH_take (i := 2) rfl (by kernel_rfl) (by kernel_rfl) (by kernel_rfl) (fun _ _ _ h => h) (Or.inr ⟨by rfl, rfl⟩) (by assumption) ?_) | fail
   try simp only [Act.put, List.getElem_toArray, List.getElem_cons_zero, List.getElem_cons_succ, List.setIfInBounds_toArray, List.set_cons_zero, List.set_cons_succ]
   first | (refine wpAnyH_take (i := 3) (v := ?_) rfl (by kernel_rfl) (by kernel_rfl) (by kernel_rfl) (fun _ _ _ h => h) (Or.inl ⟨by rfl, ?_⟩) (by assumption) ?_; rotate_left; (focus (intro w hSw; (try dsimp only at hSw); go_simp; first | done | with_reducible rfl))) | (refine wpAnyH_take (i := 3) rfl (by kernel_rfl) (by kernel_rfl) (by kernel_rfl) (fun _ _ _ h => h) (Or.inr ⟨by rfl, rfl⟩) (by assumption) ?_) | fail
   try simp only [Act.put, List.getElem_toArray, List.getElem_cons_zero, List.getElem_cons_succ, List.setIfInBounds_toArray, List.set_cons_zero, List.set_cons_succ]
   first | (refine wpAnyH_take (i := 4) (v := ?_) rfl (by kernel_rfl) (by kernel_rfl) (by kernel_rfl) (fun _ _ _ h => h) (Or.inl ⟨by rfl, ?_⟩) (by assumption) ?_; rotate_left; (focus (intro w hSw; (try dsimp only at hSw); go_simp; first | done | with_reducible rfl))) | (refine wpAnyH_take (i := 4) rfl (by kernel_rfl) (by kernel_rfl) (by kernel_rfl) (fun _ _ _ h => h) (Or.inr ⟨by rfl, rfl⟩) (by assumption) ?_) | fail
   try simp only [Act.put, List.getElem_toArray, List.getElem_cons_zero, List.getElem_cons_succ, List.setIfInBounds_toArray, List.set_cons_zero, List.set_cons_succ]
   first | (refine wpAnyH_take (i := 5) (v := ?_) rfl (by kernel_rfl) (by kernel_rfl) (by kernel_rfl) (fun _ _ _ h => h) (Or.inl ⟨by rfl, ?_⟩) (by assumption) ?_; rotate_left; (focus (intro w hSw; (try dsimp only at hSw); go_simp; first | done | with_reducible rfl))) | (refine wpAnyH_take (i := 5) rfl (by kernel_rfl) (by kernel_rfl) (by kernel_rfl) (fun _ _ _ h => h) (Or.inr ⟨by rfl, rfl⟩) (by assumption) ?_) | fail
   try simp only [Act.put, List.getElem_toArray, List.getElem_cons_zero, List.getElem_cons_succ, List.setIfInBounds_toArray, List.set_cons_zero, List.set_cons_succ]
   first | (refine wpAnyH_take (i := 6) (v := ?_) rfl (by kernel_rfl) (by kernel_rfl) (by kernel_rfl) (fun _ _ _ h => h) (Or.inl ⟨by rfl, ?_⟩) (by assumption) ?_; rotate_left; (focus (intro w hSw; (try dsimp only at hSw); go_simp; first | done | with_reducible rfl))) | (refine wpAnyH_take (i := 6) rfl (by kernel_rfl) (by kernel_rfl) (by kernel_rfl) (fun _ _ _ h => h) (Or.inr ⟨by rfl, rfl⟩) (by assumption) ?_) | fail
   try simp only [Act.put, List.getElem_toArray, List.getElem_cons_zero, List.getElem_cons_succ, List.setIfInBounds_toArray, List.set_cons_zero, List.set_cons_succ]
   first | (refine wpAnyH_take (i := 7) (v := ?_) rfl (by kernel_rfl) (by kernel_rfl) (by kernel_rfl) (fun _ _ _ h => h) (Or.inl ⟨by rfl, ?_⟩) (by assumption) ?_; rotate_left; (focus (intro w hSw; (try dsimp only at hSw); go_simp; first | done | with_reducible rfl))) | (refine wpAnyH_take (i := 7) rfl (by kernel_rfl) (by kernel_rfl) (by kernel_rfl) (fun _ _ _ h => h) (Or.inr ⟨by rfl, rfl⟩) (by assumption) ?_) | fail
   try simp only [Act.put, List.getElem_toArray, List.getElem_cons_zero, List.getElem_cons_succ, List.setIfInBounds_toArray, List.set_cons_zero, List.set_cons_succ]
   first | (refine wpAnyH_take (i := 8) (v := ?_) rfl (by kernel_rfl) (by kernel_rfl) (by kernel_rfl) (fun _ _ _ h => h) (Or.inl ⟨by rfl, ?_⟩) (by assumption) ?_; rotate_left; (focus (intro w hSw; (try dsimp only at hSw); go_simp; first | done | with_reducible rfl))) | (refine wpAnyH_take (i := 8) rfl (by kernel_rfl) (by kernel_rfl) (by kernel_rfl) (fun _ _ _ h => h) (Or.inr ⟨by rfl, rfl⟩) (by assumption) ?_) | fail
   try simp only [Act.put, List.getElem_toArray, List.getElem_cons_zero, List.getElem_cons_succ, List.setIfInBounds_toArray, List.set_cons_zero, List.set_cons_succ]
   first | (refine wpAnyH_take (i := 9) (v := ?_) rfl (by kernel_rfl) (by kernel_rfl) (by kernel_rfl) (fun _ _ _ h => h) (Or.inl ⟨by rfl, ?_⟩) (by assumption) ?_; rotate_left; (focus (intro w hSw; (try dsimp only at hSw); go_simp; first | done | with_reducible rfl))) | (refine wpAnyH_take (i := 9) rfl (by kernel_rfl) (by kernel_rfl) (by kernel_rfl) (fun _ _ _ h => h) (Or.inr ⟨by rfl, rfl⟩) (by assumption) ?_) | fail
   try simp only [Act.put, List.getElem_toArray, List.getElem_cons_zero, List.getElem_cons_succ, List.setIfInBounds_toArray, List.set_cons_zero, List.set_cons_succ]
   first | (refine wpAnyH_take (i := 10) (v := ?_) rfl (by kernel_rfl) (by kernel_rfl) (by kernel_rfl) (fun _ _ _ h => h) (Or.inl ⟨by rfl, ?_⟩) (by assumption) ?_; rotate_left; (focus (intro w hSw; (try dsimp only at hSw); go_simp; first | done | with_reducible rfl))) | (refine wpAnyH_take (i := 10) rfl (by kernel_rfl) (by kernel_rfl) (by kernel_rfl) (fun _ _ _ h => h) (Or.inr ⟨by rfl, rfl⟩) (by assumption) ?_) | fail
   try simp only [Act.put, List.getElem_toArray, List.getElem_cons_zero, List.getElem_cons_succ, List.setIfInBounds_toArray, List.set_cons_zero, List.set_cons_succ]
   first | (refine wpAnyH_take (i := 11) (v := ?_) rfl (by kernel_rfl) (by kernel_rfl) (by kernel_rfl) (fun _ _ _ h => h) (Or.inl ⟨by rfl, ?_⟩) (by assumption) ?_; rotate_left; (focus (intro w hSw; (try dsimp only at hSw); go_simp; first | done | with_reducible rfl))) | (refine wpAnyH_take (i := 11) rfl (by kernel_rfl) (by kernel_rfl) (by kernel_rfl) (fun _ _ _ h => h) (Or.inr ⟨by rfl, rfl⟩) (by assumption) ?_) | fail
   try simp only [Act.put, List.getElem_toArray, List.getElem_cons_zero, List.getElem_cons_succ, List.setIfInBounds_toArray, List.set_cons_zero, List.set_cons_succ]
   first | (refine wpAnyH_take (i := 12) (v := ?_) rfl (by kernel_rfl) (by kernel_rfl) (by kernel_rfl) (fun _ _ _ h => h) (Or.inl ⟨by rfl, ?_⟩) (by assumption) ?_; rotate_left; (focus (intro w hSw; (try dsimp only at hSw); go_simp; first | done | with_reducible rfl))) | (refine wpAnyH_take (i := 12) rfl (by kernel_rfl) (by kernel_rfl) (by kernel_rfl) (fun _ _ _ h => h) (Or.inr ⟨by rfl, rfl⟩) (by assumption) ?_) | fail
   try simp only [Act.put, List.getElem_toArray, List.getElem_cons_zero, List.getElem_cons_succ, List.setIfInBounds_toArray, List.set_cons_zero, List.set_cons_succ]
   first | (refine wpAnyH_take (i := 13) (v := ?_) rfl (by kernel_rfl) (by kernel_rfl) (by kernel_rfl) (fun _ _ _ h => h) (Or.inl ⟨by rfl, ?_⟩) (by assumption) ?_; rotate_left; (focus (intro w hSw; (try dsimp only at hSw); go_simp; first | done | with_reducible rfl))) | (refine wpAnyH_take (i := 13) rfl (by kernel_rfl) (by kernel_rfl) (by kernel_rfl) (fun _ _ _ h => h) (Or.inr ⟨by rfl, rfl⟩) (by assumption) ?_) | fail
   try simp only [Act.put, List.getElem_toArray, List.getElem_cons_zero, List.getElem_cons_succ, List.setIfInBounds_toArray, List.set_cons_zero, List.set_cons_succ]
   first | (refine wpAnyH_take (i := 14) (v := ?_) rfl (by kernel_rfl) (by kernel_rfl) (by kernel_rfl) (fun _ _ _ h => h) (Or.inl ⟨by rfl, ?_⟩) (by assumption) ?_; rotate_left; (focus (intro w hSw; (try dsimp only at hSw); go_simp; first | done | with_reducible rfl))) | (refine wpAnyH_take (i := 14) rfl (by kernel_rfl) (by kernel_rfl) (by kernel_rfl) (fun _ _ _ h => h) (Or.inr ⟨by rfl, rfl⟩) (by assumption) ?_) | fail
   try simp only [Act.put, List.getElem_toArray, List.getElem_cons_zero, List.getElem_cons_succ, List.setIfInBounds_toArray, List.set_cons_zero, List.set_cons_succ]
   first | (refine wpAnyH_take (i := 16) (v := ?_) rfl (by kernel_rfl) (by kernel_rfl) (by kernel_rfl) (fun _ _ _ h => h) (Or.inl ⟨by rfl, ?_⟩) (by assumption) ?_; rotate_left; (focus (intro w hSw; (try dsimp only at hSw); go_simp; first | done | with_reducible rfl))) | (refine wpAnyH_take (i := 16) rfl (by kernel_rfl) (by kernel_rfl) (by kernel_rfl) (fun _ _ _ h => h) (Or.inr ⟨by rfl, rfl⟩) (by assumption) ?_) | fail
   try simp only [Act.put, List.getElem_toArray, List.getElem_cons_zero, List.getElem_cons_succ, List.setIfInBounds_toArray, List.set_cons_zero, List.set_cons_succ]
   refine wpAnyH_ready (rs := [15]) (by kernel_rfl) (by simp) (AllReadyH.cons rfl (fun K hK => ?_) AllReadyH.nil)
   (try go_simp)
   refine hK.out _ _ ?_ (fun hHeld => ?_)
   ·(try dsimp only)
    (first | assumption | exact ⟨xa, xb⟩ | exact K1.out | exact K2.out)
   clear hK K
   try simp only [Act.put, List.getElem_toArray, List.getElem_cons_zero, List.getElem_cons_succ, List.setIfInBounds_toArray, List.set_cons_zero, List.set_cons_succ]
   first | (refine wpAnyH_take (i := 17) (v := ?_) rfl (by kernel_rfl) (by kernel_rfl) (by kernel_rfl) (fun _ _ _ h => h) (Or.inl ⟨by rfl, ?_⟩) (by assumption) ?_; rotate_left; (focus (intro w hSw; (try dsimp only at hSw); go_simp; first | done | with_reducible rfl))) | (refine wpAnyH_take (i := 17) rfl (by kernel_rfl) (by kernel_rfl) (by kernel_rfl) (fun _ _ _ h => h) (Or.inr ⟨by rfl, rfl⟩) (by assumption) ?_) | fail
   try simp only [Act.put, List.getElem_toArray, List.getElem_cons_zero, List.getElem_cons_succ, List.setIfInBounds_toArray, List.set_cons_zero, List.set_cons_succ]
   refine wpAnyH_ready (rs := [18]) (by kernel_rfl) (by simp) (AllReadyH.cons rfl (fun K hK => ?_) AllReadyH.nil)
   (try go_simp)
   refine hK.out _ _ ?_ (fun hHeld => ?_)
   ·(try dsimp only)
    (first | assumption | exact ⟨xa, xb⟩ | exact K1.out | exact K2.out)
   clear hK K
   try simp only [Act.put, List.getElem_toArray, List.getElem_cons_zero, List.getElem_cons_succ, List.setIfInBounds_toArray, List.set_cons_zero, List.set_cons_succ]
   refine wpAnyH_done (by kernel_rfl) ?_ _
   go_wp2_with fail
   go_roundw
   case rel => exact ⟨4, 4, rfl, by unfold rOK at hok ⊢; omega, by omega, rfl, N1.out, X2.out, Rd1.out, B2.out⟩
   case measure => simp [intOf] <;> omega
  ·obtain rfl : c = 4 := by simpa using hc
   clear hc
   replace Sk : Blk wr w6.heap.size #[.int .u64 l0, .int .i64 l1, .int .i64 l2, .int .i64 l3, .int .i64 l4, .int .i64 l9, .int .i64 l10, .int .i64 l11, .int .i64 l12] 89 := Sk
   have S8 := Sk
   clear Sk
   have hl1_ := hl1
   have hl2_ := hl2
   have hl3_ := hl3
   have hl4_ := hl4
   have hl9_ := hl9
   have hl10_ := hl10
   have hl11_ := hl11
   have hl12_ := hl12
   unfold U64s at hl1_ hl2_ hl3_ hl4_ hl9_ hl10_ hl11_ hl12_
   unfold rOK at hok
   have gl1 : l1 ≤ 131071 := by omega
   have gl2 : l2 ≤ 131071 := by omega
   have gl3 : l3 ≤ 131071 := by omega
   have gl4 : l4 ≤ 131071 := by omega
   have gl9 : l9 ≤ 131071 := by omega
   have gl10 : l10 ≤ 131071 := by omega
   have gl11 : l11 ≤ 131071 := by omega
   have gl12 : l12 ≤ 131071 := by omega
   clear hok
   have hcapI : ∀ r ∈ [l1, l2, l3, l4, l9, l10, l11, l12], I64 r := by
    intro r hr
    simp only [List.mem_cons, List.not_mem_nil, or_false] at hr
    unfold I64
    rcases hr with rfl | rfl | rfl | rfl | rfl | rfl | rfl | rfl <;> omega
   replace hcapI := Lib.hid hcapI
   cases hrb : St.rightB l0 [l1, l2, l3, l4, l9, l10, l11, l12] with
   | false =>
    have hno : ¬ okD l0 l1 l2 l3 l4 l5 l6 l8 l9 l10 l11 l12 l13 l14 := by
     rintro ⟨h, _⟩
     rw [h] at hrb
     cases hrb
    rcases hV.out with ⟨h, _, _⟩ | ⟨_, rfl, rfl⟩
    ·exact absurd h hno
    clear hno hV
    have s25' := s25 S8 Xk (Below.refl _ _).drew
    go_wp2_with fail
    refine wp_region_held_drew (S := fun W => W.cell? ⟨w6.heap.size, 0, none⟩ = some (.int .u64 l0) ∧ W.cell? ⟨w6.heap.size, 1, none⟩ = some (.int .i64 l1) ∧ W.cell? ⟨w6.heap.size, 2, none⟩ = some (.int .i64 l2) ∧ W.cell? ⟨w6.heap.size, 3, none⟩ = some (.int .i64 l3) ∧ W.cell? ⟨w6.heap.size, 4, none⟩ = some (.int .i64 l4) ∧ W.cell? ⟨w6.heap.size, 5, none⟩ = some (.int .i64 l9) ∧ W.cell? ⟨w6.heap.size, 6, none⟩ = some (.int .i64 l10) ∧ W.cell? ⟨w6.heap.size, 7, none⟩ = some (.int .i64 l11) ∧ W.cell? ⟨w6.heap.size, 8, none⟩ = some (.int .i64 l12) ∧ W.cell? ⟨w.heap.size, 0, none⟩ = some (.int .u64 l0) ∧ W.cell? ⟨w.heap.size, 1, none⟩ = some (.int .u64 l1) ∧ W.cell? ⟨w.heap.size, 2, none⟩ = some (.int .u64 l2) ∧ W.cell? ⟨w.heap.size, 3, none⟩ = some (.int .u64 l3) ∧ W.cell? ⟨w.heap.size, 4, none⟩ = some (.int .u64 l4) ∧ W.cell? ⟨w.heap.size, 5, none⟩ = some (.int .u64 l5) ∧ W.cell? ⟨w.heap.size, 6, none⟩ = some (.int .u64 l6) ∧ W.cell? ⟨w.heap.size, 7, none⟩ = some (.int .u64 (St.sum7 l0 l1 l2 l3 l4 l5 l6)) ∧ W.cell? ⟨w.heap.size, 8, none⟩ = some (.int .u64 l8) ∧ W.cell? ⟨w.heap.size, 9, none⟩ = some (.int .u64 l9) ∧ W.cell? ⟨w.heap.size, 10, none⟩ = some (.int .u64 l10) ∧ W.cell? ⟨w.heap.size, 11, none⟩ = some (.int .u64 l11) ∧ W.cell? ⟨w.heap.size, 12, none⟩ = some (.int .u64 l12) ∧ W.cell? ⟨w.heap.size, 13, none⟩ = some (.int .u64 l13) ∧ W.cell? ⟨w.heap.size, 14, none⟩ = some (.int .u64 l14) ∧ W.cell? ⟨w.heap.size, 15, none⟩ = some (.int .u64 (St.sum7 l8 l9 l10 l11 l12 l13 l14)) ∧ Below wr.heap.size wr W) (by kernel_rfl) ?_ (fun hHeld => ?_)
    ·(try dsimp only)
     (first | assumption | exact s25')
    first | (refine wpAnyH_take (i := 0) (v := ?_) rfl (by kernel_rfl) (by kernel_rfl) (by kernel_rfl) (fun _ _ _ h => h) (Or.inl ⟨by rfl, ?_⟩) (by assumption) ?_; rotate_left; (focus (intro w hSw; (try dsimp only at hSw); go_simp; first | done | with_reducible rfl))) | (refine wpAnyH_take (i := 0) rfl (by kernel_rfl) (by kernel_rfl) (by kernel_rfl) (fun _ _ _ h => h) (Or.inr ⟨by rfl, rfl⟩) (by assumption) ?_) | fail
    try simp only [Act.put, List.getElem_toArray, List.getElem_cons_zero, List.getElem_cons_succ, List.setIfInBounds_toArray, List.set_cons_zero, List.set_cons_succ]
    refine wpAnyH_ready (rs := [1]) (by kernel_rfl) (by simp) (AllReadyH.cons rfl (fun K hK => ?_) AllReadyH.nil)
    (try go_simp)
    have hS := (by assumption : _ ∧ _ ∧ _ ∧ _ ∧ _ ∧ _ ∧ _ ∧ _ ∧ _ ∧ _ ∧ _ ∧ _ ∧ _ ∧ _ ∧ _ ∧ _ ∧ _ ∧ _ ∧ _ ∧ _ ∧ _ ∧ _ ∧ _ ∧ _ ∧ _ ∧ Below _ _ _).2.2.2.2.2.2.2.2.2.2.2.2.2.2.2.2.2.2.2.2.2.2.2.2.2
    refine (rslRight_any _ _ _ _ _ _ _ _ _ _ hl0 hcapI.out).mono ?_
    rintro e w7 ⟨rfl, hb7⟩
    have hb7' := hS.trans (hb7.mono hS.size)
    have hS' := s25 S8 Xk hb7'
    clear hb7 hS
    refine hK.out _ _ ?_ (fun hHeld => ?_)
    ·(try dsimp only)
     (first | assumption | exact s25')
    clear hK K
    try simp only [Act.put, List.getElem_toArray, List.getElem_cons_zero, List.getElem_cons_succ, List.setIfInBounds_toArray, List.set_cons_zero, List.set_cons_succ]
    first | (refine wpAnyH_take (i := 2) (v := ?_) rfl (by kernel_rfl) (by kernel_rfl) (by kernel_rfl) (fun _ _ _ h => h) (Or.inl ⟨by rfl, ?_⟩) (by assumption) ?_; rotate_left; (focus (intro w hSw; (try dsimp only at hSw); go_simp; first | done | with_reducible rfl))) | (refine wpAnyH_take (i := 2) rfl (by kernel_rfl) (by kernel_rfl) (by kernel_rfl) (fun _ _ _ h => h) (Or.inr ⟨by rfl, rfl⟩) (by assumption) ?_) | fail
    try simp only [Act.put, List.getElem_toArray, List.getElem_cons_zero, List.getElem_cons_succ, List.setIfInBounds_toArray, List.set_cons_zero, List.set_cons_succ]
    first | (refine wpAnyH_take (i := 3) (v := ?_) rfl (by kernel_rfl) (by kernel_rfl) (by kernel_rfl) (fun _ _ _ h => h) (Or.inl ⟨by rfl, ?_⟩) (by assumption) ?_; rotate_left; (focus (intro w hSw; (try dsimp only at hSw); go_simp; first | done | with_reducible rfl))) | (refine wpAnyH_take (i := 3) rfl (by kernel_rfl) (by kernel_rfl) (by kernel_rfl) (fun _ _ _ h => h) (Or.inr ⟨by rfl, rfl⟩) (by assumption) ?_) | fail
    try simp only [Act.put, List.getElem_toArray, List.getElem_cons_zero, List.getElem_cons_succ, List.setIfInBounds_toArray, List.set_cons_zero, List.set_cons_succ]
    first | (refine wpAnyH_take (i := 4) rfl (by kernel_rfl) (by kernel_rfl) (by kernel_rfl) (fun _ _ _ h => h) (Or.inr ⟨by rfl, rfl⟩) (by assumption) ?_) | (refine wpAnyH_take (i := 4) (v := ?_) rfl (by kernel_rfl) (by kernel_rfl) (by kernel_rfl) (fun _ _ _ h => h) (Or.inl ⟨by rfl, ?_⟩) (by assumption) ?_; rotate_left; (focus (intro w hSw; (try dsimp only at hSw); go_simp; first | done | with_reducible rfl))) | fail
    try simp only [Act.put, List.getElem_toArray, List.getElem_cons_zero, List.getElem_cons_succ, List.setIfInBounds_toArray, List.set_cons_zero, List.set_cons_succ]
    first | (refine wpAnyH_take (i := 5) rfl (by kernel_rfl) (by kernel_rfl) (by kernel_rfl) (fun _ _ _ h => h) (Or.inr ⟨by rfl, rfl⟩) (by assumption) ?_) | (refine wpAnyH_take (i := 5) (v := ?_) rfl (by kernel_rfl) (by kernel_rfl) (by kernel_rfl) (fun _ _ _ h => h) (Or.inl ⟨by rfl, ?_⟩) (by assumption) ?_; rotate_left; (focus (intro w hSw; (try dsimp only at hSw); go_simp; first | done | with_reducible rfl))) | fail
    try simp only [Act.put, List.getElem_toArray, List.getElem_cons_zero, List.getElem_cons_succ, List.setIfInBounds_toArray, List.set_cons_zero, List.set_cons_succ]
    first | (refine wpAnyH_take (i := 6) rfl (by kernel_rfl) (by kernel_rfl) (by kernel_rfl) (fun _ _ _ h => h) (Or.inr ⟨by rfl, rfl⟩) (by assumption) ?_) | (refine wpAnyH_take (i := 6) (v := ?_) rfl (by kernel_rfl) (by kernel_rfl) (by kernel_rfl) (fun _ _ _ h => h) (Or.inl ⟨by rfl, ?_⟩) (by assumption) ?_; rotate_left; (focus (intro w hSw; (try dsimp only at hSw); go_simp; first | done | with_reducible rfl))) | fail
    try simp only [Act.put, List.getElem_toArray, List.getElem_cons_zero, List.getElem_cons_succ, List.setIfInBounds_toArray, List.set_cons_zero, List.set_cons_succ]
    first | (refine wpAnyH_take (i := 7) rfl (by kernel_rfl) (by kernel_rfl) (by kernel_rfl) (fun _ _ _ h => h) (Or.inr ⟨by rfl, rfl⟩) (by assumption) ?_) | (refine wpAnyH_take (i := 7) (v := ?_) rfl (by kernel_rfl) (by kernel_rfl) (by kernel_rfl) (fun _ _ _ h => h) (Or.inl ⟨by rfl, ?_⟩) (by assumption) ?_; rotate_left; (focus (intro w hSw; (try dsimp only at hSw); go_simp; first | done | with_reducible rfl))) | fail
    try simp only [Act.put, List.getElem_toArray, List.getElem_cons_zero, List.getElem_cons_succ, List.setIfInBounds_toArray, List.set_cons_zero, List.set_cons_succ]
    first | (refine wpAnyH_take (i := 8) (v := ?_) rfl (by kernel_rfl) (by kernel_rfl) (by kernel_rfl) (fun _ _ _ h => h) (Or.inl ⟨by rfl, ?_⟩) (by assumption) ?_; rotate_left; (focus (intro w hSw; (try dsimp only at hSw); go_simp; first | done | with_reducible rfl))) | (refine wpAnyH_take (i := 8) rfl (by kernel_rfl) (by kernel_rfl) (by kernel_rfl) (fun _ _ _ h => h) (Or.inr ⟨by rfl, rfl⟩) (by assumption) ?_) | fail
    try simp only [Act.put, List.getElem_toArray, List.getElem_cons_zero, List.getElem_cons_succ, List.setIfInBounds_toArray, List.set_cons_zero, List.set_cons_succ]
    refine wpAnyH_done (by kernel_rfl) ?_ _
    have hbE := (by assumption : _ ∧ _ ∧ _ ∧ _ ∧ _ ∧ _ ∧ _ ∧ _ ∧ _ ∧ _ ∧ _ ∧ _ ∧ _ ∧ _ ∧ _ ∧ _ ∧ _ ∧ _ ∧ _ ∧ _ ∧ _ ∧ _ ∧ _ ∧ _ ∧ _ ∧ Below _ _ _).2.2.2.2.2.2.2.2.2.2.2.2.2.2.2.2.2.2.2.2.2.2.2.2.2
    have RE := Rk.below hbE Rk.lt
    have SE := S8.below hbE S8.lt
    have BE := Bk.trans (hbE.mono Bk.size)
    have r0 := RE.cell 0 _ rfl
    have r1 := RE.cell 1 _ rfl
    have r2 := RE.cell 2 _ rfl
    have r3 := RE.cell 3 _ rfl
    have r4 := RE.cell 4 _ rfl
    have r5 := RE.cell 5 _ rfl
    have r6 := RE.cell 6 _ rfl
    have r7 := RE.cell 7 _ rfl
    have r8 := RE.cell 8 _ rfl
    have f0 := RE.frozen 0
    have f1 := RE.frozen 1
    have f2 := RE.frozen 2
    have f3 := RE.frozen 3
    have f4 := RE.frozen 4
    have f5 := RE.frozen 5
    have f6 := RE.frozen 6
    have f7 := RE.frozen 7
    have f8 := RE.frozen 8
    go_wp2_with fail
    exact bodyPost_ret (v := .tuple #[.agg #[.int .u64 0, .int .i64 0, .int .i64 0, .int .i64 0, .int .i64 0, .int .i64 0, .int .i64 0, .int .i64 0, .int .i64 0], .int .i64 26]) (by simp [results, go_sem, Try.results120, r0, r1, r2, r3, r4, r5, r6, r7, r8]) rfl ⟨rfl, (((((((((BE).setCell (by simp) _).setCell (by simp) _).setCell (by simp) _).setCell (by simp) _).setCell (by simp) _).setCell (by simp) _).setCell (by simp) _).setCell (by simp) _).setCell (by simp) _⟩
   | true =>
    have hE0 : 0 < l0 := by
     unfold St.rightB at hrb
     simp only [decide_eq_true_eq] at hrb
     exact hrb.2
    have HRB := Lib.hid hrb
    cases hec : eqB [l0, l1, l2, l3, l4, 0, 0, (St.sum0 l0 l1 l2 l3 l4), l0, l9, l10, l11, l12, 1, 0, (St.sum1 l0 l9 l10 l11 l12)] [l0, l1, l2, l3, l4, l5, l6, (St.sum7 l0 l1 l2 l3 l4 l5 l6), l8, l9, l10, l11, l12, l13, l14, (St.sum7 l8 l9 l10 l11 l12 l13 l14)] with
    | false =>
     have hno : ¬ okD l0 l1 l2 l3 l4 l5 l6 l8 l9 l10 l11 l12 l13 l14 := by
      rintro ⟨_, rfl, rfl, rfl, rfl, rfl⟩
      have := eqB_yes [l8, l1, l2, l3, l4, 0, 0, (St.sum0 l8 l1 l2 l3 l4), l8, l9, l10, l11, l12, 1, 0, (St.sum1 l8 l9 l10 l11 l12)] [l8, l1, l2, l3, l4, 0, 0, (St.sum7 l8 l1 l2 l3 l4 0 0), l8, l9, l10, l11, l12, 1, 0, (St.sum7 l8 l9 l10 l11 l12 1 0)] rfl
      rw [this] at hec
      cases hec
     rcases hV.out with ⟨h, _, _⟩ | ⟨_, rfl, rfl⟩
     ·exact absurd h hno
     clear hno hV
     have heq := line16_eq [l0, l1, l2, l3, l4, 0, 0, (St.sum0 l0 l1 l2 l3 l4), l0, l9, l10, l11, l12, 1, 0, (St.sum1 l0 l9 l10 l11 l12)] [l0, l1, l2, l3, l4, l5, l6, (St.sum7 l0 l1 l2 l3 l4 l5 l6), l8, l9, l10, l11, l12, l13, l14, (St.sum7 l8 l9 l10 l11 l12 l13 l14)] rfl rfl
     rw [hec] at heq
     simp only [List.map_cons, List.map_nil] at heq
     clear hec
     have s25' := s25 S8 Xk (Below.refl _ _).drew
     go_wp2_with fail
     refine wp_region_held_drew (S := fun W => W.cell? ⟨w6.heap.size, 0, none⟩ = some (.int .u64 l0) ∧ W.cell? ⟨w6.heap.size, 1, none⟩ = some (.int .i64 l1) ∧ W.cell? ⟨w6.heap.size, 2, none⟩ = some (.int .i64 l2) ∧ W.cell? ⟨w6.heap.size, 3, none⟩ = some (.int .i64 l3) ∧ W.cell? ⟨w6.heap.size, 4, none⟩ = some (.int .i64 l4) ∧ W.cell? ⟨w6.heap.size, 5, none⟩ = some (.int .i64 l9) ∧ W.cell? ⟨w6.heap.size, 6, none⟩ = some (.int .i64 l10) ∧ W.cell? ⟨w6.heap.size, 7, none⟩ = some (.int .i64 l11) ∧ W.cell? ⟨w6.heap.size, 8, none⟩ = some (.int .i64 l12) ∧ W.cell? ⟨w.heap.size, 0, none⟩ = some (.int .u64 l0) ∧ W.cell? ⟨w.heap.size, 1, none⟩ = some (.int .u64 l1) ∧ W.cell? ⟨w.heap.size, 2, none⟩ = some (.int .u64 l2) ∧ W.cell? ⟨w.heap.size, 3, none⟩ = some (.int .u64 l3) ∧ W.cell? ⟨w.heap.size, 4, none⟩ = some (.int .u64 l4) ∧ W.cell? ⟨w.heap.size, 5, none⟩ = some (.int .u64 l5) ∧ W.cell? ⟨w.heap.size, 6, none⟩ = some (.int .u64 l6) ∧ W.cell? ⟨w.heap.size, 7, none⟩ = some (.int .u64 (St.sum7 l0 l1 l2 l3 l4 l5 l6)) ∧ W.cell? ⟨w.heap.size, 8, none⟩ = some (.int .u64 l8) ∧ W.cell? ⟨w.heap.size, 9, none⟩ = some (.int .u64 l9) ∧ W.cell? ⟨w.heap.size, 10, none⟩ = some (.int .u64 l10) ∧ W.cell? ⟨w.heap.size, 11, none⟩ = some (.int .u64 l11) ∧ W.cell? ⟨w.heap.size, 12, none⟩ = some (.int .u64 l12) ∧ W.cell? ⟨w.heap.size, 13, none⟩ = some (.int .u64 l13) ∧ W.cell? ⟨w.heap.size, 14, none⟩ = some (.int .u64 l14) ∧ W.cell? ⟨w.heap.size, 15, none⟩ = some (.int .u64 (St.sum7 l8 l9 l10 l11 l12 l13 l14)) ∧ Below wr.heap.size wr W) (by kernel_rfl) ?_ (fun hHeld => ?_)
     ·(try dsimp only)
      (first | assumption | exact s25')
     first | (refine wpAnyH_take (i := 0) (v := ?_) rfl (by kernel_rfl) (by kernel_rfl) (by kernel_rfl) (fun _ _ _ h => h) (Or.inl ⟨by rfl, ?_⟩) (by assumption) ?_; rotate_left; (focus (intro w hSw; (try dsimp only at hSw); go_simp; first | done | with_reducible rfl))) | (refine wpAnyH_take (i := 0) rfl (by kernel_rfl) (by kernel_rfl) (by kernel_rfl) (fun _ _ _ h => h) (Or.inr ⟨by rfl, rfl⟩) (by assumption) ?_) | fail
     try simp only [Act.put, List.getElem_toArray, List.getElem_cons_zero, List.getElem_cons_succ, List.setIfInBounds_toArray, List.set_cons_zero, List.set_cons_succ]
     refine wpAnyH_ready (rs := [1]) (by kernel_rfl) (by simp) (AllReadyH.cons rfl (fun K hK => ?_) AllReadyH.nil)
     (try go_simp)
     have hS := (by assumption : _ ∧ _ ∧ _ ∧ _ ∧ _ ∧ _ ∧ _ ∧ _ ∧ _ ∧ _ ∧ _ ∧ _ ∧ _ ∧ _ ∧ _ ∧ _ ∧ _ ∧ _ ∧ _ ∧ _ ∧ _ ∧ _ ∧ _ ∧ _ ∧ _ ∧ Below _ _ _).2.2.2.2.2.2.2.2.2.2.2.2.2.2.2.2.2.2.2.2.2.2.2.2.2
     refine (rslRight_any _ _ _ _ _ _ _ _ _ _ hl0 hcapI.out).mono ?_
     rintro e w7 ⟨rfl, hb7⟩
     have hb7' := hS.trans (hb7.mono hS.size)
     have hS' := s25 S8 Xk hb7'
     clear hb7 hS
     refine hK.out _ _ ?_ (fun hHeld => ?_)
     ·(try dsimp only)
      (first | assumption | exact s25')
     clear hK K
     try simp only [Act.put, List.getElem_toArray, List.getElem_cons_zero, List.getElem_cons_succ, List.setIfInBounds_toArray, List.set_cons_zero, List.set_cons_succ]
     first | (refine wpAnyH_take (i := 2) (v := ?_) rfl (by kernel_rfl) (by kernel_rfl) (by kernel_rfl) (fun _ _ _ h => h) (Or.inl ⟨by rfl, ?_⟩) (by assumption) ?_; rotate_left; (focus (intro w hSw; (try dsimp only at hSw); go_simp; first | done | with_reducible rfl))) | (refine wpAnyH_take (i := 2) rfl (by kernel_rfl) (by kernel_rfl) (by kernel_rfl) (fun _ _ _ h => h) (Or.inr ⟨by rfl, rfl⟩) (by assumption) ?_) | fail
     try simp only [Act.put, List.getElem_toArray, List.getElem_cons_zero, List.getElem_cons_succ, List.setIfInBounds_toArray, List.set_cons_zero, List.set_cons_succ]
     first | (refine wpAnyH_take (i := 3) (v := ?_) rfl (by kernel_rfl) (by kernel_rfl) (by kernel_rfl) (fun _ _ _ h => h) (Or.inl ⟨by rfl, ?_⟩) (by assumption) ?_; rotate_left; (focus (intro w hSw; (try dsimp only at hSw); go_simp; first | done | with_reducible rfl))) | (refine wpAnyH_take (i := 3) rfl (by kernel_rfl) (by kernel_rfl) (by kernel_rfl) (fun _ _ _ h => h) (Or.inr ⟨by rfl, rfl⟩) (by assumption) ?_) | fail
     try simp only [Act.put, List.getElem_toArray, List.getElem_cons_zero, List.getElem_cons_succ, List.setIfInBounds_toArray, List.set_cons_zero, List.set_cons_succ]
     first | (refine wpAnyH_take (i := 4) (v := ?_) rfl (by kernel_rfl) (by kernel_rfl) (by kernel_rfl) (fun _ _ _ h => h) (Or.inl ⟨by rfl, ?_⟩) (by assumption) ?_; rotate_left; (focus (intro w hSw; (try dsimp only at hSw); go_simp; first | done | with_reducible rfl))) | (refine wpAnyH_take (i := 4) rfl (by kernel_rfl) (by kernel_rfl) (by kernel_rfl) (fun _ _ _ h => h) (Or.inr ⟨by rfl, rfl⟩) (by assumption) ?_) | fail
     try simp only [Act.put, List.getElem_toArray, List.getElem_cons_zero, List.getElem_cons_succ, List.setIfInBounds_toArray, List.set_cons_zero, List.set_cons_succ]
     first | (refine wpAnyH_take (i := 6) (v := ?_) rfl (by kernel_rfl) (by kernel_rfl) (by kernel_rfl) (fun _ _ _ h => h) (Or.inl ⟨by rfl, ?_⟩) (by assumption) ?_; rotate_left; (focus (intro w hSw; (try dsimp only at hSw); go_simp; first | done | with_reducible rfl))) | (refine wpAnyH_take (i := 6) rfl (by kernel_rfl) (by kernel_rfl) (by kernel_rfl) (fun _ _ _ h => h) (Or.inr ⟨by rfl, rfl⟩) (by assumption) ?_) | fail
     try simp only [Act.put, List.getElem_toArray, List.getElem_cons_zero, List.getElem_cons_succ, List.setIfInBounds_toArray, List.set_cons_zero, List.set_cons_succ]
     refine wpAnyH_ready (rs := [5]) (by kernel_rfl) (by simp) (AllReadyH.cons rfl (fun K hK => ?_) AllReadyH.nil)
     (try go_simp)
     refine (rslEnc_yes _ _ _ _ _ _ _ _ _ _ hl0 hE0 ⟨hl1.1, gl1⟩ ⟨hl2.1, gl2⟩ ⟨hl3.1, gl3⟩ ⟨hl4.1, gl4⟩ ⟨hl9.1, gl9⟩ ⟨hl10.1, gl10⟩ ⟨hl11.1, gl11⟩ ⟨hl12.1, gl12⟩).mono ?_
     rintro e w8 ⟨rfl, hb8⟩
     have hb8' := hb7'.trans (hb8.mono hb7'.size)
     have hS' := s25 S8 Xk hb8'
     clear hb8
     refine hK.out _ _ ?_ (fun hHeld => ?_)
     ·(try dsimp only)
      (first | assumption | exact s25')
     clear hK K
     try simp only [Act.put, List.getElem_toArray, List.getElem_cons_zero, List.getElem_cons_succ, List.setIfInBounds_toArray, List.set_cons_zero, List.set_cons_succ]
     first | (refine wpAnyH_take (i := 7) (v := ?_) rfl (by kernel_rfl) (by kernel_rfl) (by kernel_rfl) (fun _ _ _ h => h) (Or.inl ⟨by rfl, ?_⟩) (by assumption) ?_; rotate_left; (focus (intro w hSw; (try dsimp only at hSw); go_simp; first | done | with_reducible rfl))) | (refine wpAnyH_take (i := 7) rfl (by kernel_rfl) (by kernel_rfl) (by kernel_rfl) (fun _ _ _ h => h) (Or.inr ⟨by rfl, rfl⟩) (by assumption) ?_) | fail
     try simp only [Act.put, List.getElem_toArray, List.getElem_cons_zero, List.getElem_cons_succ, List.setIfInBounds_toArray, List.set_cons_zero, List.set_cons_succ]
     first | (refine wpAnyH_take (i := 8) (v := ?_) rfl (by kernel_rfl) (by kernel_rfl) (by kernel_rfl) (fun _ _ _ h => h) (Or.inl ⟨by rfl, ?_⟩) (by assumption) ?_; rotate_left; (focus (intro w hSw; (try dsimp only at hSw); go_simp; first | done | with_reducible rfl))) | (refine wpAnyH_take (i := 8) rfl (by kernel_rfl) (by kernel_rfl) (by kernel_rfl) (fun _ _ _ h => h) (Or.inr ⟨by rfl, rfl⟩) (by assumption) ?_) | fail
     try simp only [Act.put, List.getElem_toArray, List.getElem_cons_zero, List.getElem_cons_succ, List.setIfInBounds_toArray, List.set_cons_zero, List.set_cons_succ]
     refine wpAnyH_done (by kernel_rfl) ?_ _
     have hbE := (by assumption : _ ∧ _ ∧ _ ∧ _ ∧ _ ∧ _ ∧ _ ∧ _ ∧ _ ∧ _ ∧ _ ∧ _ ∧ _ ∧ _ ∧ _ ∧ _ ∧ _ ∧ _ ∧ _ ∧ _ ∧ _ ∧ _ ∧ _ ∧ _ ∧ _ ∧ Below _ _ _).2.2.2.2.2.2.2.2.2.2.2.2.2.2.2.2.2.2.2.2.2.2.2.2.2
     have RE := Rk.below hbE Rk.lt
     have SE := S8.below hbE S8.lt
     have BE := Bk.trans (hbE.mono Bk.size)
     have r0 := RE.cell 0 _ rfl
     have r1 := RE.cell 1 _ rfl
     have r2 := RE.cell 2 _ rfl
     have r3 := RE.cell 3 _ rfl
     have r4 := RE.cell 4 _ rfl
     have r5 := RE.cell 5 _ rfl
     have r6 := RE.cell 6 _ rfl
     have r7 := RE.cell 7 _ rfl
     have r8 := RE.cell 8 _ rfl
     have f0 := RE.frozen 0
     have f1 := RE.frozen 1
     have f2 := RE.frozen 2
     have f3 := RE.frozen 3
     have f4 := RE.frozen 4
     have f5 := RE.frozen 5
     have f6 := RE.frozen 6
     have f7 := RE.frozen 7
     have f8 := RE.frozen 8
     go_wp2_with fail
     exact bodyPost_ret (v := .tuple #[.agg #[.int .u64 0, .int .i64 0, .int .i64 0, .int .i64 0, .int .i64 0, .int .i64 0, .int .i64 0, .int .i64 0, .int .i64 0], .int .i64 26]) (by simp [results, go_sem, Try.results120, r0, r1, r2, r3, r4, r5, r6, r7, r8]) rfl ⟨rfl, (((((((((BE).setCell (by simp) _).setCell (by simp) _).setCell (by simp) _).setCell (by simp) _).setCell (by simp) _).setCell (by simp) _).setCell (by simp) _).setCell (by simp) _).setCell (by simp) _⟩
    | true =>
     have heqL : [l0, l1, l2, l3, l4, 0, 0, (St.sum0 l0 l1 l2 l3 l4), l0, l9, l10, l11, l12, 1, 0, (St.sum1 l0 l9 l10 l11 l12)] = [l0, l1, l2, l3, l4, l5, l6, (St.sum7 l0 l1 l2 l3 l4 l5 l6), l8, l9, l10, l11, l12, l13, l14, (St.sum7 l8 l9 l10 l11 l12 l13 l14)] := by unfold eqB at hec; simpa using hec
     have hyes : okD l0 l1 l2 l3 l4 l5 l6 l8 l9 l10 l11 l12 l13 l14 := by
      simp only [List.cons.injEq] at heqL
      have h := heqL
      exact ⟨HRB.out, h.2.2.2.2.2.1.symm, h.2.2.2.2.2.2.1.symm, h.2.2.2.2.2.2.2.2.1.symm, h.2.2.2.2.2.2.2.2.2.2.2.2.2.1.symm, h.2.2.2.2.2.2.2.2.2.2.2.2.2.2.1.symm⟩
     rcases hV.out with ⟨_, rfl, rfl⟩ | ⟨h, _, _⟩
     rotate_left
     ·exact absurd hyes h
     clear hyes hV
     have heq := line16_eq [l0, l1, l2, l3, l4, 0, 0, (St.sum0 l0 l1 l2 l3 l4), l0, l9, l10, l11, l12, 1, 0, (St.sum1 l0 l9 l10 l11 l12)] [l0, l1, l2, l3, l4, l5, l6, (St.sum7 l0 l1 l2 l3 l4 l5 l6), l8, l9, l10, l11, l12, l13, l14, (St.sum7 l8 l9 l10 l11 l12 l13 l14)] rfl rfl
     rw [hec] at heq
     simp only [List.map_cons, List.map_nil] at heq
     clear hec heqL
     have s25' := s25 S8 Xk (Below.refl _ _).drew
     go_wp2_with fail
     refine wp_region_held_drew (S := fun W => W.cell? ⟨w6.heap.size, 0, none⟩ = some (.int .u64 l0) ∧ W.cell? ⟨w6.heap.size, 1, none⟩ = some (.int .i64 l1) ∧ W.cell? ⟨w6.heap.size, 2, none⟩ = some (.int .i64 l2) ∧ W.cell? ⟨w6.heap.size, 3, none⟩ = some (.int .i64 l3) ∧ W.cell? ⟨w6.heap.size, 4, none⟩ = some (.int .i64 l4) ∧ W.cell? ⟨w6.heap.size, 5, none⟩ = some (.int .i64 l9) ∧ W.cell? ⟨w6.heap.size, 6, none⟩ = some (.int .i64 l10) ∧ W.cell? ⟨w6.heap.size, 7, none⟩ = some (.int .i64 l11) ∧ W.cell? ⟨w6.heap.size, 8, none⟩ = some (.int .i64 l12) ∧ W.cell? ⟨w.heap.size, 0, none⟩ = some (.int .u64 l0) ∧ W.cell? ⟨w.heap.size, 1, none⟩ = some (.int .u64 l1) ∧ W.cell? ⟨w.heap.size, 2, none⟩ = some (.int .u64 l2) ∧ W.cell? ⟨w.heap.size, 3, none⟩ = some (.int .u64 l3) ∧ W.cell? ⟨w.heap.size, 4, none⟩ = some (.int .u64 l4) ∧ W.cell? ⟨w.heap.size, 5, none⟩ = some (.int .u64 l5) ∧ W.cell? ⟨w.heap.size, 6, none⟩ = some (.int .u64 l6) ∧ W.cell? ⟨w.heap.size, 7, none⟩ = some (.int .u64 (St.sum7 l0 l1 l2 l3 l4 l5 l6)) ∧ W.cell? ⟨w.heap.size, 8, none⟩ = some (.int .u64 l8) ∧ W.cell? ⟨w.heap.size, 9, none⟩ = some (.int .u64 l9) ∧ W.cell? ⟨w.heap.size, 10, none⟩ = some (.int .u64 l10) ∧ W.cell? ⟨w.heap.size, 11, none⟩ = some (.int .u64 l11) ∧ W.cell? ⟨w.heap.size, 12, none⟩ = some (.int .u64 l12) ∧ W.cell? ⟨w.heap.size, 13, none⟩ = some (.int .u64 l13) ∧ W.cell? ⟨w.heap.size, 14, none⟩ = some (.int .u64 l14) ∧ W.cell? ⟨w.heap.size, 15, none⟩ = some (.int .u64 (St.sum7 l8 l9 l10 l11 l12 l13 l14)) ∧ Below wr.heap.size wr W) (by kernel_rfl) ?_ (fun hHeld => ?_)
     ·(try dsimp only)
      (first | assumption | exact s25')
     first | (refine wpAnyH_take (i := 0) (v := ?_) rfl (by kernel_rfl) (by kernel_rfl) (by kernel_rfl) (fun _ _ _ h => h) (Or.inl ⟨by rfl, ?_⟩) (by assumption) ?_; rotate_left; (focus (intro w hSw; (try dsimp only at hSw); go_simp; first | done | with_reducible rfl))) | (refine wpAnyH_take (i := 0) rfl (by kernel_rfl) (by kernel_rfl) (by kernel_rfl) (fun _ _ _ h => h) (Or.inr ⟨by rfl, rfl⟩) (by assumption) ?_) | fail
     try simp only [Act.put, List.getElem_toArray, List.getElem_cons_zero, List.getElem_cons_succ, List.setIfInBounds_toArray, List.set_cons_zero, List.set_cons_succ]
     refine wpAnyH_ready (rs := [1]) (by kernel_rfl) (by simp) (AllReadyH.cons rfl (fun K hK => ?_) AllReadyH.nil)
     (try go_simp)
     have hS := (by assumption : _ ∧ _ ∧ _ ∧ _ ∧ _ ∧ _ ∧ _ ∧ _ ∧ _ ∧ _ ∧ _ ∧ _ ∧ _ ∧ _ ∧ _ ∧ _ ∧ _ ∧ _ ∧ _ ∧ _ ∧ _ ∧ _ ∧ _ ∧ _ ∧ _ ∧ Below _ _ _).2.2.2.2.2.2.2.2.2.2.2.2.2.2.2.2.2.2.2.2.2.2.2.2.2
     refine (rslRight_any _ _ _ _ _ _ _ _ _ _ hl0 hcapI.out).mono ?_
     rintro e w7 ⟨rfl, hb7⟩
     have hb7' := hS.trans (hb7.mono hS.size)
     have hS' := s25 S8 Xk hb7'
     clear hb7 hS
     refine hK.out _ _ ?_ (fun hHeld => ?_)
     ·(try dsimp only)
      (first | assumption | exact s25')
     clear hK K
     try simp only [Act.put, List.getElem_toArray, List.getElem_cons_zero, List.getElem_cons_succ, List.setIfInBounds_toArray, List.set_cons_zero, List.set_cons_succ]
     first | (refine wpAnyH_take (i := 2) (v := ?_) rfl (by kernel_rfl) (by kernel_rfl) (by kernel_rfl) (fun _ _ _ h => h) (Or.inl ⟨by rfl, ?_⟩) (by assumption) ?_; rotate_left; (focus (intro w hSw; (try dsimp only at hSw); go_simp; first | done | with_reducible rfl))) | (refine wpAnyH_take (i := 2) rfl (by kernel_rfl) (by kernel_rfl) (by kernel_rfl) (fun _ _ _ h => h) (Or.inr ⟨by rfl, rfl⟩) (by assumption) ?_) | fail
     try simp only [Act.put, List.getElem_toArray, List.getElem_cons_zero, List.getElem_cons_succ, List.setIfInBounds_toArray, List.set_cons_zero, List.set_cons_succ]
     first | (refine wpAnyH_take (i := 3) (v := ?_) rfl (by kernel_rfl) (by kernel_rfl) (by kernel_rfl) (fun _ _ _ h => h) (Or.inl ⟨by rfl, ?_⟩) (by assumption) ?_; rotate_left; (focus (intro w hSw; (try dsimp only at hSw); go_simp; first | done | with_reducible rfl))) | (refine wpAnyH_take (i := 3) rfl (by kernel_rfl) (by kernel_rfl) (by kernel_rfl) (fun _ _ _ h => h) (Or.inr ⟨by rfl, rfl⟩) (by assumption) ?_) | fail
     try simp only [Act.put, List.getElem_toArray, List.getElem_cons_zero, List.getElem_cons_succ, List.setIfInBounds_toArray, List.set_cons_zero, List.set_cons_succ]
     first | (refine wpAnyH_take (i := 4) (v := ?_) rfl (by kernel_rfl) (by kernel_rfl) (by kernel_rfl) (fun _ _ _ h => h) (Or.inl ⟨by rfl, ?_⟩) (by assumption) ?_; rotate_left; (focus (intro w hSw; (try dsimp only at hSw); go_simp; first | done | with_reducible rfl))) | (refine wpAnyH_take (i := 4) rfl (by kernel_rfl) (by kernel_rfl) (by kernel_rfl) (fun _ _ _ h => h) (Or.inr ⟨by rfl, rfl⟩) (by assumption) ?_) | fail
     try simp only [Act.put, List.getElem_toArray, List.getElem_cons_zero, List.getElem_cons_succ, List.setIfInBounds_toArray, List.set_cons_zero, List.set_cons_succ]
     first | (refine wpAnyH_take (i := 6) (v := ?_) rfl (by kernel_rfl) (by kernel_rfl) (by kernel_rfl) (fun _ _ _ h => h) (Or.inl ⟨by rfl, ?_⟩) (by assumption) ?_; rotate_left; (focus (intro w hSw; (try dsimp only at hSw); go_simp; first | done | with_reducible rfl))) | (refine wpAnyH_take (i := 6) rfl (by kernel_rfl) (by kernel_rfl) (by kernel_rfl) (fun _ _ _ h => h) (Or.inr ⟨by rfl, rfl⟩) (by assumption) ?_) | fail
     try simp only [Act.put, List.getElem_toArray, List.getElem_cons_zero, List.getElem_cons_succ, List.setIfInBounds_toArray, List.set_cons_zero, List.set_cons_succ]
     refine wpAnyH_ready (rs := [5]) (by kernel_rfl) (by simp) (AllReadyH.cons rfl (fun K hK => ?_) AllReadyH.nil)
     (try go_simp)
     refine (rslEnc_yes _ _ _ _ _ _ _ _ _ _ hl0 hE0 ⟨hl1.1, gl1⟩ ⟨hl2.1, gl2⟩ ⟨hl3.1, gl3⟩ ⟨hl4.1, gl4⟩ ⟨hl9.1, gl9⟩ ⟨hl10.1, gl10⟩ ⟨hl11.1, gl11⟩ ⟨hl12.1, gl12⟩).mono ?_
     rintro e w8 ⟨rfl, hb8⟩
     have hb8' := hb7'.trans (hb8.mono hb7'.size)
     have hS' := s25 S8 Xk hb8'
     clear hb8
     refine hK.out _ _ ?_ (fun hHeld => ?_)
     ·(try dsimp only)
      (first | assumption | exact s25')
     clear hK K
     try simp only [Act.put, List.getElem_toArray, List.getElem_cons_zero, List.getElem_cons_succ, List.setIfInBounds_toArray, List.set_cons_zero, List.set_cons_succ]
     first | (refine wpAnyH_take (i := 7) (v := ?_) rfl (by kernel_rfl) (by kernel_rfl) (by kernel_rfl) (fun _ _ _ h => h) (Or.inl ⟨by rfl, ?_⟩) (by assumption) ?_; rotate_left; (focus (intro w hSw; (try dsimp only at hSw); go_simp; first | done | with_reducible rfl))) | (refine wpAnyH_take (i := 7) rfl (by kernel_rfl) (by kernel_rfl) (by kernel_rfl) (fun _ _ _ h => h) (Or.inr ⟨by rfl, rfl⟩) (by assumption) ?_) | fail
     try simp only [Act.put, List.getElem_toArray, List.getElem_cons_zero, List.getElem_cons_succ, List.setIfInBounds_toArray, List.set_cons_zero, List.set_cons_succ]
     first | (refine wpAnyH_take (i := 8) (v := ?_) rfl (by kernel_rfl) (by kernel_rfl) (by kernel_rfl) (fun _ _ _ h => h) (Or.inl ⟨by rfl, ?_⟩) (by assumption) ?_; rotate_left; (focus (intro w hSw; (try dsimp only at hSw); go_simp; first | done | with_reducible rfl))) | (refine wpAnyH_take (i := 8) rfl (by kernel_rfl) (by kernel_rfl) (by kernel_rfl) (fun _ _ _ h => h) (Or.inr ⟨by rfl, rfl⟩) (by assumption) ?_) | fail
     try simp only [Act.put, List.getElem_toArray, List.getElem_cons_zero, List.getElem_cons_succ, List.setIfInBounds_toArray, List.set_cons_zero, List.set_cons_succ]
     refine wpAnyH_done (by kernel_rfl) ?_ _
     have hbE := (by assumption : _ ∧ _ ∧ _ ∧ _ ∧ _ ∧ _ ∧ _ ∧ _ ∧ _ ∧ _ ∧ _ ∧ _ ∧ _ ∧ _ ∧ _ ∧ _ ∧ _ ∧ _ ∧ _ ∧ _ ∧ _ ∧ _ ∧ _ ∧ _ ∧ _ ∧ Below _ _ _).2.2.2.2.2.2.2.2.2.2.2.2.2.2.2.2.2.2.2.2.2.2.2.2.2
     have RE := Rk.below hbE Rk.lt
     have SE := S8.below hbE S8.lt
     have BE := Bk.trans (hbE.mono Bk.size)
     have r0 := RE.cell 0 _ rfl
     have r1 := RE.cell 1 _ rfl
     have r2 := RE.cell 2 _ rfl
     have r3 := RE.cell 3 _ rfl
     have r4 := RE.cell 4 _ rfl
     have r5 := RE.cell 5 _ rfl
     have r6 := RE.cell 6 _ rfl
     have r7 := RE.cell 7 _ rfl
     have r8 := RE.cell 8 _ rfl
     have f0 := RE.frozen 0
     have f1 := RE.frozen 1
     have f2 := RE.frozen 2
     have f3 := RE.frozen 3
     have f4 := RE.frozen 4
     have f5 := RE.frozen 5
     have f6 := RE.frozen 6
     have f7 := RE.frozen 7
     have f8 := RE.frozen 8
     have s0 := SE.cell 0 _ rfl
     have s1 := SE.cell 1 _ rfl
     have s2 := SE.cell 2 _ rfl
     have s3 := SE.cell 3 _ rfl
     have s4 := SE.cell 4 _ rfl
     have s5 := SE.cell 5 _ rfl
     have s6 := SE.cell 6 _ rfl
     have s7 := SE.cell 7 _ rfl
     have s8 := SE.cell 8 _ rfl
     go_wp2_with fail
     exact bodyPost_ret (v := .tuple #[.agg #[.int .u64 l0, .int .i64 l1, .int .i64 l2, .int .i64 l3, .int .i64 l4, .int .i64 l9, .int .i64 l10, .int .i64 l11, .int .i64 l12], .int .i64 0]) (by simp [results, go_sem, Try.results120, r0, r1, r2, r3, r4, r5, r6, r7, r8]) rfl ⟨rfl, (((((((((BE).setCell (by simp) _).setCell (by simp) _).setCell (by simp) _).setCell (by simp) _).setCell (by simp) _).setCell (by simp) _).setCell (by simp) _).setCell (by simp) _).setCell (by simp) _⟩
end Go.Proofs.Ytmekhdclnhhhbaa
end

section
namespace Go.Proofs.Ytmekhdclnhhhbaa
open Go.RowKit
set_option maxHeartbeats 4000000
set_option maxRecDepth 100000
def slotV (E : Int) (R : List Int) : Value := .agg (Value.int .u64 E :: R.map (Value.int .i64)).toArray
end Go.Proofs.Ytmekhdclnhhhbaa
end

section
namespace Go.Proofs.Ytmekhdclnhhhbaa
open Go.RowKit
set_option maxHeartbeats 4000000
set_option maxRecDepth 100000
open Classical in
noncomputable def dC : List Int → Int
 | [l0, l1, l2, l3, l4, l5, l6, l7, l8, l9, l10, l11, l12, l13, l14, l15] => if l7 ≠ St.sum7 l0 l1 l2 l3 l4 l5 l6 then 25 else if l15 ≠ St.sum7 l8 l9 l10 l11 l12 l13 l14 then 25 else if okD l0 l1 l2 l3 l4 l5 l6 l8 l9 l10 l11 l12 l13 l14 then 0 else 26
 | _ => 0
def dE : List Int → Int
 | [l0, l1, l2, l3, l4, l5, l6, l7, l8, l9, l10, l11, l12, l13, l14, l15] => l0
 | _ => 0
def dR : List Int → List Int
 | [l0, l1, l2, l3, l4, l5, l6, l7, l8, l9, l10, l11, l12, l13, l14, l15] => [l1, l2, l3, l4, l9, l10, l11, l12]
 | _ => [0, 0, 0, 0, 0, 0, 0, 0]
open Classical in
noncomputable def dVE (z : List Int) : Int := if dC z = 0 then dE z else 0
open Classical in
noncomputable def dVR (z : List Int) : List Int := if dC z = 0 then dR z else [0, 0, 0, 0, 0, 0, 0, 0]
theorem list8 {α : Type} {l : List α} (h : l.length = 8) : ∃ r0 r1 r2 r3 r4 r5 r6 r7, l = [r0, r1, r2, r3, r4, r5, r6, r7] := by
 match l, h with
 | [r0, r1, r2, r3, r4, r5, r6, r7], _ => exact ⟨r0, r1, r2, r3, r4, r5, r6, r7, rfl⟩
theorem list16 {α : Type} {l : List α} (h : l.length = 16) : ∃ l0 l1 l2 l3 l4 l5 l6 l7 l8 l9 l10 l11 l12 l13 l14 l15, l = [l0, l1, l2, l3, l4, l5, l6, l7, l8, l9, l10, l11, l12, l13, l14, l15] := by
 match l, h with
 | [l0, l1, l2, l3, l4, l5, l6, l7, l8, l9, l10, l11, l12, l13, l14, l15], _ => exact ⟨l0, l1, l2, l3, l4, l5, l6, l7, l8, l9, l10, l11, l12, l13, l14, l15, rfl⟩
theorem dVR_len (z : List Int) (hz : z.length = 16) : (dVR z).length = 8 := by
 obtain ⟨l0, l1, l2, l3, l4, l5, l6, l7, l8, l9, l10, l11, l12, l13, l14, l15, rfl⟩ := list16 hz
 unfold dVR dR
 split <;> rfl
theorem wfU {z : List Int} (h : Ints .u64 z) {x : Int} (hx : x ∈ z) : U64s x := by
 have := h x hx
 simp [Lit.wf, IntKind.min, IntKind.max, IntKind.signed, IntKind.bits] at this
 exact ⟨by omega, by omega⟩
theorem slDec_any (z : List Int) (w : World) (hz : z.length = 16) (hw : Ints .u64 z) :
  Calls Try.prog 118 #[.agg (z.map (Value.int .u64)).toArray] w fun e w' => e = .returned (.tuple #[slotV (dVE z) (dVR z), .int .i64 (dC z)]) ∧ Below w.heap.size w w' := by
 obtain ⟨l0, l1, l2, l3, l4, l5, l6, l7, l8, l9, l10, l11, l12, l13, l14, l15, rfl⟩ := list16 hz
 have hl0 : U64s l0 := wfU hw (by simp)
 have hl1 : U64s l1 := wfU hw (by simp)
 have hl2 : U64s l2 := wfU hw (by simp)
 have hl3 : U64s l3 := wfU hw (by simp)
 have hl4 : U64s l4 := wfU hw (by simp)
 have hl5 : U64s l5 := wfU hw (by simp)
 have hl6 : U64s l6 := wfU hw (by simp)
 have hl7 : U64s l7 := wfU hw (by simp)
 have hl8 : U64s l8 := wfU hw (by simp)
 have hl9 : U64s l9 := wfU hw (by simp)
 have hl10 : U64s l10 := wfU hw (by simp)
 have hl11 : U64s l11 := wfU hw (by simp)
 have hl12 : U64s l12 := wfU hw (by simp)
 have hl13 : U64s l13 := wfU hw (by simp)
 have hl14 : U64s l14 := wfU hw (by simp)
 have hl15 : U64s l15 := wfU hw (by simp)
 clear hw hz
 by_cases h0 : l7 = St.sum7 l0 l1 l2 l3 l4 l5 l6
 ·by_cases h1 : l15 = St.sum7 l8 l9 l10 l11 l12 l13 l14
  ·subst h0 h1
   by_cases hok : okD l0 l1 l2 l3 l4 l5 l6 l8 l9 l10 l11 l12 l13 l14
   ·have e : dC [l0, l1, l2, l3, l4, l5, l6, St.sum7 l0 l1 l2 l3 l4 l5 l6, l8, l9, l10, l11, l12, l13, l14, St.sum7 l8 l9 l10 l11 l12 l13 l14] = 0 := by simp [dC, hok]
    rw [dVE, dVR, if_pos e, if_pos e, e]
    exact slDec_both l0 l1 l2 l3 l4 l5 l6 l8 l9 l10 l11 l12 l13 l14 w hl0 hl1 hl2 hl3 hl4 hl5 hl6 hl8 hl9 hl10 hl11 hl12 hl13 hl14 _ _ (.inl ⟨hok, rfl, rfl⟩)
   ·have e : dC [l0, l1, l2, l3, l4, l5, l6, St.sum7 l0 l1 l2 l3 l4 l5 l6, l8, l9, l10, l11, l12, l13, l14, St.sum7 l8 l9 l10 l11 l12 l13 l14] = 26 := by simp [dC, hok]
    rw [dVE, dVR, e, if_neg (by omega), if_neg (by omega)]
    exact slDec_both l0 l1 l2 l3 l4 l5 l6 l8 l9 l10 l11 l12 l13 l14 w hl0 hl1 hl2 hl3 hl4 hl5 hl6 hl8 hl9 hl10 hl11 hl12 hl13 hl14 _ _ (.inr ⟨hok, rfl, rfl⟩)
  ·subst h0
   have e : dC [l0, l1, l2, l3, l4, l5, l6, St.sum7 l0 l1 l2 l3 l4 l5 l6, l8, l9, l10, l11, l12, l13, l14, l15] = 25 := by simp [dC, h1]
   rw [dVE, dVR, e, if_neg (by omega), if_neg (by omega)]
   exact slDec_sum1 l0 l1 l2 l3 l4 l5 l6 l8 l9 l10 l11 l12 l13 l14 l15 w hl0 hl1 hl2 hl3 hl4 hl5 hl6 hl8 hl9 hl10 hl11 hl12 hl13 hl14 hl15 h1
 ·have e : dC [l0, l1, l2, l3, l4, l5, l6, l7, l8, l9, l10, l11, l12, l13, l14, l15] = 25 := by simp [dC, h0]
  rw [dVE, dVR, e, if_neg (by omega), if_neg (by omega)]
  exact slDec_sum0 l0 l1 l2 l3 l4 l5 l6 l7 l8 l9 l10 l11 l12 l13 l14 l15 w hl0 hl1 hl2 hl3 hl4 hl5 hl6 hl7 hl8 hl9 hl10 hl11 hl12 hl13 hl14 hl15 h0
theorem rslDec_any (z : List Int) (w : World) (hz : z.length = 16) (hw : Ints .u64 z) :
  Calls Try.prog 120 #[.agg (z.map (Value.int .u64)).toArray] w fun e w' => e = .returned (.tuple #[slotV (dVE z) (dVR z), .int .i64 (dC z)]) ∧ Below w.heap.size w w' := by
 obtain ⟨l0, l1, l2, l3, l4, l5, l6, l7, l8, l9, l10, l11, l12, l13, l14, l15, rfl⟩ := list16 hz
 have hl0 : U64s l0 := wfU hw (by simp)
 have hl1 : U64s l1 := wfU hw (by simp)
 have hl2 : U64s l2 := wfU hw (by simp)
 have hl3 : U64s l3 := wfU hw (by simp)
 have hl4 : U64s l4 := wfU hw (by simp)
 have hl5 : U64s l5 := wfU hw (by simp)
 have hl6 : U64s l6 := wfU hw (by simp)
 have hl7 : U64s l7 := wfU hw (by simp)
 have hl8 : U64s l8 := wfU hw (by simp)
 have hl9 : U64s l9 := wfU hw (by simp)
 have hl10 : U64s l10 := wfU hw (by simp)
 have hl11 : U64s l11 := wfU hw (by simp)
 have hl12 : U64s l12 := wfU hw (by simp)
 have hl13 : U64s l13 := wfU hw (by simp)
 have hl14 : U64s l14 := wfU hw (by simp)
 have hl15 : U64s l15 := wfU hw (by simp)
 clear hw hz
 by_cases h0 : l7 = St.sum7 l0 l1 l2 l3 l4 l5 l6
 ·by_cases h1 : l15 = St.sum7 l8 l9 l10 l11 l12 l13 l14
  ·subst h0 h1
   by_cases hok : okD l0 l1 l2 l3 l4 l5 l6 l8 l9 l10 l11 l12 l13 l14
   ·have e : dC [l0, l1, l2, l3, l4, l5, l6, St.sum7 l0 l1 l2 l3 l4 l5 l6, l8, l9, l10, l11, l12, l13, l14, St.sum7 l8 l9 l10 l11 l12 l13 l14] = 0 := by simp [dC, hok]
    rw [dVE, dVR, if_pos e, if_pos e, e]
    exact rslDec_both l0 l1 l2 l3 l4 l5 l6 l8 l9 l10 l11 l12 l13 l14 w hl0 hl1 hl2 hl3 hl4 hl5 hl6 hl8 hl9 hl10 hl11 hl12 hl13 hl14 _ _ (.inl ⟨hok, rfl, rfl⟩)
   ·have e : dC [l0, l1, l2, l3, l4, l5, l6, St.sum7 l0 l1 l2 l3 l4 l5 l6, l8, l9, l10, l11, l12, l13, l14, St.sum7 l8 l9 l10 l11 l12 l13 l14] = 26 := by simp [dC, hok]
    rw [dVE, dVR, e, if_neg (by omega), if_neg (by omega)]
    exact rslDec_both l0 l1 l2 l3 l4 l5 l6 l8 l9 l10 l11 l12 l13 l14 w hl0 hl1 hl2 hl3 hl4 hl5 hl6 hl8 hl9 hl10 hl11 hl12 hl13 hl14 _ _ (.inr ⟨hok, rfl, rfl⟩)
  ·subst h0
   have e : dC [l0, l1, l2, l3, l4, l5, l6, St.sum7 l0 l1 l2 l3 l4 l5 l6, l8, l9, l10, l11, l12, l13, l14, l15] = 25 := by simp [dC, h1]
   rw [dVE, dVR, e, if_neg (by omega), if_neg (by omega)]
   exact rslDec_sum1 l0 l1 l2 l3 l4 l5 l6 l8 l9 l10 l11 l12 l13 l14 l15 w hl0 hl1 hl2 hl3 hl4 hl5 hl6 hl8 hl9 hl10 hl11 hl12 hl13 hl14 hl15 h1
 ·have e : dC [l0, l1, l2, l3, l4, l5, l6, l7, l8, l9, l10, l11, l12, l13, l14, l15] = 25 := by simp [dC, h0]
  rw [dVE, dVR, e, if_neg (by omega), if_neg (by omega)]
  exact rslDec_sum0 l0 l1 l2 l3 l4 l5 l6 l7 l8 l9 l10 l11 l12 l13 l14 l15 w hl0 hl1 hl2 hl3 hl4 hl5 hl6 hl7 hl8 hl9 hl10 hl11 hl12 hl13 hl14 hl15 h0
theorem slDec_lit (l0 l1 l2 l3 l4 l5 l6 l7 l8 l9 l10 l11 l12 l13 l14 l15 : Int) (w : World) (hw : Ints .u64 [l0, l1, l2, l3, l4, l5, l6, l7, l8, l9, l10, l11, l12, l13, l14, l15]) :
  Calls Try.prog 118 #[.agg #[.int .u64 l0, .int .u64 l1, .int .u64 l2, .int .u64 l3, .int .u64 l4, .int .u64 l5, .int .u64 l6, .int .u64 l7, .int .u64 l8, .int .u64 l9, .int .u64 l10, .int .u64 l11, .int .u64 l12, .int .u64 l13, .int .u64 l14, .int .u64 l15]] w fun e w' => e = .returned (.tuple #[slotV (dVE [l0, l1, l2, l3, l4, l5, l6, l7, l8, l9, l10, l11, l12, l13, l14, l15]) (dVR [l0, l1, l2, l3, l4, l5, l6, l7, l8, l9, l10, l11, l12, l13, l14, l15]), .int .i64 (dC [l0, l1, l2, l3, l4, l5, l6, l7, l8, l9, l10, l11, l12, l13, l14, l15])]) ∧ Below w.heap.size w w' := slDec_any [l0, l1, l2, l3, l4, l5, l6, l7, l8, l9, l10, l11, l12, l13, l14, l15] w rfl hw
theorem rslDec_lit (l0 l1 l2 l3 l4 l5 l6 l7 l8 l9 l10 l11 l12 l13 l14 l15 : Int) (w : World) (hw : Ints .u64 [l0, l1, l2, l3, l4, l5, l6, l7, l8, l9, l10, l11, l12, l13, l14, l15]) :
  Calls Try.prog 120 #[.agg #[.int .u64 l0, .int .u64 l1, .int .u64 l2, .int .u64 l3, .int .u64 l4, .int .u64 l5, .int .u64 l6, .int .u64 l7, .int .u64 l8, .int .u64 l9, .int .u64 l10, .int .u64 l11, .int .u64 l12, .int .u64 l13, .int .u64 l14, .int .u64 l15]] w fun e w' => e = .returned (.tuple #[slotV (dVE [l0, l1, l2, l3, l4, l5, l6, l7, l8, l9, l10, l11, l12, l13, l14, l15]) (dVR [l0, l1, l2, l3, l4, l5, l6, l7, l8, l9, l10, l11, l12, l13, l14, l15]), .int .i64 (dC [l0, l1, l2, l3, l4, l5, l6, l7, l8, l9, l10, l11, l12, l13, l14, l15])]) ∧ Below w.heap.size w w' := rslDec_any [l0, l1, l2, l3, l4, l5, l6, l7, l8, l9, l10, l11, l12, l13, l14, l15] w rfl hw
def encL (E : Int) : List Int → List Int
 | [r0, r1, r2, r3, r4, r5, r6, r7] => if St.rightB E [r0, r1, r2, r3, r4, r5, r6, r7] = true then [E, r0, r1, r2, r3, 0, 0, St.sum0 E r0 r1 r2 r3, E, r4, r5, r6, r7, 1, 0, St.sum1 E r4 r5 r6 r7] else [0, 0, 0, 0, 0, 0, 0, 0, 0, 0, 0, 0, 0, 0, 0, 0]
 | _ => [0, 0, 0, 0, 0, 0, 0, 0, 0, 0, 0, 0, 0, 0, 0, 0]
theorem encL_len (E : Int) (R : List Int) : (encL E R).length = 16 := by
 unfold encL
 split
 ·split <;> rfl
 ·rfl
theorem rightB_all {E : Int} {r0 r1 r2 r3 r4 r5 r6 r7 : Int} (h : St.rightB E [r0, r1, r2, r3, r4, r5, r6, r7] = true) : 0 < E ∧ (0 ≤ r0 ∧ r0 ≤ 131071) ∧ (0 ≤ r1 ∧ r1 ≤ 131071) ∧ (0 ≤ r2 ∧ r2 ≤ 131071) ∧ (0 ≤ r3 ∧ r3 ≤ 131071) ∧ (0 ≤ r4 ∧ r4 ≤ 131071) ∧ (0 ≤ r5 ∧ r5 ≤ 131071) ∧ (0 ≤ r6 ∧ r6 ≤ 131071) ∧ (0 ≤ r7 ∧ r7 ≤ 131071) := by
 unfold St.rightB St.okR at h
 simp only [decide_eq_true_eq, List.mem_cons, List.not_mem_nil, or_false, forall_eq_or_imp, forall_eq] at h
 omega
theorem slEnc_any (E : Int) (R : List Int) (w : World) (hl : R.length = 8) (hE : U64s E) (hR : ∀ r ∈ R, I64 r) :
  Calls Try.prog 122 #[slotV E R] w fun e w' => e = .returned (.agg ((encL E R).map (Value.int .u64)).toArray) ∧ Below w.heap.size w w' := by
 obtain ⟨r0, r1, r2, r3, r4, r5, r6, r7, rfl⟩ := list8 hl
 cases hr : St.rightB E [r0, r1, r2, r3, r4, r5, r6, r7] with
 | false =>
  rw [show encL E [r0, r1, r2, r3, r4, r5, r6, r7] = [0, 0, 0, 0, 0, 0, 0, 0, 0, 0, 0, 0, 0, 0, 0, 0] from by simp [encL, hr]]
  exact slEnc_no E r0 r1 r2 r3 r4 r5 r6 r7 w hE hR hr
 | true =>
  obtain ⟨a, b0, b1, b2, b3, b4, b5, b6, b7⟩ := rightB_all hr
  rw [show encL E [r0, r1, r2, r3, r4, r5, r6, r7] = [E, r0, r1, r2, r3, 0, 0, St.sum0 E r0 r1 r2 r3, E, r4, r5, r6, r7, 1, 0, St.sum1 E r4 r5 r6 r7] from by simp [encL, hr]]
  exact slEnc_yes E r0 r1 r2 r3 r4 r5 r6 r7 w hE a b0 b1 b2 b3 b4 b5 b6 b7
theorem rslEnc_any (E : Int) (R : List Int) (w : World) (hl : R.length = 8) (hE : U64s E) (hR : ∀ r ∈ R, I64 r) :
  Calls Try.prog 116 #[slotV E R] w fun e w' => e = .returned (.agg ((encL E R).map (Value.int .u64)).toArray) ∧ Below w.heap.size w w' := by
 obtain ⟨r0, r1, r2, r3, r4, r5, r6, r7, rfl⟩ := list8 hl
 cases hr : St.rightB E [r0, r1, r2, r3, r4, r5, r6, r7] with
 | false =>
  rw [show encL E [r0, r1, r2, r3, r4, r5, r6, r7] = [0, 0, 0, 0, 0, 0, 0, 0, 0, 0, 0, 0, 0, 0, 0, 0] from by simp [encL, hr]]
  exact rslEnc_no E r0 r1 r2 r3 r4 r5 r6 r7 w hE hR hr
 | true =>
  obtain ⟨a, b0, b1, b2, b3, b4, b5, b6, b7⟩ := rightB_all hr
  rw [show encL E [r0, r1, r2, r3, r4, r5, r6, r7] = [E, r0, r1, r2, r3, 0, 0, St.sum0 E r0 r1 r2 r3, E, r4, r5, r6, r7, 1, 0, St.sum1 E r4 r5 r6 r7] from by simp [encL, hr]]
  exact rslEnc_yes E r0 r1 r2 r3 r4 r5 r6 r7 w hE a b0 b1 b2 b3 b4 b5 b6 b7
end Go.Proofs.Ytmekhdclnhhhbaa
end
