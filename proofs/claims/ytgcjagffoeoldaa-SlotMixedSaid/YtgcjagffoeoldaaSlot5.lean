/- What Decode makes of a slot's words where a sum is wrong: the code's. -/
import Derived.Test.YtgcjagffoeoldaaSlot4
namespace Go.Proofs.Ytgcjagffoeoldaa
open Go.RowKit
set_option linter.unusedVariables false
set_option linter.unusedSimpArgs false
set_option maxHeartbeats 8000000
set_option maxRecDepth 100000
def U64s (x : Int) : Prop := 0 ≤ x ∧ x ≤ 18446744073709551615
theorem u64s_wf (a b c d e f g : Int) (ha : U64s a) (hb : U64s b) (hc : U64s c) (hd : U64s d) (he : U64s e) (hf : U64s f) (hg : U64s g) : Ints .u64 [a, b, c, d, e, f, g] := by
  intro x hx
  simp at hx
  apply wf_u64
  rcases hx with rfl | rfl | rfl | rfl | rfl | rfl | rfl <;> assumption
theorem slDec_sum0 (l0 l1 l2 l3 l4 l5 l6 l7 l8 l9 l10 l11 l12 l13 l14 l15 : Int) (w : World) (hl0 : U64s l0) (hl1 : U64s l1) (hl2 : U64s l2) (hl3 : U64s l3) (hl4 : U64s l4) (hl5 : U64s l5) (hl6 : U64s l6) (hl7 : U64s l7) (hl8 : U64s l8) (hl9 : U64s l9) (hl10 : U64s l10) (hl11 : U64s l11) (hl12 : U64s l12) (hl13 : U64s l13) (hl14 : U64s l14) (hl15 : U64s l15) (hne : l7 ≠ St.sum7 l0 l1 l2 l3 l4 l5 l6) :
    Calls Try.prog 19 #[.agg #[.int .u64 l0, .int .u64 l1, .int .u64 l2, .int .u64 l3, .int .u64 l4, .int .u64 l5, .int .u64 l6, .int .u64 l7, .int .u64 l8, .int .u64 l9, .int .u64 l10, .int .u64 l11, .int .u64 l12, .int .u64 l13, .int .u64 l14, .int .u64 l15]] w fun e w' => e = .returned (.tuple #[.agg #[.int .u64 0, .int .i64 0, .int .i64 0, .int .i64 0, .int .i64 0, .int .i64 0, .int .i64 0, .int .i64 0, .int .i64 0], .int .i64 25]) ∧ Below w.heap.size w w' := by
  have d0 : (l7 != St.sum7 l0 l1 l2 l3 l4 l5 l6) = true := by rw [bne_iff_ne]; exact hne
  clear hne
  have W0 := Lib.hid (u64s_wf l0 l1 l2 l3 l4 l5 l6 hl0 hl1 hl2 hl3 hl4 hl5 hl6)
  have W1 := Lib.hid (u64s_wf l8 l9 l10 l11 l12 l13 l14 hl8 hl9 hl10 hl11 hl12 hl13 hl14)
  have b0 := St.sum7_bd l0 l1 l2 l3 l4 l5 l6
  have b1 := St.sum7_bd l8 l9 l10 l11 l12 l13 l14
  have q0 : IntKind.u64.wrap (St.sum7 l0 l1 l2 l3 l4 l5 l6) = St.sum7 l0 l1 l2 l3 l4 l5 l6 := by rw [IntKind.wrap_u64]; omega
  have q1 : IntKind.u64.wrap (St.sum7 l8 l9 l10 l11 l12 l13 l14) = St.sum7 l8 l9 l10 l11 l12 l13 l14 := by rw [IntKind.wrap_u64]; omega
  have X := Lib.hid ((Blk.new w #[.int .u64 l0, .int .u64 l1, .int .u64 l2, .int .u64 l3, .int .u64 l4, .int .u64 l5, .int .u64 l6, .int .u64 l7, .int .u64 l8, .int .u64 l9, .int .u64 l10, .int .u64 l11, .int .u64 l12, .int .u64 l13, .int .u64 l14, .int .u64 l15] 39).alloc (.cells #[.int .u64 0, .int .i64 0, .int .i64 0, .int .i64 0, .int .i64 0, .int .i64 0, .int .i64 0, .int .i64 0, .int .i64 0] 38))
  have R := Lib.hid (Blk.new1 w (.cells #[.int .u64 l0, .int .u64 l1, .int .u64 l2, .int .u64 l3, .int .u64 l4, .int .u64 l5, .int .u64 l6, .int .u64 l7, .int .u64 l8, .int .u64 l9, .int .u64 l10, .int .u64 l11, .int .u64 l12, .int .u64 l13, .int .u64 l14, .int .u64 l15] 39) #[.int .u64 0, .int .i64 0, .int .i64 0, .int .i64 0, .int .i64 0, .int .i64 0, .int .i64 0, .int .i64 0, .int .i64 0] 38)
  have hB : Below w.heap.size w ((w.alloc (.cells #[.int .u64 l0, .int .u64 l1, .int .u64 l2, .int .u64 l3, .int .u64 l4, .int .u64 l5, .int .u64 l6, .int .u64 l7, .int .u64 l8, .int .u64 l9, .int .u64 l10, .int .u64 l11, .int .u64 l12, .int .u64 l13, .int .u64 l14, .int .u64 l15] 39)).alloc (.cells #[.int .u64 0, .int .i64 0, .int .i64 0, .int .i64 0, .int .i64 0, .int .i64 0, .int .i64 0, .int .i64 0, .int .i64 0] 38)) := ((Below.refl _ _).alloc (Nat.le_refl _) _).alloc (by simp) _
  generalize hZ : ((w.alloc (.cells #[.int .u64 l0, .int .u64 l1, .int .u64 l2, .int .u64 l3, .int .u64 l4, .int .u64 l5, .int .u64 l6, .int .u64 l7, .int .u64 l8, .int .u64 l9, .int .u64 l10, .int .u64 l11, .int .u64 l12, .int .u64 l13, .int .u64 l14, .int .u64 l15] 39)).alloc (.cells #[.int .u64 0, .int .i64 0, .int .i64 0, .int .i64 0, .int .i64 0, .int .i64 0, .int .i64 0, .int .i64 0, .int .i64 0] 38)) = Z at *
  have x7 := X.out.cell 7 _ rfl
  go_enter Try.func19, Try.ntmps19
  go_wp2_with fail
  refine wp_loop_rounds 3 ?_
  rw [rounds_succ]
  go_wp2_with fail
  go_region_held3 (fun W => W.cell? ⟨w.heap.size, 7, none⟩ = some (.int .u64 l7) ∧ Below Z.heap.size Z W)
    (first | assumption | exact ⟨x7, (Below.refl _ _).drew⟩)
    (first
      | (go_at_call 51; refine (crcWords_any _ 7 _ [l0, l1, l2, l3, l4, l5, l6] _ _ ((RowAt.of_blk_at X.out 0 7 (by simp)).below (by assumption : _ ∧ Below _ _ _).2) W0.out (by omega) (by assumption : _ ∧ Below _ _ _).2.size).mono ?_; rintro e w5 ⟨rfl, hb5⟩; rw [show Cr.more 0 (By.bytes [l0, l1, l2, l3, l4, l5, l6]) = St.sum7 l0 l1 l2 l3 l4 l5 l6 from rfl]; have hS := (by assumption : _ ∧ Below _ _ _); have hS' := And.intro ((hb5.cell (cell_lt hS.1)).trans hS.1) (hS.2.trans (hb5.mono hS.2.size))))
  have hSw5 := (by assumption : _ ∧ Below Z.heap.size Z _)
  have Xw5 := X.out.below hSw5.2 X.out.lt
  have Rw5 := R.out.below hSw5.2 R.out.lt
  have Bw5 := hB.trans (hSw5.2.mono hB.size)
  have r0 := Rw5.cell 0 _ rfl
  have r1 := Rw5.cell 1 _ rfl
  have r2 := Rw5.cell 2 _ rfl
  have r3 := Rw5.cell 3 _ rfl
  have r4 := Rw5.cell 4 _ rfl
  have r5 := Rw5.cell 5 _ rfl
  have r6 := Rw5.cell 6 _ rfl
  have r7 := Rw5.cell 7 _ rfl
  have r8 := Rw5.cell 8 _ rfl
  have f0 := Rw5.frozen 0
  have f1 := Rw5.frozen 1
  have f2 := Rw5.frozen 2
  have f3 := Rw5.frozen 3
  have f4 := Rw5.frozen 4
  have f5 := Rw5.frozen 5
  have f6 := Rw5.frozen 6
  have f7 := Rw5.frozen 7
  have f8 := Rw5.frozen 8
  go_wp2_with fail
  exact bodyPost_ret (v := .tuple #[.agg #[.int .u64 0, .int .i64 0, .int .i64 0, .int .i64 0, .int .i64 0, .int .i64 0, .int .i64 0, .int .i64 0, .int .i64 0], .int .i64 25]) (by simp [results, go_sem, Try.results19, r0, r1, r2, r3, r4, r5, r6, r7, r8]) rfl ⟨rfl, (((((((((Bw5).setCell (by simp) _).setCell (by simp) _).setCell (by simp) _).setCell (by simp) _).setCell (by simp) _).setCell (by simp) _).setCell (by simp) _).setCell (by simp) _).setCell (by simp) _⟩
theorem slDec_sum1 (l0 l1 l2 l3 l4 l5 l6 l8 l9 l10 l11 l12 l13 l14 l15 : Int) (w : World) (hl0 : U64s l0) (hl1 : U64s l1) (hl2 : U64s l2) (hl3 : U64s l3) (hl4 : U64s l4) (hl5 : U64s l5) (hl6 : U64s l6) (hl8 : U64s l8) (hl9 : U64s l9) (hl10 : U64s l10) (hl11 : U64s l11) (hl12 : U64s l12) (hl13 : U64s l13) (hl14 : U64s l14) (hl15 : U64s l15) (hne : l15 ≠ St.sum7 l8 l9 l10 l11 l12 l13 l14) :
    Calls Try.prog 19 #[.agg #[.int .u64 l0, .int .u64 l1, .int .u64 l2, .int .u64 l3, .int .u64 l4, .int .u64 l5, .int .u64 l6, .int .u64 (St.sum7 l0 l1 l2 l3 l4 l5 l6), .int .u64 l8, .int .u64 l9, .int .u64 l10, .int .u64 l11, .int .u64 l12, .int .u64 l13, .int .u64 l14, .int .u64 l15]] w fun e w' => e = .returned (.tuple #[.agg #[.int .u64 0, .int .i64 0, .int .i64 0, .int .i64 0, .int .i64 0, .int .i64 0, .int .i64 0, .int .i64 0, .int .i64 0], .int .i64 25]) ∧ Below w.heap.size w w' := by
  have d1 : (l15 != St.sum7 l8 l9 l10 l11 l12 l13 l14) = true := by rw [bne_iff_ne]; exact hne
  clear hne
  have W0 := Lib.hid (u64s_wf l0 l1 l2 l3 l4 l5 l6 hl0 hl1 hl2 hl3 hl4 hl5 hl6)
  have W1 := Lib.hid (u64s_wf l8 l9 l10 l11 l12 l13 l14 hl8 hl9 hl10 hl11 hl12 hl13 hl14)
  have b0 := St.sum7_bd l0 l1 l2 l3 l4 l5 l6
  have b1 := St.sum7_bd l8 l9 l10 l11 l12 l13 l14
  have q0 : IntKind.u64.wrap (St.sum7 l0 l1 l2 l3 l4 l5 l6) = St.sum7 l0 l1 l2 l3 l4 l5 l6 := by rw [IntKind.wrap_u64]; omega
  have q1 : IntKind.u64.wrap (St.sum7 l8 l9 l10 l11 l12 l13 l14) = St.sum7 l8 l9 l10 l11 l12 l13 l14 := by rw [IntKind.wrap_u64]; omega
  have X := Lib.hid ((Blk.new w #[.int .u64 l0, .int .u64 l1, .int .u64 l2, .int .u64 l3, .int .u64 l4, .int .u64 l5, .int .u64 l6, .int .u64 (St.sum7 l0 l1 l2 l3 l4 l5 l6), .int .u64 l8, .int .u64 l9, .int .u64 l10, .int .u64 l11, .int .u64 l12, .int .u64 l13, .int .u64 l14, .int .u64 l15] 39).alloc (.cells #[.int .u64 0, .int .i64 0, .int .i64 0, .int .i64 0, .int .i64 0, .int .i64 0, .int .i64 0, .int .i64 0, .int .i64 0] 38))
  have R := Lib.hid (Blk.new1 w (.cells #[.int .u64 l0, .int .u64 l1, .int .u64 l2, .int .u64 l3, .int .u64 l4, .int .u64 l5, .int .u64 l6, .int .u64 (St.sum7 l0 l1 l2 l3 l4 l5 l6), .int .u64 l8, .int .u64 l9, .int .u64 l10, .int .u64 l11, .int .u64 l12, .int .u64 l13, .int .u64 l14, .int .u64 l15] 39) #[.int .u64 0, .int .i64 0, .int .i64 0, .int .i64 0, .int .i64 0, .int .i64 0, .int .i64 0, .int .i64 0, .int .i64 0] 38)
  have hB : Below w.heap.size w ((w.alloc (.cells #[.int .u64 l0, .int .u64 l1, .int .u64 l2, .int .u64 l3, .int .u64 l4, .int .u64 l5, .int .u64 l6, .int .u64 (St.sum7 l0 l1 l2 l3 l4 l5 l6), .int .u64 l8, .int .u64 l9, .int .u64 l10, .int .u64 l11, .int .u64 l12, .int .u64 l13, .int .u64 l14, .int .u64 l15] 39)).alloc (.cells #[.int .u64 0, .int .i64 0, .int .i64 0, .int .i64 0, .int .i64 0, .int .i64 0, .int .i64 0, .int .i64 0, .int .i64 0] 38)) := ((Below.refl _ _).alloc (Nat.le_refl _) _).alloc (by simp) _
  generalize hZ : ((w.alloc (.cells #[.int .u64 l0, .int .u64 l1, .int .u64 l2, .int .u64 l3, .int .u64 l4, .int .u64 l5, .int .u64 l6, .int .u64 (St.sum7 l0 l1 l2 l3 l4 l5 l6), .int .u64 l8, .int .u64 l9, .int .u64 l10, .int .u64 l11, .int .u64 l12, .int .u64 l13, .int .u64 l14, .int .u64 l15] 39)).alloc (.cells #[.int .u64 0, .int .i64 0, .int .i64 0, .int .i64 0, .int .i64 0, .int .i64 0, .int .i64 0, .int .i64 0, .int .i64 0] 38)) = Z at *
  have x7 := X.out.cell 7 _ rfl
  go_enter Try.func19, Try.ntmps19
  go_wp2_with fail
  refine wp_loop_rounds 3 ?_
  rw [rounds_succ]
  go_wp2_with fail
  go_region_held3 (fun W => W.cell? ⟨w.heap.size, 7, none⟩ = some (.int .u64 (St.sum7 l0 l1 l2 l3 l4 l5 l6)) ∧ Below Z.heap.size Z W)
    (first | assumption | exact ⟨x7, (Below.refl _ _).drew⟩)
    (first
      | (go_at_call 51; refine (crcWords_any _ 7 _ [l0, l1, l2, l3, l4, l5, l6] _ _ ((RowAt.of_blk_at X.out 0 7 (by simp)).below (by assumption : _ ∧ Below _ _ _).2) W0.out (by omega) (by assumption : _ ∧ Below _ _ _).2.size).mono ?_; rintro e w5 ⟨rfl, hb5⟩; rw [show Cr.more 0 (By.bytes [l0, l1, l2, l3, l4, l5, l6]) = St.sum7 l0 l1 l2 l3 l4 l5 l6 from rfl]; have hS := (by assumption : _ ∧ Below _ _ _); have hS' := And.intro ((hb5.cell (cell_lt hS.1)).trans hS.1) (hS.2.trans (hb5.mono hS.2.size))))
  have hSw5 := (by assumption : _ ∧ Below Z.heap.size Z _)
  have Xw5 := X.out.below hSw5.2 X.out.lt
  have Rw5 := R.out.below hSw5.2 R.out.lt
  have Bw5 := hB.trans (hSw5.2.mono hB.size)
  have x15 := Xw5.cell 15 _ rfl
  go_wp2_with fail
  rw [rounds_succ]
  go_wp2_with fail
  go_region_held3 (fun W => W.cell? ⟨w.heap.size, 15, none⟩ = some (.int .u64 l15) ∧ Below w5.heap.size w5 W)
    (first | assumption | exact ⟨x15, (Below.refl _ _).drew⟩)
    (first
      | (go_at_call 51; refine (crcWords_any _ 7 _ [l8, l9, l10, l11, l12, l13, l14] _ _ ((RowAt.of_blk_at Xw5 8 7 (by simp)).below (by assumption : _ ∧ Below _ _ _).2) W1.out (by omega) (by assumption : _ ∧ Below _ _ _).2.size).mono ?_; rintro e w6 ⟨rfl, hb5⟩; rw [show Cr.more 0 (By.bytes [l8, l9, l10, l11, l12, l13, l14]) = St.sum7 l8 l9 l10 l11 l12 l13 l14 from rfl]; have hS := (by assumption : _ ∧ Below _ _ _); have hS' := And.intro ((hb5.cell (cell_lt hS.1)).trans hS.1) (hS.2.trans (hb5.mono hS.2.size))))
  have hSw6 := (by assumption : _ ∧ Below w5.heap.size w5 _)
  have Xw6 := Xw5.below hSw6.2 Xw5.lt
  have Rw6 := Rw5.below hSw6.2 Rw5.lt
  have Bw6 := Bw5.trans (hSw6.2.mono Bw5.size)
  have r0 := Rw6.cell 0 _ rfl
  have r1 := Rw6.cell 1 _ rfl
  have r2 := Rw6.cell 2 _ rfl
  have r3 := Rw6.cell 3 _ rfl
  have r4 := Rw6.cell 4 _ rfl
  have r5 := Rw6.cell 5 _ rfl
  have r6 := Rw6.cell 6 _ rfl
  have r7 := Rw6.cell 7 _ rfl
  have r8 := Rw6.cell 8 _ rfl
  have f0 := Rw6.frozen 0
  have f1 := Rw6.frozen 1
  have f2 := Rw6.frozen 2
  have f3 := Rw6.frozen 3
  have f4 := Rw6.frozen 4
  have f5 := Rw6.frozen 5
  have f6 := Rw6.frozen 6
  have f7 := Rw6.frozen 7
  have f8 := Rw6.frozen 8
  go_wp2_with fail
  exact bodyPost_ret (v := .tuple #[.agg #[.int .u64 0, .int .i64 0, .int .i64 0, .int .i64 0, .int .i64 0, .int .i64 0, .int .i64 0, .int .i64 0, .int .i64 0], .int .i64 25]) (by simp [results, go_sem, Try.results19, r0, r1, r2, r3, r4, r5, r6, r7, r8]) rfl ⟨rfl, (((((((((Bw6).setCell (by simp) _).setCell (by simp) _).setCell (by simp) _).setCell (by simp) _).setCell (by simp) _).setCell (by simp) _).setCell (by simp) _).setCell (by simp) _).setCell (by simp) _⟩
end Go.Proofs.Ytgcjagffoeoldaa
