/- What Decode makes of a line whose magic and sum are right: the code's. -/
import Derived.Test.YtgcjagffoeoldaaSuper2
import Derived.Test.YtgcjagffoeoldaaArrEq
namespace Go.Proofs.Ytgcjagffoeoldaa
open Go.RowKit
set_option linter.unusedVariables false
set_option linter.unusedSimpArgs false
set_option maxHeartbeats 4000000
set_option maxRecDepth 100000
theorem line_eq (xs ys : List Int) (hx : xs.length = 8) (hy : ys.length = 8) (W : World) : (Op.equalIn 10000 23 (.agg (xs.map (Value.int .u64)).toArray) (.agg (ys.map (Value.int .u64)).toArray)).run Try.prog W = .ok (eqB xs ys) W := by
  obtain ⟨i0, hi0, _⟩ := info_parts info_u64
  exact run_equalIn_ints W 9998 Try.underlying23 Try.underlying22 hi0 (by kernel_rfl) xs ys hx hy
theorem s10 {Z W : World} {x s : Nat} {T T' : TypeId} {c0 c1 c2 c3 c4 c5 c6 c7 a0 a1 : Value} (X : Blk Z x #[c0, c1, c2, c3, c4, c5, c6, c7] T) (S : Blk Z s #[a0, a1] T') (h : Below Z.heap.size Z W) :
    W.cell? ⟨s, 0, none⟩ = some a0 ∧ W.cell? ⟨s, 1, none⟩ = some a1 ∧ W.cell? ⟨x, 0, none⟩ = some c0 ∧ W.cell? ⟨x, 1, none⟩ = some c1 ∧ W.cell? ⟨x, 2, none⟩ = some c2 ∧ W.cell? ⟨x, 3, none⟩ = some c3 ∧ W.cell? ⟨x, 4, none⟩ = some c4 ∧ W.cell? ⟨x, 5, none⟩ = some c5 ∧ W.cell? ⟨x, 6, none⟩ = some c6 ∧ W.cell? ⟨x, 7, none⟩ = some c7 ∧ Below Z.heap.size Z W := by
  have X' := X.below h X.lt
  have S' := S.below h S.lt
  exact ⟨S'.cell 0 _ rfl, S'.cell 1 _ rfl, X'.cell 0 _ rfl, X'.cell 1 _ rfl, X'.cell 2 _ rfl, X'.cell 3 _ rfl, X'.cell 4 _ rfl, X'.cell 5 _ rfl, X'.cell 6 _ rfl, X'.cell 7 _ rfl, h⟩
theorem sDec_ok (l2 l3 : Int) (w : World) (h2 : 0 ≤ l2 ∧ l2 ≤ 18446744073709551615) (h3 : 0 ≤ l3 ∧ l3 ≤ 18446744073709551615) (g1 : 2 ≤ l2) (g2 : l2 ≤ 256) :
    Calls Try.prog 14 #[.agg #[.int .u64 8390047168116913201, .int .u64 1, .int .u64 l2, .int .u64 l3, .int .u64 0, .int .u64 0, .int .u64 0, .int .u64 (Su.sum7 1 l2 l3 0 0 0)]] w fun e w' => e = .returned (.tuple #[.agg #[.int .i64 l2, .int .u64 l3], .int .i64 0]) ∧ Below w.heap.size w w' := by
  have hwf := Lib.hid (row7_wf 8390047168116913201 1 l2 l3 0 0 0 (by omega) (by omega) h2 h3 (by omega) (by omega) (by omega))
  have hsb := Su.sum7_bd 1 l2 l3 0 0 0
  have hsw : IntKind.u64.wrap (Su.sum7 1 l2 l3 0 0 0) = Su.sum7 1 l2 l3 0 0 0 := by rw [IntKind.wrap_u64]; omega
  have hrb := Su.rightB_yes l2 g1 g2
  have heq := line_eq [8390047168116913201, 1, l2, l3, 0, 0, 0, Su.crc l2 l3] [8390047168116913201, 1, l2, l3, 0, 0, 0, Su.sum7 1 l2 l3 0 0 0] rfl rfl
  rw [eqB_yes [8390047168116913201, 1, l2, l3, 0, 0, 0, Su.crc l2 l3] [8390047168116913201, 1, l2, l3, 0, 0, 0, Su.sum7 1 l2 l3 0 0 0] rfl] at heq
  simp only [List.map_cons, List.map_nil] at heq
  have X := Lib.hid ((Blk.new w #[.int .u64 8390047168116913201, .int .u64 1, .int .u64 l2, .int .u64 l3, .int .u64 0, .int .u64 0, .int .u64 0, .int .u64 (Su.sum7 1 l2 l3 0 0 0)] 23).alloc (.cells #[.int .i64 0, .int .u64 0] 27))
  have R := Lib.hid (Blk.new1 w (.cells #[.int .u64 8390047168116913201, .int .u64 1, .int .u64 l2, .int .u64 l3, .int .u64 0, .int .u64 0, .int .u64 0, .int .u64 (Su.sum7 1 l2 l3 0 0 0)] 23) #[.int .i64 0, .int .u64 0] 27)
  have hB : Below w.heap.size w ((w.alloc (.cells #[.int .u64 8390047168116913201, .int .u64 1, .int .u64 l2, .int .u64 l3, .int .u64 0, .int .u64 0, .int .u64 0, .int .u64 (Su.sum7 1 l2 l3 0 0 0)] 23)).alloc (.cells #[.int .i64 0, .int .u64 0] 27)) := ((Below.refl _ _).alloc (Nat.le_refl _) _).alloc (by simp) _
  generalize hZ : ((w.alloc (.cells #[.int .u64 8390047168116913201, .int .u64 1, .int .u64 l2, .int .u64 l3, .int .u64 0, .int .u64 0, .int .u64 0, .int .u64 (Su.sum7 1 l2 l3 0 0 0)] 23)).alloc (.cells #[.int .i64 0, .int .u64 0] 27)) = Z at *
  have x0 := X.out.cell 0 _ rfl
  have x7 := X.out.cell 7 _ rfl
  go_enter Try.func14, Try.ntmps14
  go_wp2_with fail
  go_region_held3 (fun W => W.cell? ⟨w.heap.size, 7, none⟩ = some (.int .u64 (Su.sum7 1 l2 l3 0 0 0)) ∧ Below Z.heap.size Z W)
    (first | assumption | exact ⟨x7, (Below.refl _ _).drew⟩)
    (first
      | (go_at_call 51; refine (crcWords_any _ 7 8 [8390047168116913201, 1, l2, l3, 0, 0, 0] _ _ ((RowAt.of_blk X.out 7 (by simp)).below (by assumption : _ ∧ Below _ _ _).2) hwf.out (by omega) (by assumption : _ ∧ Below _ _ _).2.size).mono ?_; rintro e w5 ⟨rfl, hb5⟩; rw [show Cr.more 0 (By.bytes [8390047168116913201, 1, l2, l3, 0, 0, 0]) = Su.sum7 1 l2 l3 0 0 0 from rfl]; have hS := (by assumption : _ ∧ Below _ _ _); have hS' := And.intro ((hb5.cell (cell_lt hS.1)).trans hS.1) (hS.2.trans (hb5.mono hS.2.size))))
  have hS' := (by assumption : _ ∧ Below _ _ _)
  have R5 := R.out.below hS'.2 R.out.lt
  have X5 := X.out.below hS'.2 X.out.lt
  have x2 := X5.cell 2 _ rfl
  have x3 := X5.cell 3 _ rfl
  have hB5 := hB.trans (hS'.2.mono hB.size)
  have R6 := R5.alloc (.cells #[.int .i64 l2, .int .u64 l3] 27)
  have X6 := X5.alloc (.cells #[.int .i64 l2, .int .u64 l3] 27)
  have S6 := Blk.new w5 #[.int .i64 l2, .int .u64 l3] 27
  have hB6 := hB5.alloc hB5.size (.cells #[.int .i64 l2, .int .u64 l3] 27)
  have s10' := s10 X6 S6 (Below.refl _ _).drew
  clear x0 x7 hS' hB5
  go_wp2_with fail
  refine wp_region_held_drew (S := fun W => W.cell? ⟨w5.heap.size, 0, none⟩ = some (.int .i64 l2) ∧ W.cell? ⟨w5.heap.size, 1, none⟩ = some (.int .u64 l3) ∧ W.cell? ⟨w.heap.size, 0, none⟩ = some (.int .u64 8390047168116913201) ∧ W.cell? ⟨w.heap.size, 1, none⟩ = some (.int .u64 1) ∧ W.cell? ⟨w.heap.size, 2, none⟩ = some (.int .u64 l2) ∧ W.cell? ⟨w.heap.size, 3, none⟩ = some (.int .u64 l3) ∧ W.cell? ⟨w.heap.size, 4, none⟩ = some (.int .u64 0) ∧ W.cell? ⟨w.heap.size, 5, none⟩ = some (.int .u64 0) ∧ W.cell? ⟨w.heap.size, 6, none⟩ = some (.int .u64 0) ∧ W.cell? ⟨w.heap.size, 7, none⟩ = some (.int .u64 (Su.sum7 1 l2 l3 0 0 0)) ∧ Below (w5.alloc (.cells #[.int .i64 l2, .int .u64 l3] 27)).heap.size (w5.alloc (.cells #[.int .i64 l2, .int .u64 l3] 27)) W) (by kernel_rfl) ?_ (fun hHeld => ?_)
  · (try dsimp only)
    (first | assumption | exact s10')
  first | (refine wpAnyH_take (i := 0) (v := ?_) rfl (by kernel_rfl) (by kernel_rfl) (by kernel_rfl) (fun _ _ _ h => h) (Or.inl ⟨by rfl, ?_⟩) (by assumption) ?_; rotate_left; (focus (intro w hSw; (try dsimp only at hSw); go_simp; first | done | with_reducible rfl))) | (refine wpAnyH_take (i := 0) rfl (by kernel_rfl) (by kernel_rfl) (by kernel_rfl) (fun _ _ _ h => h) (Or.inr ⟨by rfl, rfl⟩) (by assumption) ?_) | fail
  try simp only [Act.put, List.getElem_toArray, List.getElem_cons_zero, List.getElem_cons_succ, List.setIfInBounds_toArray, List.set_cons_zero, List.set_cons_succ]
  first | (refine wpAnyH_take (i := 1) (v := ?_) rfl (by kernel_rfl) (by kernel_rfl) (by kernel_rfl) (fun _ _ _ h => h) (Or.inl ⟨by rfl, ?_⟩) (by assumption) ?_; rotate_left; (focus (intro w hSw; (try dsimp only at hSw); go_simp; first | done | with_reducible rfl))) | (refine wpAnyH_take (i := 1) rfl (by kernel_rfl) (by kernel_rfl) (by kernel_rfl) (fun _ _ _ h => h) (Or.inr ⟨by rfl, rfl⟩) (by assumption) ?_) | fail
  try simp only [Act.put, List.getElem_toArray, List.getElem_cons_zero, List.getElem_cons_succ, List.setIfInBounds_toArray, List.set_cons_zero, List.set_cons_succ]
  first | (refine wpAnyH_take (i := 2) (v := ?_) rfl (by kernel_rfl) (by kernel_rfl) (by kernel_rfl) (fun _ _ _ h => h) (Or.inl ⟨by rfl, ?_⟩) (by assumption) ?_; rotate_left; (focus (intro w hSw; (try dsimp only at hSw); go_simp; first | done | with_reducible rfl))) | (refine wpAnyH_take (i := 2) rfl (by kernel_rfl) (by kernel_rfl) (by kernel_rfl) (fun _ _ _ h => h) (Or.inr ⟨by rfl, rfl⟩) (by assumption) ?_) | fail
  try simp only [Act.put, List.getElem_toArray, List.getElem_cons_zero, List.getElem_cons_succ, List.setIfInBounds_toArray, List.set_cons_zero, List.set_cons_succ]
  refine wpAnyH_ready (rs := [3]) (by kernel_rfl) (by simp) (AllReadyH.cons rfl (fun K hK => ?_) AllReadyH.nil)
  (try go_simp)
  have hS := (by assumption : _ ∧ _ ∧ _ ∧ _ ∧ _ ∧ _ ∧ _ ∧ _ ∧ _ ∧ _ ∧ Below _ _ _).2.2.2.2.2.2.2.2.2.2
  refine (gRight_any _ _ (by omega) (by omega)).mono ?_
  rintro e w7 ⟨rfl, hb7⟩
  have hb7' := hS.trans (hb7.mono hS.size)
  have hS' := s10 X6 S6 hb7'
  clear hb7 hS
  refine hK.out _ _ ?_ (fun hHeld => ?_)
  · (try dsimp only)
    (first | assumption | exact s10')
  clear hK K
  try simp only [Act.put, List.getElem_toArray, List.getElem_cons_zero, List.getElem_cons_succ, List.setIfInBounds_toArray, List.set_cons_zero, List.set_cons_succ]
  first | (refine wpAnyH_take (i := 4) (v := ?_) rfl (by kernel_rfl) (by kernel_rfl) (by kernel_rfl) (fun _ _ _ h => h) (Or.inl ⟨by rfl, ?_⟩) (by assumption) ?_; rotate_left; (focus (intro w hSw; (try dsimp only at hSw); go_simp; first | done | with_reducible rfl))) | (refine wpAnyH_take (i := 4) rfl (by kernel_rfl) (by kernel_rfl) (by kernel_rfl) (fun _ _ _ h => h) (Or.inr ⟨by rfl, rfl⟩) (by assumption) ?_) | fail
  try simp only [Act.put, List.getElem_toArray, List.getElem_cons_zero, List.getElem_cons_succ, List.setIfInBounds_toArray, List.set_cons_zero, List.set_cons_succ]
  first | (refine wpAnyH_take (i := 5) (v := ?_) rfl (by kernel_rfl) (by kernel_rfl) (by kernel_rfl) (fun _ _ _ h => h) (Or.inl ⟨by rfl, ?_⟩) (by assumption) ?_; rotate_left; (focus (intro w hSw; (try dsimp only at hSw); go_simp; first | done | with_reducible rfl))) | (refine wpAnyH_take (i := 5) rfl (by kernel_rfl) (by kernel_rfl) (by kernel_rfl) (fun _ _ _ h => h) (Or.inr ⟨by rfl, rfl⟩) (by assumption) ?_) | fail
  try simp only [Act.put, List.getElem_toArray, List.getElem_cons_zero, List.getElem_cons_succ, List.setIfInBounds_toArray, List.set_cons_zero, List.set_cons_succ]
  first | (refine wpAnyH_take (i := 6) (v := ?_) rfl (by kernel_rfl) (by kernel_rfl) (by kernel_rfl) (fun _ _ _ h => h) (Or.inl ⟨by rfl, ?_⟩) (by assumption) ?_; rotate_left; (focus (intro w hSw; (try dsimp only at hSw); go_simp; first | done | with_reducible rfl))) | (refine wpAnyH_take (i := 6) rfl (by kernel_rfl) (by kernel_rfl) (by kernel_rfl) (fun _ _ _ h => h) (Or.inr ⟨by rfl, rfl⟩) (by assumption) ?_) | fail
  try simp only [Act.put, List.getElem_toArray, List.getElem_cons_zero, List.getElem_cons_succ, List.setIfInBounds_toArray, List.set_cons_zero, List.set_cons_succ]
  first | (refine wpAnyH_take (i := 8) (v := ?_) rfl (by kernel_rfl) (by kernel_rfl) (by kernel_rfl) (fun _ _ _ h => h) (Or.inl ⟨by rfl, ?_⟩) (by assumption) ?_; rotate_left; (focus (intro w hSw; (try dsimp only at hSw); go_simp; first | done | with_reducible rfl))) | (refine wpAnyH_take (i := 8) rfl (by kernel_rfl) (by kernel_rfl) (by kernel_rfl) (fun _ _ _ h => h) (Or.inr ⟨by rfl, rfl⟩) (by assumption) ?_) | fail
  try simp only [Act.put, List.getElem_toArray, List.getElem_cons_zero, List.getElem_cons_succ, List.setIfInBounds_toArray, List.set_cons_zero, List.set_cons_succ]
  refine wpAnyH_ready (rs := [7]) (by kernel_rfl) (by simp) (AllReadyH.cons rfl (fun K hK => ?_) AllReadyH.nil)
  (try go_simp)
  refine (sEnc_any _ _ _ (by omega) (by omega) (by omega) (by omega)).mono ?_
  rintro e w8 ⟨rfl, hb8⟩
  have hb8' := hb7'.trans (hb8.mono hb7'.size)
  have hS' := s10 X6 S6 hb8'
  clear hb8
  refine hK.out _ _ ?_ (fun hHeld => ?_)
  · (try dsimp only)
    (first | assumption | exact s10')
  clear hK K
  try simp only [Act.put, List.getElem_toArray, List.getElem_cons_zero, List.getElem_cons_succ, List.setIfInBounds_toArray, List.set_cons_zero, List.set_cons_succ]
  first | (refine wpAnyH_take (i := 9) (v := ?_) rfl (by kernel_rfl) (by kernel_rfl) (by kernel_rfl) (fun _ _ _ h => h) (Or.inl ⟨by rfl, ?_⟩) (by assumption) ?_; rotate_left; (focus (intro w hSw; (try dsimp only at hSw); go_simp; first | done | with_reducible rfl))) | (refine wpAnyH_take (i := 9) rfl (by kernel_rfl) (by kernel_rfl) (by kernel_rfl) (fun _ _ _ h => h) (Or.inr ⟨by rfl, rfl⟩) (by assumption) ?_) | fail
  try simp only [Act.put, List.getElem_toArray, List.getElem_cons_zero, List.getElem_cons_succ, List.setIfInBounds_toArray, List.set_cons_zero, List.set_cons_succ]
  first | (refine wpAnyH_take (i := 10) (v := ?_) rfl (by kernel_rfl) (by kernel_rfl) (by kernel_rfl) (fun _ _ _ h => h) (Or.inl ⟨by rfl, ?_⟩) (by assumption) ?_; rotate_left; (focus (intro w hSw; (try dsimp only at hSw); go_simp; first | done | with_reducible rfl))) | (refine wpAnyH_take (i := 10) rfl (by kernel_rfl) (by kernel_rfl) (by kernel_rfl) (fun _ _ _ h => h) (Or.inr ⟨by rfl, rfl⟩) (by assumption) ?_) | fail
  try simp only [Act.put, List.getElem_toArray, List.getElem_cons_zero, List.getElem_cons_succ, List.setIfInBounds_toArray, List.set_cons_zero, List.set_cons_succ]
  refine wpAnyH_done (by kernel_rfl) ?_ _
  have hbE := (by assumption : _ ∧ _ ∧ _ ∧ _ ∧ _ ∧ _ ∧ _ ∧ _ ∧ _ ∧ _ ∧ Below _ _ _).2.2.2.2.2.2.2.2.2.2
  have RE := R6.below hbE R6.lt
  have SE := S6.below hbE S6.lt
  have r0 := RE.cell 0 _ rfl
  have r1 := RE.cell 1 _ rfl
  have f0 := RE.frozen 0
  have f1 := RE.frozen 1
  have s0 := SE.cell 0 _ rfl
  have s1 := SE.cell 1 _ rfl
  have hBE := hB6.trans (hbE.mono hB6.size)
  go_wp2_with fail
  exact bodyPost_ret (v := .tuple #[.agg #[.int .i64 l2, .int .u64 l3], .int .i64 0]) (by simp [results, go_sem, Try.results14, r0, r1]) rfl ⟨rfl, (hBE.setCell (by simp) _).setCell (by simp) _⟩
theorem sDec_low (l1 l2 l3 l4 l5 l6 : Int) (w : World) (h1 : 0 ≤ l1 ∧ l1 ≤ 18446744073709551615) (h2 : 0 ≤ l2 ∧ l2 ≤ 18446744073709551615) (h3 : 0 ≤ l3 ∧ l3 ≤ 18446744073709551615) (h4 : 0 ≤ l4 ∧ l4 ≤ 18446744073709551615) (h5 : 0 ≤ l5 ∧ l5 ≤ 18446744073709551615) (h6 : 0 ≤ l6 ∧ l6 ≤ 18446744073709551615) (g1 : l2 < 2) :
    Calls Try.prog 14 #[.agg #[.int .u64 8390047168116913201, .int .u64 l1, .int .u64 l2, .int .u64 l3, .int .u64 l4, .int .u64 l5, .int .u64 l6, .int .u64 (Su.sum7 l1 l2 l3 l4 l5 l6)]] w fun e w' => e = .returned (.tuple #[.agg #[.int .i64 0, .int .u64 0], .int .i64 26]) ∧ Below w.heap.size w w' := by
  have hwf := Lib.hid (row7_wf 8390047168116913201 l1 l2 l3 l4 l5 l6 (by omega) h1 h2 h3 h4 h5 h6)
  have hsb := Su.sum7_bd l1 l2 l3 l4 l5 l6
  have hsw : IntKind.u64.wrap (Su.sum7 l1 l2 l3 l4 l5 l6) = Su.sum7 l1 l2 l3 l4 l5 l6 := by rw [IntKind.wrap_u64]; omega
  have hrb := Su.rightB_no l2 (.inl g1)
  have X := Lib.hid ((Blk.new w #[.int .u64 8390047168116913201, .int .u64 l1, .int .u64 l2, .int .u64 l3, .int .u64 l4, .int .u64 l5, .int .u64 l6, .int .u64 (Su.sum7 l1 l2 l3 l4 l5 l6)] 23).alloc (.cells #[.int .i64 0, .int .u64 0] 27))
  have R := Lib.hid (Blk.new1 w (.cells #[.int .u64 8390047168116913201, .int .u64 l1, .int .u64 l2, .int .u64 l3, .int .u64 l4, .int .u64 l5, .int .u64 l6, .int .u64 (Su.sum7 l1 l2 l3 l4 l5 l6)] 23) #[.int .i64 0, .int .u64 0] 27)
  have hB : Below w.heap.size w ((w.alloc (.cells #[.int .u64 8390047168116913201, .int .u64 l1, .int .u64 l2, .int .u64 l3, .int .u64 l4, .int .u64 l5, .int .u64 l6, .int .u64 (Su.sum7 l1 l2 l3 l4 l5 l6)] 23)).alloc (.cells #[.int .i64 0, .int .u64 0] 27)) := ((Below.refl _ _).alloc (Nat.le_refl _) _).alloc (by simp) _
  generalize hZ : ((w.alloc (.cells #[.int .u64 8390047168116913201, .int .u64 l1, .int .u64 l2, .int .u64 l3, .int .u64 l4, .int .u64 l5, .int .u64 l6, .int .u64 (Su.sum7 l1 l2 l3 l4 l5 l6)] 23)).alloc (.cells #[.int .i64 0, .int .u64 0] 27)) = Z at *
  have x0 := X.out.cell 0 _ rfl
  have x7 := X.out.cell 7 _ rfl
  go_enter Try.func14, Try.ntmps14
  go_wp2_with fail
  go_region_held3 (fun W => W.cell? ⟨w.heap.size, 7, none⟩ = some (.int .u64 (Su.sum7 l1 l2 l3 l4 l5 l6)) ∧ Below Z.heap.size Z W)
    (first | assumption | exact ⟨x7, (Below.refl _ _).drew⟩)
    (first
      | (go_at_call 51; refine (crcWords_any _ 7 8 [8390047168116913201, l1, l2, l3, l4, l5, l6] _ _ ((RowAt.of_blk X.out 7 (by simp)).below (by assumption : _ ∧ Below _ _ _).2) hwf.out (by omega) (by assumption : _ ∧ Below _ _ _).2.size).mono ?_; rintro e w5 ⟨rfl, hb5⟩; rw [show Cr.more 0 (By.bytes [8390047168116913201, l1, l2, l3, l4, l5, l6]) = Su.sum7 l1 l2 l3 l4 l5 l6 from rfl]; have hS := (by assumption : _ ∧ Below _ _ _); have hS' := And.intro ((hb5.cell (cell_lt hS.1)).trans hS.1) (hS.2.trans (hb5.mono hS.2.size))))
  have hS' := (by assumption : _ ∧ Below _ _ _)
  have R5 := R.out.below hS'.2 R.out.lt
  have X5 := X.out.below hS'.2 X.out.lt
  have x2 := X5.cell 2 _ rfl
  have x3 := X5.cell 3 _ rfl
  have hB5 := hB.trans (hS'.2.mono hB.size)
  have R6 := R5.alloc (.cells #[.int .i64 l2, .int .u64 l3] 27)
  have X6 := X5.alloc (.cells #[.int .i64 l2, .int .u64 l3] 27)
  have S6 := Blk.new w5 #[.int .i64 l2, .int .u64 l3] 27
  have hB6 := hB5.alloc hB5.size (.cells #[.int .i64 l2, .int .u64 l3] 27)
  have s10' := s10 X6 S6 (Below.refl _ _).drew
  clear x0 x7 hS' hB5
  go_wp2_with fail
  refine wp_region_held_drew (S := fun W => W.cell? ⟨w5.heap.size, 0, none⟩ = some (.int .i64 l2) ∧ W.cell? ⟨w5.heap.size, 1, none⟩ = some (.int .u64 l3) ∧ W.cell? ⟨w.heap.size, 0, none⟩ = some (.int .u64 8390047168116913201) ∧ W.cell? ⟨w.heap.size, 1, none⟩ = some (.int .u64 l1) ∧ W.cell? ⟨w.heap.size, 2, none⟩ = some (.int .u64 l2) ∧ W.cell? ⟨w.heap.size, 3, none⟩ = some (.int .u64 l3) ∧ W.cell? ⟨w.heap.size, 4, none⟩ = some (.int .u64 l4) ∧ W.cell? ⟨w.heap.size, 5, none⟩ = some (.int .u64 l5) ∧ W.cell? ⟨w.heap.size, 6, none⟩ = some (.int .u64 l6) ∧ W.cell? ⟨w.heap.size, 7, none⟩ = some (.int .u64 (Su.sum7 l1 l2 l3 l4 l5 l6)) ∧ Below (w5.alloc (.cells #[.int .i64 l2, .int .u64 l3] 27)).heap.size (w5.alloc (.cells #[.int .i64 l2, .int .u64 l3] 27)) W) (by kernel_rfl) ?_ (fun hHeld => ?_)
  · (try dsimp only)
    (first | assumption | exact s10')
  first | (refine wpAnyH_take (i := 0) (v := ?_) rfl (by kernel_rfl) (by kernel_rfl) (by kernel_rfl) (fun _ _ _ h => h) (Or.inl ⟨by rfl, ?_⟩) (by assumption) ?_; rotate_left; (focus (intro w hSw; (try dsimp only at hSw); go_simp; first | done | with_reducible rfl))) | (refine wpAnyH_take (i := 0) rfl (by kernel_rfl) (by kernel_rfl) (by kernel_rfl) (fun _ _ _ h => h) (Or.inr ⟨by rfl, rfl⟩) (by assumption) ?_) | fail
  try simp only [Act.put, List.getElem_toArray, List.getElem_cons_zero, List.getElem_cons_succ, List.setIfInBounds_toArray, List.set_cons_zero, List.set_cons_succ]
  first | (refine wpAnyH_take (i := 1) (v := ?_) rfl (by kernel_rfl) (by kernel_rfl) (by kernel_rfl) (fun _ _ _ h => h) (Or.inl ⟨by rfl, ?_⟩) (by assumption) ?_; rotate_left; (focus (intro w hSw; (try dsimp only at hSw); go_simp; first | done | with_reducible rfl))) | (refine wpAnyH_take (i := 1) rfl (by kernel_rfl) (by kernel_rfl) (by kernel_rfl) (fun _ _ _ h => h) (Or.inr ⟨by rfl, rfl⟩) (by assumption) ?_) | fail
  try simp only [Act.put, List.getElem_toArray, List.getElem_cons_zero, List.getElem_cons_succ, List.setIfInBounds_toArray, List.set_cons_zero, List.set_cons_succ]
  first | (refine wpAnyH_take (i := 2) (v := ?_) rfl (by kernel_rfl) (by kernel_rfl) (by kernel_rfl) (fun _ _ _ h => h) (Or.inl ⟨by rfl, ?_⟩) (by assumption) ?_; rotate_left; (focus (intro w hSw; (try dsimp only at hSw); go_simp; first | done | with_reducible rfl))) | (refine wpAnyH_take (i := 2) rfl (by kernel_rfl) (by kernel_rfl) (by kernel_rfl) (fun _ _ _ h => h) (Or.inr ⟨by rfl, rfl⟩) (by assumption) ?_) | fail
  try simp only [Act.put, List.getElem_toArray, List.getElem_cons_zero, List.getElem_cons_succ, List.setIfInBounds_toArray, List.set_cons_zero, List.set_cons_succ]
  refine wpAnyH_ready (rs := [3]) (by kernel_rfl) (by simp) (AllReadyH.cons rfl (fun K hK => ?_) AllReadyH.nil)
  (try go_simp)
  have hS := (by assumption : _ ∧ _ ∧ _ ∧ _ ∧ _ ∧ _ ∧ _ ∧ _ ∧ _ ∧ _ ∧ Below _ _ _).2.2.2.2.2.2.2.2.2.2
  refine (gRight_any _ _ (by omega) (by omega)).mono ?_
  rintro e w7 ⟨rfl, hb7⟩
  have hb7' := hS.trans (hb7.mono hS.size)
  have hS' := s10 X6 S6 hb7'
  clear hb7 hS
  refine hK.out _ _ ?_ (fun hHeld => ?_)
  · (try dsimp only)
    (first | assumption | exact s10')
  clear hK K
  try simp only [Act.put, List.getElem_toArray, List.getElem_cons_zero, List.getElem_cons_succ, List.setIfInBounds_toArray, List.set_cons_zero, List.set_cons_succ]
  first | (refine wpAnyH_take (i := 4) (v := ?_) rfl (by kernel_rfl) (by kernel_rfl) (by kernel_rfl) (fun _ _ _ h => h) (Or.inl ⟨by rfl, ?_⟩) (by assumption) ?_; rotate_left; (focus (intro w hSw; (try dsimp only at hSw); go_simp; first | done | with_reducible rfl))) | (refine wpAnyH_take (i := 4) rfl (by kernel_rfl) (by kernel_rfl) (by kernel_rfl) (fun _ _ _ h => h) (Or.inr ⟨by rfl, rfl⟩) (by assumption) ?_) | fail
  try simp only [Act.put, List.getElem_toArray, List.getElem_cons_zero, List.getElem_cons_succ, List.setIfInBounds_toArray, List.set_cons_zero, List.set_cons_succ]
  first | (refine wpAnyH_take (i := 5) (v := ?_) rfl (by kernel_rfl) (by kernel_rfl) (by kernel_rfl) (fun _ _ _ h => h) (Or.inl ⟨by rfl, ?_⟩) (by assumption) ?_; rotate_left; (focus (intro w hSw; (try dsimp only at hSw); go_simp; first | done | with_reducible rfl))) | (refine wpAnyH_take (i := 5) rfl (by kernel_rfl) (by kernel_rfl) (by kernel_rfl) (fun _ _ _ h => h) (Or.inr ⟨by rfl, rfl⟩) (by assumption) ?_) | fail
  try simp only [Act.put, List.getElem_toArray, List.getElem_cons_zero, List.getElem_cons_succ, List.setIfInBounds_toArray, List.set_cons_zero, List.set_cons_succ]
  first | (refine wpAnyH_take (i := 6) rfl (by kernel_rfl) (by kernel_rfl) (by kernel_rfl) (fun _ _ _ h => h) (Or.inr ⟨by rfl, rfl⟩) (by assumption) ?_) | (refine wpAnyH_take (i := 6) (v := ?_) rfl (by kernel_rfl) (by kernel_rfl) (by kernel_rfl) (fun _ _ _ h => h) (Or.inl ⟨by rfl, ?_⟩) (by assumption) ?_; rotate_left; (focus (intro w hSw; (try dsimp only at hSw); go_simp; first | done | with_reducible rfl))) | fail
  try simp only [Act.put, List.getElem_toArray, List.getElem_cons_zero, List.getElem_cons_succ, List.setIfInBounds_toArray, List.set_cons_zero, List.set_cons_succ]
  first | (refine wpAnyH_take (i := 7) rfl (by kernel_rfl) (by kernel_rfl) (by kernel_rfl) (fun _ _ _ h => h) (Or.inr ⟨by rfl, rfl⟩) (by assumption) ?_) | (refine wpAnyH_take (i := 7) (v := ?_) rfl (by kernel_rfl) (by kernel_rfl) (by kernel_rfl) (fun _ _ _ h => h) (Or.inl ⟨by rfl, ?_⟩) (by assumption) ?_; rotate_left; (focus (intro w hSw; (try dsimp only at hSw); go_simp; first | done | with_reducible rfl))) | fail
  try simp only [Act.put, List.getElem_toArray, List.getElem_cons_zero, List.getElem_cons_succ, List.setIfInBounds_toArray, List.set_cons_zero, List.set_cons_succ]
  first | (refine wpAnyH_take (i := 8) rfl (by kernel_rfl) (by kernel_rfl) (by kernel_rfl) (fun _ _ _ h => h) (Or.inr ⟨by rfl, rfl⟩) (by assumption) ?_) | (refine wpAnyH_take (i := 8) (v := ?_) rfl (by kernel_rfl) (by kernel_rfl) (by kernel_rfl) (fun _ _ _ h => h) (Or.inl ⟨by rfl, ?_⟩) (by assumption) ?_; rotate_left; (focus (intro w hSw; (try dsimp only at hSw); go_simp; first | done | with_reducible rfl))) | fail
  try simp only [Act.put, List.getElem_toArray, List.getElem_cons_zero, List.getElem_cons_succ, List.setIfInBounds_toArray, List.set_cons_zero, List.set_cons_succ]
  first | (refine wpAnyH_take (i := 9) rfl (by kernel_rfl) (by kernel_rfl) (by kernel_rfl) (fun _ _ _ h => h) (Or.inr ⟨by rfl, rfl⟩) (by assumption) ?_) | (refine wpAnyH_take (i := 9) (v := ?_) rfl (by kernel_rfl) (by kernel_rfl) (by kernel_rfl) (fun _ _ _ h => h) (Or.inl ⟨by rfl, ?_⟩) (by assumption) ?_; rotate_left; (focus (intro w hSw; (try dsimp only at hSw); go_simp; first | done | with_reducible rfl))) | fail
  try simp only [Act.put, List.getElem_toArray, List.getElem_cons_zero, List.getElem_cons_succ, List.setIfInBounds_toArray, List.set_cons_zero, List.set_cons_succ]
  first | (refine wpAnyH_take (i := 10) (v := ?_) rfl (by kernel_rfl) (by kernel_rfl) (by kernel_rfl) (fun _ _ _ h => h) (Or.inl ⟨by rfl, ?_⟩) (by assumption) ?_; rotate_left; (focus (intro w hSw; (try dsimp only at hSw); go_simp; first | done | with_reducible rfl))) | (refine wpAnyH_take (i := 10) rfl (by kernel_rfl) (by kernel_rfl) (by kernel_rfl) (fun _ _ _ h => h) (Or.inr ⟨by rfl, rfl⟩) (by assumption) ?_) | fail
  try simp only [Act.put, List.getElem_toArray, List.getElem_cons_zero, List.getElem_cons_succ, List.setIfInBounds_toArray, List.set_cons_zero, List.set_cons_succ]
  refine wpAnyH_done (by kernel_rfl) ?_ _
  have hbE := (by assumption : _ ∧ _ ∧ _ ∧ _ ∧ _ ∧ _ ∧ _ ∧ _ ∧ _ ∧ _ ∧ Below _ _ _).2.2.2.2.2.2.2.2.2.2
  have RE := R6.below hbE R6.lt
  have SE := S6.below hbE S6.lt
  have r0 := RE.cell 0 _ rfl
  have r1 := RE.cell 1 _ rfl
  have f0 := RE.frozen 0
  have f1 := RE.frozen 1
  have s0 := SE.cell 0 _ rfl
  have s1 := SE.cell 1 _ rfl
  have hBE := hB6.trans (hbE.mono hB6.size)
  go_wp2_with fail
  exact bodyPost_ret (v := .tuple #[.agg #[.int .i64 0, .int .u64 0], .int .i64 26]) (by simp [results, go_sem, Try.results14, r0, r1]) rfl ⟨rfl, (hBE.setCell (by simp) _).setCell (by simp) _⟩
theorem sDec_high (l1 l2 l3 l4 l5 l6 : Int) (w : World) (h1 : 0 ≤ l1 ∧ l1 ≤ 18446744073709551615) (h2 : 0 ≤ l2 ∧ l2 ≤ 18446744073709551615) (h3 : 0 ≤ l3 ∧ l3 ≤ 18446744073709551615) (h4 : 0 ≤ l4 ∧ l4 ≤ 18446744073709551615) (h5 : 0 ≤ l5 ∧ l5 ≤ 18446744073709551615) (h6 : 0 ≤ l6 ∧ l6 ≤ 18446744073709551615) (g1 : 256 < l2) (g2 : l2 ≤ 1073741824) :
    Calls Try.prog 14 #[.agg #[.int .u64 8390047168116913201, .int .u64 l1, .int .u64 l2, .int .u64 l3, .int .u64 l4, .int .u64 l5, .int .u64 l6, .int .u64 (Su.sum7 l1 l2 l3 l4 l5 l6)]] w fun e w' => e = .returned (.tuple #[.agg #[.int .i64 0, .int .u64 0], .int .i64 26]) ∧ Below w.heap.size w w' := by
  have hwf := Lib.hid (row7_wf 8390047168116913201 l1 l2 l3 l4 l5 l6 (by omega) h1 h2 h3 h4 h5 h6)
  have hsb := Su.sum7_bd l1 l2 l3 l4 l5 l6
  have hsw : IntKind.u64.wrap (Su.sum7 l1 l2 l3 l4 l5 l6) = Su.sum7 l1 l2 l3 l4 l5 l6 := by rw [IntKind.wrap_u64]; omega
  have hrb := Su.rightB_no l2 (.inr g1)
  have X := Lib.hid ((Blk.new w #[.int .u64 8390047168116913201, .int .u64 l1, .int .u64 l2, .int .u64 l3, .int .u64 l4, .int .u64 l5, .int .u64 l6, .int .u64 (Su.sum7 l1 l2 l3 l4 l5 l6)] 23).alloc (.cells #[.int .i64 0, .int .u64 0] 27))
  have R := Lib.hid (Blk.new1 w (.cells #[.int .u64 8390047168116913201, .int .u64 l1, .int .u64 l2, .int .u64 l3, .int .u64 l4, .int .u64 l5, .int .u64 l6, .int .u64 (Su.sum7 l1 l2 l3 l4 l5 l6)] 23) #[.int .i64 0, .int .u64 0] 27)
  have hB : Below w.heap.size w ((w.alloc (.cells #[.int .u64 8390047168116913201, .int .u64 l1, .int .u64 l2, .int .u64 l3, .int .u64 l4, .int .u64 l5, .int .u64 l6, .int .u64 (Su.sum7 l1 l2 l3 l4 l5 l6)] 23)).alloc (.cells #[.int .i64 0, .int .u64 0] 27)) := ((Below.refl _ _).alloc (Nat.le_refl _) _).alloc (by simp) _
  generalize hZ : ((w.alloc (.cells #[.int .u64 8390047168116913201, .int .u64 l1, .int .u64 l2, .int .u64 l3, .int .u64 l4, .int .u64 l5, .int .u64 l6, .int .u64 (Su.sum7 l1 l2 l3 l4 l5 l6)] 23)).alloc (.cells #[.int .i64 0, .int .u64 0] 27)) = Z at *
  have x0 := X.out.cell 0 _ rfl
  have x7 := X.out.cell 7 _ rfl
  go_enter Try.func14, Try.ntmps14
  go_wp2_with fail
  go_region_held3 (fun W => W.cell? ⟨w.heap.size, 7, none⟩ = some (.int .u64 (Su.sum7 l1 l2 l3 l4 l5 l6)) ∧ Below Z.heap.size Z W)
    (first | assumption | exact ⟨x7, (Below.refl _ _).drew⟩)
    (first
      | (go_at_call 51; refine (crcWords_any _ 7 8 [8390047168116913201, l1, l2, l3, l4, l5, l6] _ _ ((RowAt.of_blk X.out 7 (by simp)).below (by assumption : _ ∧ Below _ _ _).2) hwf.out (by omega) (by assumption : _ ∧ Below _ _ _).2.size).mono ?_; rintro e w5 ⟨rfl, hb5⟩; rw [show Cr.more 0 (By.bytes [8390047168116913201, l1, l2, l3, l4, l5, l6]) = Su.sum7 l1 l2 l3 l4 l5 l6 from rfl]; have hS := (by assumption : _ ∧ Below _ _ _); have hS' := And.intro ((hb5.cell (cell_lt hS.1)).trans hS.1) (hS.2.trans (hb5.mono hS.2.size))))
  have hS' := (by assumption : _ ∧ Below _ _ _)
  have R5 := R.out.below hS'.2 R.out.lt
  have X5 := X.out.below hS'.2 X.out.lt
  have x2 := X5.cell 2 _ rfl
  have x3 := X5.cell 3 _ rfl
  have hB5 := hB.trans (hS'.2.mono hB.size)
  have R6 := R5.alloc (.cells #[.int .i64 l2, .int .u64 l3] 27)
  have X6 := X5.alloc (.cells #[.int .i64 l2, .int .u64 l3] 27)
  have S6 := Blk.new w5 #[.int .i64 l2, .int .u64 l3] 27
  have hB6 := hB5.alloc hB5.size (.cells #[.int .i64 l2, .int .u64 l3] 27)
  have s10' := s10 X6 S6 (Below.refl _ _).drew
  clear x0 x7 hS' hB5
  go_wp2_with fail
  refine wp_region_held_drew (S := fun W => W.cell? ⟨w5.heap.size, 0, none⟩ = some (.int .i64 l2) ∧ W.cell? ⟨w5.heap.size, 1, none⟩ = some (.int .u64 l3) ∧ W.cell? ⟨w.heap.size, 0, none⟩ = some (.int .u64 8390047168116913201) ∧ W.cell? ⟨w.heap.size, 1, none⟩ = some (.int .u64 l1) ∧ W.cell? ⟨w.heap.size, 2, none⟩ = some (.int .u64 l2) ∧ W.cell? ⟨w.heap.size, 3, none⟩ = some (.int .u64 l3) ∧ W.cell? ⟨w.heap.size, 4, none⟩ = some (.int .u64 l4) ∧ W.cell? ⟨w.heap.size, 5, none⟩ = some (.int .u64 l5) ∧ W.cell? ⟨w.heap.size, 6, none⟩ = some (.int .u64 l6) ∧ W.cell? ⟨w.heap.size, 7, none⟩ = some (.int .u64 (Su.sum7 l1 l2 l3 l4 l5 l6)) ∧ Below (w5.alloc (.cells #[.int .i64 l2, .int .u64 l3] 27)).heap.size (w5.alloc (.cells #[.int .i64 l2, .int .u64 l3] 27)) W) (by kernel_rfl) ?_ (fun hHeld => ?_)
  · (try dsimp only)
    (first | assumption | exact s10')
  first | (refine wpAnyH_take (i := 0) (v := ?_) rfl (by kernel_rfl) (by kernel_rfl) (by kernel_rfl) (fun _ _ _ h => h) (Or.inl ⟨by rfl, ?_⟩) (by assumption) ?_; rotate_left; (focus (intro w hSw; (try dsimp only at hSw); go_simp; first | done | with_reducible rfl))) | (refine wpAnyH_take (i := 0) rfl (by kernel_rfl) (by kernel_rfl) (by kernel_rfl) (fun _ _ _ h => h) (Or.inr ⟨by rfl, rfl⟩) (by assumption) ?_) | fail
  try simp only [Act.put, List.getElem_toArray, List.getElem_cons_zero, List.getElem_cons_succ, List.setIfInBounds_toArray, List.set_cons_zero, List.set_cons_succ]
  first | (refine wpAnyH_take (i := 1) (v := ?_) rfl (by kernel_rfl) (by kernel_rfl) (by kernel_rfl) (fun _ _ _ h => h) (Or.inl ⟨by rfl, ?_⟩) (by assumption) ?_; rotate_left; (focus (intro w hSw; (try dsimp only at hSw); go_simp; first | done | with_reducible rfl))) | (refine wpAnyH_take (i := 1) rfl (by kernel_rfl) (by kernel_rfl) (by kernel_rfl) (fun _ _ _ h => h) (Or.inr ⟨by rfl, rfl⟩) (by assumption) ?_) | fail
  try simp only [Act.put, List.getElem_toArray, List.getElem_cons_zero, List.getElem_cons_succ, List.setIfInBounds_toArray, List.set_cons_zero, List.set_cons_succ]
  first | (refine wpAnyH_take (i := 2) (v := ?_) rfl (by kernel_rfl) (by kernel_rfl) (by kernel_rfl) (fun _ _ _ h => h) (Or.inl ⟨by rfl, ?_⟩) (by assumption) ?_; rotate_left; (focus (intro w hSw; (try dsimp only at hSw); go_simp; first | done | with_reducible rfl))) | (refine wpAnyH_take (i := 2) rfl (by kernel_rfl) (by kernel_rfl) (by kernel_rfl) (fun _ _ _ h => h) (Or.inr ⟨by rfl, rfl⟩) (by assumption) ?_) | fail
  try simp only [Act.put, List.getElem_toArray, List.getElem_cons_zero, List.getElem_cons_succ, List.setIfInBounds_toArray, List.set_cons_zero, List.set_cons_succ]
  refine wpAnyH_ready (rs := [3]) (by kernel_rfl) (by simp) (AllReadyH.cons rfl (fun K hK => ?_) AllReadyH.nil)
  (try go_simp)
  have hS := (by assumption : _ ∧ _ ∧ _ ∧ _ ∧ _ ∧ _ ∧ _ ∧ _ ∧ _ ∧ _ ∧ Below _ _ _).2.2.2.2.2.2.2.2.2.2
  refine (gRight_any _ _ (by omega) (by omega)).mono ?_
  rintro e w7 ⟨rfl, hb7⟩
  have hb7' := hS.trans (hb7.mono hS.size)
  have hS' := s10 X6 S6 hb7'
  clear hb7 hS
  refine hK.out _ _ ?_ (fun hHeld => ?_)
  · (try dsimp only)
    (first | assumption | exact s10')
  clear hK K
  try simp only [Act.put, List.getElem_toArray, List.getElem_cons_zero, List.getElem_cons_succ, List.setIfInBounds_toArray, List.set_cons_zero, List.set_cons_succ]
  first | (refine wpAnyH_take (i := 4) (v := ?_) rfl (by kernel_rfl) (by kernel_rfl) (by kernel_rfl) (fun _ _ _ h => h) (Or.inl ⟨by rfl, ?_⟩) (by assumption) ?_; rotate_left; (focus (intro w hSw; (try dsimp only at hSw); go_simp; first | done | with_reducible rfl))) | (refine wpAnyH_take (i := 4) rfl (by kernel_rfl) (by kernel_rfl) (by kernel_rfl) (fun _ _ _ h => h) (Or.inr ⟨by rfl, rfl⟩) (by assumption) ?_) | fail
  try simp only [Act.put, List.getElem_toArray, List.getElem_cons_zero, List.getElem_cons_succ, List.setIfInBounds_toArray, List.set_cons_zero, List.set_cons_succ]
  first | (refine wpAnyH_take (i := 5) (v := ?_) rfl (by kernel_rfl) (by kernel_rfl) (by kernel_rfl) (fun _ _ _ h => h) (Or.inl ⟨by rfl, ?_⟩) (by assumption) ?_; rotate_left; (focus (intro w hSw; (try dsimp only at hSw); go_simp; first | done | with_reducible rfl))) | (refine wpAnyH_take (i := 5) rfl (by kernel_rfl) (by kernel_rfl) (by kernel_rfl) (fun _ _ _ h => h) (Or.inr ⟨by rfl, rfl⟩) (by assumption) ?_) | fail
  try simp only [Act.put, List.getElem_toArray, List.getElem_cons_zero, List.getElem_cons_succ, List.setIfInBounds_toArray, List.set_cons_zero, List.set_cons_succ]
  first | (refine wpAnyH_take (i := 6) rfl (by kernel_rfl) (by kernel_rfl) (by kernel_rfl) (fun _ _ _ h => h) (Or.inr ⟨by rfl, rfl⟩) (by assumption) ?_) | (refine wpAnyH_take (i := 6) (v := ?_) rfl (by kernel_rfl) (by kernel_rfl) (by kernel_rfl) (fun _ _ _ h => h) (Or.inl ⟨by rfl, ?_⟩) (by assumption) ?_; rotate_left; (focus (intro w hSw; (try dsimp only at hSw); go_simp; first | done | with_reducible rfl))) | fail
  try simp only [Act.put, List.getElem_toArray, List.getElem_cons_zero, List.getElem_cons_succ, List.setIfInBounds_toArray, List.set_cons_zero, List.set_cons_succ]
  first | (refine wpAnyH_take (i := 7) rfl (by kernel_rfl) (by kernel_rfl) (by kernel_rfl) (fun _ _ _ h => h) (Or.inr ⟨by rfl, rfl⟩) (by assumption) ?_) | (refine wpAnyH_take (i := 7) (v := ?_) rfl (by kernel_rfl) (by kernel_rfl) (by kernel_rfl) (fun _ _ _ h => h) (Or.inl ⟨by rfl, ?_⟩) (by assumption) ?_; rotate_left; (focus (intro w hSw; (try dsimp only at hSw); go_simp; first | done | with_reducible rfl))) | fail
  try simp only [Act.put, List.getElem_toArray, List.getElem_cons_zero, List.getElem_cons_succ, List.setIfInBounds_toArray, List.set_cons_zero, List.set_cons_succ]
  first | (refine wpAnyH_take (i := 8) rfl (by kernel_rfl) (by kernel_rfl) (by kernel_rfl) (fun _ _ _ h => h) (Or.inr ⟨by rfl, rfl⟩) (by assumption) ?_) | (refine wpAnyH_take (i := 8) (v := ?_) rfl (by kernel_rfl) (by kernel_rfl) (by kernel_rfl) (fun _ _ _ h => h) (Or.inl ⟨by rfl, ?_⟩) (by assumption) ?_; rotate_left; (focus (intro w hSw; (try dsimp only at hSw); go_simp; first | done | with_reducible rfl))) | fail
  try simp only [Act.put, List.getElem_toArray, List.getElem_cons_zero, List.getElem_cons_succ, List.setIfInBounds_toArray, List.set_cons_zero, List.set_cons_succ]
  first | (refine wpAnyH_take (i := 9) rfl (by kernel_rfl) (by kernel_rfl) (by kernel_rfl) (fun _ _ _ h => h) (Or.inr ⟨by rfl, rfl⟩) (by assumption) ?_) | (refine wpAnyH_take (i := 9) (v := ?_) rfl (by kernel_rfl) (by kernel_rfl) (by kernel_rfl) (fun _ _ _ h => h) (Or.inl ⟨by rfl, ?_⟩) (by assumption) ?_; rotate_left; (focus (intro w hSw; (try dsimp only at hSw); go_simp; first | done | with_reducible rfl))) | fail
  try simp only [Act.put, List.getElem_toArray, List.getElem_cons_zero, List.getElem_cons_succ, List.setIfInBounds_toArray, List.set_cons_zero, List.set_cons_succ]
  first | (refine wpAnyH_take (i := 10) (v := ?_) rfl (by kernel_rfl) (by kernel_rfl) (by kernel_rfl) (fun _ _ _ h => h) (Or.inl ⟨by rfl, ?_⟩) (by assumption) ?_; rotate_left; (focus (intro w hSw; (try dsimp only at hSw); go_simp; first | done | with_reducible rfl))) | (refine wpAnyH_take (i := 10) rfl (by kernel_rfl) (by kernel_rfl) (by kernel_rfl) (fun _ _ _ h => h) (Or.inr ⟨by rfl, rfl⟩) (by assumption) ?_) | fail
  try simp only [Act.put, List.getElem_toArray, List.getElem_cons_zero, List.getElem_cons_succ, List.setIfInBounds_toArray, List.set_cons_zero, List.set_cons_succ]
  refine wpAnyH_done (by kernel_rfl) ?_ _
  have hbE := (by assumption : _ ∧ _ ∧ _ ∧ _ ∧ _ ∧ _ ∧ _ ∧ _ ∧ _ ∧ _ ∧ Below _ _ _).2.2.2.2.2.2.2.2.2.2
  have RE := R6.below hbE R6.lt
  have SE := S6.below hbE S6.lt
  have r0 := RE.cell 0 _ rfl
  have r1 := RE.cell 1 _ rfl
  have f0 := RE.frozen 0
  have f1 := RE.frozen 1
  have s0 := SE.cell 0 _ rfl
  have s1 := SE.cell 1 _ rfl
  have hBE := hB6.trans (hbE.mono hB6.size)
  go_wp2_with fail
  exact bodyPost_ret (v := .tuple #[.agg #[.int .i64 0, .int .u64 0], .int .i64 26]) (by simp [results, go_sem, Try.results14, r0, r1]) rfl ⟨rfl, (hBE.setCell (by simp) _).setCell (by simp) _⟩
theorem sDec_huge (l1 l2 l3 l4 l5 l6 : Int) (w : World) (h1 : 0 ≤ l1 ∧ l1 ≤ 18446744073709551615) (h2 : 0 ≤ l2 ∧ l2 ≤ 18446744073709551615) (h3 : 0 ≤ l3 ∧ l3 ≤ 18446744073709551615) (h4 : 0 ≤ l4 ∧ l4 ≤ 18446744073709551615) (h5 : 0 ≤ l5 ∧ l5 ≤ 18446744073709551615) (h6 : 0 ≤ l6 ∧ l6 ≤ 18446744073709551615) (g1 : 1073741824 < l2) :
    Calls Try.prog 14 #[.agg #[.int .u64 8390047168116913201, .int .u64 l1, .int .u64 l2, .int .u64 l3, .int .u64 l4, .int .u64 l5, .int .u64 l6, .int .u64 (Su.sum7 l1 l2 l3 l4 l5 l6)]] w fun e w' => e = .returned (.tuple #[.agg #[.int .i64 0, .int .u64 0], .int .i64 26]) ∧ Below w.heap.size w w' := by
  have hwf := Lib.hid (row7_wf 8390047168116913201 l1 l2 l3 l4 l5 l6 (by omega) h1 h2 h3 h4 h5 h6)
  have hsb := Su.sum7_bd l1 l2 l3 l4 l5 l6
  have hsw : IntKind.u64.wrap (Su.sum7 l1 l2 l3 l4 l5 l6) = Su.sum7 l1 l2 l3 l4 l5 l6 := by rw [IntKind.wrap_u64]; omega
  have hrb := Su.rightB_no 1073741824 (.inr (by omega))
  have X := Lib.hid ((Blk.new w #[.int .u64 8390047168116913201, .int .u64 l1, .int .u64 l2, .int .u64 l3, .int .u64 l4, .int .u64 l5, .int .u64 l6, .int .u64 (Su.sum7 l1 l2 l3 l4 l5 l6)] 23).alloc (.cells #[.int .i64 0, .int .u64 0] 27))
  have R := Lib.hid (Blk.new1 w (.cells #[.int .u64 8390047168116913201, .int .u64 l1, .int .u64 l2, .int .u64 l3, .int .u64 l4, .int .u64 l5, .int .u64 l6, .int .u64 (Su.sum7 l1 l2 l3 l4 l5 l6)] 23) #[.int .i64 0, .int .u64 0] 27)
  have hB : Below w.heap.size w ((w.alloc (.cells #[.int .u64 8390047168116913201, .int .u64 l1, .int .u64 l2, .int .u64 l3, .int .u64 l4, .int .u64 l5, .int .u64 l6, .int .u64 (Su.sum7 l1 l2 l3 l4 l5 l6)] 23)).alloc (.cells #[.int .i64 0, .int .u64 0] 27)) := ((Below.refl _ _).alloc (Nat.le_refl _) _).alloc (by simp) _
  generalize hZ : ((w.alloc (.cells #[.int .u64 8390047168116913201, .int .u64 l1, .int .u64 l2, .int .u64 l3, .int .u64 l4, .int .u64 l5, .int .u64 l6, .int .u64 (Su.sum7 l1 l2 l3 l4 l5 l6)] 23)).alloc (.cells #[.int .i64 0, .int .u64 0] 27)) = Z at *
  have x0 := X.out.cell 0 _ rfl
  have x7 := X.out.cell 7 _ rfl
  go_enter Try.func14, Try.ntmps14
  go_wp2_with fail
  go_region_held3 (fun W => W.cell? ⟨w.heap.size, 7, none⟩ = some (.int .u64 (Su.sum7 l1 l2 l3 l4 l5 l6)) ∧ Below Z.heap.size Z W)
    (first | assumption | exact ⟨x7, (Below.refl _ _).drew⟩)
    (first
      | (go_at_call 51; refine (crcWords_any _ 7 8 [8390047168116913201, l1, l2, l3, l4, l5, l6] _ _ ((RowAt.of_blk X.out 7 (by simp)).below (by assumption : _ ∧ Below _ _ _).2) hwf.out (by omega) (by assumption : _ ∧ Below _ _ _).2.size).mono ?_; rintro e w5 ⟨rfl, hb5⟩; rw [show Cr.more 0 (By.bytes [8390047168116913201, l1, l2, l3, l4, l5, l6]) = Su.sum7 l1 l2 l3 l4 l5 l6 from rfl]; have hS := (by assumption : _ ∧ Below _ _ _); have hS' := And.intro ((hb5.cell (cell_lt hS.1)).trans hS.1) (hS.2.trans (hb5.mono hS.2.size))))
  have hS' := (by assumption : _ ∧ Below _ _ _)
  have R5 := R.out.below hS'.2 R.out.lt
  have X5 := X.out.below hS'.2 X.out.lt
  have x2 := X5.cell 2 _ rfl
  have x3 := X5.cell 3 _ rfl
  have hB5 := hB.trans (hS'.2.mono hB.size)
  have R6 := R5.alloc (.cells #[.int .i64 1073741824, .int .u64 l3] 27)
  have X6 := X5.alloc (.cells #[.int .i64 1073741824, .int .u64 l3] 27)
  have S6 := Blk.new w5 #[.int .i64 1073741824, .int .u64 l3] 27
  have hB6 := hB5.alloc hB5.size (.cells #[.int .i64 1073741824, .int .u64 l3] 27)
  have s10' := s10 X6 S6 (Below.refl _ _).drew
  clear x0 x7 hS' hB5
  go_wp2_with fail
  refine wp_region_held_drew (S := fun W => W.cell? ⟨w5.heap.size, 0, none⟩ = some (.int .i64 1073741824) ∧ W.cell? ⟨w5.heap.size, 1, none⟩ = some (.int .u64 l3) ∧ W.cell? ⟨w.heap.size, 0, none⟩ = some (.int .u64 8390047168116913201) ∧ W.cell? ⟨w.heap.size, 1, none⟩ = some (.int .u64 l1) ∧ W.cell? ⟨w.heap.size, 2, none⟩ = some (.int .u64 l2) ∧ W.cell? ⟨w.heap.size, 3, none⟩ = some (.int .u64 l3) ∧ W.cell? ⟨w.heap.size, 4, none⟩ = some (.int .u64 l4) ∧ W.cell? ⟨w.heap.size, 5, none⟩ = some (.int .u64 l5) ∧ W.cell? ⟨w.heap.size, 6, none⟩ = some (.int .u64 l6) ∧ W.cell? ⟨w.heap.size, 7, none⟩ = some (.int .u64 (Su.sum7 l1 l2 l3 l4 l5 l6)) ∧ Below (w5.alloc (.cells #[.int .i64 1073741824, .int .u64 l3] 27)).heap.size (w5.alloc (.cells #[.int .i64 1073741824, .int .u64 l3] 27)) W) (by kernel_rfl) ?_ (fun hHeld => ?_)
  · (try dsimp only)
    (first | assumption | exact s10')
  first | (refine wpAnyH_take (i := 0) (v := ?_) rfl (by kernel_rfl) (by kernel_rfl) (by kernel_rfl) (fun _ _ _ h => h) (Or.inl ⟨by rfl, ?_⟩) (by assumption) ?_; rotate_left; (focus (intro w hSw; (try dsimp only at hSw); go_simp; first | done | with_reducible rfl))) | (refine wpAnyH_take (i := 0) rfl (by kernel_rfl) (by kernel_rfl) (by kernel_rfl) (fun _ _ _ h => h) (Or.inr ⟨by rfl, rfl⟩) (by assumption) ?_) | fail
  try simp only [Act.put, List.getElem_toArray, List.getElem_cons_zero, List.getElem_cons_succ, List.setIfInBounds_toArray, List.set_cons_zero, List.set_cons_succ]
  first | (refine wpAnyH_take (i := 1) (v := ?_) rfl (by kernel_rfl) (by kernel_rfl) (by kernel_rfl) (fun _ _ _ h => h) (Or.inl ⟨by rfl, ?_⟩) (by assumption) ?_; rotate_left; (focus (intro w hSw; (try dsimp only at hSw); go_simp; first | done | with_reducible rfl))) | (refine wpAnyH_take (i := 1) rfl (by kernel_rfl) (by kernel_rfl) (by kernel_rfl) (fun _ _ _ h => h) (Or.inr ⟨by rfl, rfl⟩) (by assumption) ?_) | fail
  try simp only [Act.put, List.getElem_toArray, List.getElem_cons_zero, List.getElem_cons_succ, List.setIfInBounds_toArray, List.set_cons_zero, List.set_cons_succ]
  first | (refine wpAnyH_take (i := 2) (v := ?_) rfl (by kernel_rfl) (by kernel_rfl) (by kernel_rfl) (fun _ _ _ h => h) (Or.inl ⟨by rfl, ?_⟩) (by assumption) ?_; rotate_left; (focus (intro w hSw; (try dsimp only at hSw); go_simp; first | done | with_reducible rfl))) | (refine wpAnyH_take (i := 2) rfl (by kernel_rfl) (by kernel_rfl) (by kernel_rfl) (fun _ _ _ h => h) (Or.inr ⟨by rfl, rfl⟩) (by assumption) ?_) | fail
  try simp only [Act.put, List.getElem_toArray, List.getElem_cons_zero, List.getElem_cons_succ, List.setIfInBounds_toArray, List.set_cons_zero, List.set_cons_succ]
  refine wpAnyH_ready (rs := [3]) (by kernel_rfl) (by simp) (AllReadyH.cons rfl (fun K hK => ?_) AllReadyH.nil)
  (try go_simp)
  have hS := (by assumption : _ ∧ _ ∧ _ ∧ _ ∧ _ ∧ _ ∧ _ ∧ _ ∧ _ ∧ _ ∧ Below _ _ _).2.2.2.2.2.2.2.2.2.2
  refine (gRight_any _ _ (by omega) (by omega)).mono ?_
  rintro e w7 ⟨rfl, hb7⟩
  have hb7' := hS.trans (hb7.mono hS.size)
  have hS' := s10 X6 S6 hb7'
  clear hb7 hS
  refine hK.out _ _ ?_ (fun hHeld => ?_)
  · (try dsimp only)
    (first | assumption | exact s10')
  clear hK K
  try simp only [Act.put, List.getElem_toArray, List.getElem_cons_zero, List.getElem_cons_succ, List.setIfInBounds_toArray, List.set_cons_zero, List.set_cons_succ]
  first | (refine wpAnyH_take (i := 4) (v := ?_) rfl (by kernel_rfl) (by kernel_rfl) (by kernel_rfl) (fun _ _ _ h => h) (Or.inl ⟨by rfl, ?_⟩) (by assumption) ?_; rotate_left; (focus (intro w hSw; (try dsimp only at hSw); go_simp; first | done | with_reducible rfl))) | (refine wpAnyH_take (i := 4) rfl (by kernel_rfl) (by kernel_rfl) (by kernel_rfl) (fun _ _ _ h => h) (Or.inr ⟨by rfl, rfl⟩) (by assumption) ?_) | fail
  try simp only [Act.put, List.getElem_toArray, List.getElem_cons_zero, List.getElem_cons_succ, List.setIfInBounds_toArray, List.set_cons_zero, List.set_cons_succ]
  first | (refine wpAnyH_take (i := 5) (v := ?_) rfl (by kernel_rfl) (by kernel_rfl) (by kernel_rfl) (fun _ _ _ h => h) (Or.inl ⟨by rfl, ?_⟩) (by assumption) ?_; rotate_left; (focus (intro w hSw; (try dsimp only at hSw); go_simp; first | done | with_reducible rfl))) | (refine wpAnyH_take (i := 5) rfl (by kernel_rfl) (by kernel_rfl) (by kernel_rfl) (fun _ _ _ h => h) (Or.inr ⟨by rfl, rfl⟩) (by assumption) ?_) | fail
  try simp only [Act.put, List.getElem_toArray, List.getElem_cons_zero, List.getElem_cons_succ, List.setIfInBounds_toArray, List.set_cons_zero, List.set_cons_succ]
  first | (refine wpAnyH_take (i := 6) rfl (by kernel_rfl) (by kernel_rfl) (by kernel_rfl) (fun _ _ _ h => h) (Or.inr ⟨by rfl, rfl⟩) (by assumption) ?_) | (refine wpAnyH_take (i := 6) (v := ?_) rfl (by kernel_rfl) (by kernel_rfl) (by kernel_rfl) (fun _ _ _ h => h) (Or.inl ⟨by rfl, ?_⟩) (by assumption) ?_; rotate_left; (focus (intro w hSw; (try dsimp only at hSw); go_simp; first | done | with_reducible rfl))) | fail
  try simp only [Act.put, List.getElem_toArray, List.getElem_cons_zero, List.getElem_cons_succ, List.setIfInBounds_toArray, List.set_cons_zero, List.set_cons_succ]
  first | (refine wpAnyH_take (i := 7) rfl (by kernel_rfl) (by kernel_rfl) (by kernel_rfl) (fun _ _ _ h => h) (Or.inr ⟨by rfl, rfl⟩) (by assumption) ?_) | (refine wpAnyH_take (i := 7) (v := ?_) rfl (by kernel_rfl) (by kernel_rfl) (by kernel_rfl) (fun _ _ _ h => h) (Or.inl ⟨by rfl, ?_⟩) (by assumption) ?_; rotate_left; (focus (intro w hSw; (try dsimp only at hSw); go_simp; first | done | with_reducible rfl))) | fail
  try simp only [Act.put, List.getElem_toArray, List.getElem_cons_zero, List.getElem_cons_succ, List.setIfInBounds_toArray, List.set_cons_zero, List.set_cons_succ]
  first | (refine wpAnyH_take (i := 8) rfl (by kernel_rfl) (by kernel_rfl) (by kernel_rfl) (fun _ _ _ h => h) (Or.inr ⟨by rfl, rfl⟩) (by assumption) ?_) | (refine wpAnyH_take (i := 8) (v := ?_) rfl (by kernel_rfl) (by kernel_rfl) (by kernel_rfl) (fun _ _ _ h => h) (Or.inl ⟨by rfl, ?_⟩) (by assumption) ?_; rotate_left; (focus (intro w hSw; (try dsimp only at hSw); go_simp; first | done | with_reducible rfl))) | fail
  try simp only [Act.put, List.getElem_toArray, List.getElem_cons_zero, List.getElem_cons_succ, List.setIfInBounds_toArray, List.set_cons_zero, List.set_cons_succ]
  first | (refine wpAnyH_take (i := 9) rfl (by kernel_rfl) (by kernel_rfl) (by kernel_rfl) (fun _ _ _ h => h) (Or.inr ⟨by rfl, rfl⟩) (by assumption) ?_) | (refine wpAnyH_take (i := 9) (v := ?_) rfl (by kernel_rfl) (by kernel_rfl) (by kernel_rfl) (fun _ _ _ h => h) (Or.inl ⟨by rfl, ?_⟩) (by assumption) ?_; rotate_left; (focus (intro w hSw; (try dsimp only at hSw); go_simp; first | done | with_reducible rfl))) | fail
  try simp only [Act.put, List.getElem_toArray, List.getElem_cons_zero, List.getElem_cons_succ, List.setIfInBounds_toArray, List.set_cons_zero, List.set_cons_succ]
  first | (refine wpAnyH_take (i := 10) (v := ?_) rfl (by kernel_rfl) (by kernel_rfl) (by kernel_rfl) (fun _ _ _ h => h) (Or.inl ⟨by rfl, ?_⟩) (by assumption) ?_; rotate_left; (focus (intro w hSw; (try dsimp only at hSw); go_simp; first | done | with_reducible rfl))) | (refine wpAnyH_take (i := 10) rfl (by kernel_rfl) (by kernel_rfl) (by kernel_rfl) (fun _ _ _ h => h) (Or.inr ⟨by rfl, rfl⟩) (by assumption) ?_) | fail
  try simp only [Act.put, List.getElem_toArray, List.getElem_cons_zero, List.getElem_cons_succ, List.setIfInBounds_toArray, List.set_cons_zero, List.set_cons_succ]
  refine wpAnyH_done (by kernel_rfl) ?_ _
  have hbE := (by assumption : _ ∧ _ ∧ _ ∧ _ ∧ _ ∧ _ ∧ _ ∧ _ ∧ _ ∧ _ ∧ Below _ _ _).2.2.2.2.2.2.2.2.2.2
  have RE := R6.below hbE R6.lt
  have SE := S6.below hbE S6.lt
  have r0 := RE.cell 0 _ rfl
  have r1 := RE.cell 1 _ rfl
  have f0 := RE.frozen 0
  have f1 := RE.frozen 1
  have s0 := SE.cell 0 _ rfl
  have s1 := SE.cell 1 _ rfl
  have hBE := hB6.trans (hbE.mono hB6.size)
  go_wp2_with fail
  exact bodyPost_ret (v := .tuple #[.agg #[.int .i64 0, .int .u64 0], .int .i64 26]) (by simp [results, go_sem, Try.results14, r0, r1]) rfl ⟨rfl, (hBE.setCell (by simp) _).setCell (by simp) _⟩
theorem sDec_not (l1 l2 l3 l4 l5 l6 : Int) (w : World) (h1 : 0 ≤ l1 ∧ l1 ≤ 18446744073709551615) (h2 : 0 ≤ l2 ∧ l2 ≤ 18446744073709551615) (h3 : 0 ≤ l3 ∧ l3 ≤ 18446744073709551615) (h4 : 0 ≤ l4 ∧ l4 ≤ 18446744073709551615) (h5 : 0 ≤ l5 ∧ l5 ≤ 18446744073709551615) (h6 : 0 ≤ l6 ∧ l6 ≤ 18446744073709551615) (g1 : 2 ≤ l2) (g2 : l2 ≤ 256) (g3 : ¬ Su.okB l1 l2 l4 l5 l6) :
    Calls Try.prog 14 #[.agg #[.int .u64 8390047168116913201, .int .u64 l1, .int .u64 l2, .int .u64 l3, .int .u64 l4, .int .u64 l5, .int .u64 l6, .int .u64 (Su.sum7 l1 l2 l3 l4 l5 l6)]] w fun e w' => e = .returned (.tuple #[.agg #[.int .i64 0, .int .u64 0], .int .i64 26]) ∧ Below w.heap.size w w' := by
  have hwf := Lib.hid (row7_wf 8390047168116913201 l1 l2 l3 l4 l5 l6 (by omega) h1 h2 h3 h4 h5 h6)
  have hsb := Su.sum7_bd l1 l2 l3 l4 l5 l6
  have hsw : IntKind.u64.wrap (Su.sum7 l1 l2 l3 l4 l5 l6) = Su.sum7 l1 l2 l3 l4 l5 l6 := by rw [IntKind.wrap_u64]; omega
  have hrb := Su.rightB_yes l2 g1 g2
  have hne : eqB [8390047168116913201, 1, l2, l3, 0, 0, 0, Su.crc l2 l3] [8390047168116913201, l1, l2, l3, l4, l5, l6, Su.sum7 l1 l2 l3 l4 l5 l6] = false := by
    apply eqB_no
    intro h
    simp only [List.cons.injEq] at h
    exact g3 ⟨h.2.1.symm, h.2.2.2.2.1.symm, h.2.2.2.2.2.1.symm, h.2.2.2.2.2.2.1.symm, g1, g2⟩
  have heq := line_eq [8390047168116913201, 1, l2, l3, 0, 0, 0, Su.crc l2 l3] [8390047168116913201, l1, l2, l3, l4, l5, l6, Su.sum7 l1 l2 l3 l4 l5 l6] rfl rfl
  rw [hne] at heq
  simp only [List.map_cons, List.map_nil] at heq
  clear g3 hne
  have X := Lib.hid ((Blk.new w #[.int .u64 8390047168116913201, .int .u64 l1, .int .u64 l2, .int .u64 l3, .int .u64 l4, .int .u64 l5, .int .u64 l6, .int .u64 (Su.sum7 l1 l2 l3 l4 l5 l6)] 23).alloc (.cells #[.int .i64 0, .int .u64 0] 27))
  have R := Lib.hid (Blk.new1 w (.cells #[.int .u64 8390047168116913201, .int .u64 l1, .int .u64 l2, .int .u64 l3, .int .u64 l4, .int .u64 l5, .int .u64 l6, .int .u64 (Su.sum7 l1 l2 l3 l4 l5 l6)] 23) #[.int .i64 0, .int .u64 0] 27)
  have hB : Below w.heap.size w ((w.alloc (.cells #[.int .u64 8390047168116913201, .int .u64 l1, .int .u64 l2, .int .u64 l3, .int .u64 l4, .int .u64 l5, .int .u64 l6, .int .u64 (Su.sum7 l1 l2 l3 l4 l5 l6)] 23)).alloc (.cells #[.int .i64 0, .int .u64 0] 27)) := ((Below.refl _ _).alloc (Nat.le_refl _) _).alloc (by simp) _
  generalize hZ : ((w.alloc (.cells #[.int .u64 8390047168116913201, .int .u64 l1, .int .u64 l2, .int .u64 l3, .int .u64 l4, .int .u64 l5, .int .u64 l6, .int .u64 (Su.sum7 l1 l2 l3 l4 l5 l6)] 23)).alloc (.cells #[.int .i64 0, .int .u64 0] 27)) = Z at *
  have x0 := X.out.cell 0 _ rfl
  have x7 := X.out.cell 7 _ rfl
  go_enter Try.func14, Try.ntmps14
  go_wp2_with fail
  go_region_held3 (fun W => W.cell? ⟨w.heap.size, 7, none⟩ = some (.int .u64 (Su.sum7 l1 l2 l3 l4 l5 l6)) ∧ Below Z.heap.size Z W)
    (first | assumption | exact ⟨x7, (Below.refl _ _).drew⟩)
    (first
      | (go_at_call 51; refine (crcWords_any _ 7 8 [8390047168116913201, l1, l2, l3, l4, l5, l6] _ _ ((RowAt.of_blk X.out 7 (by simp)).below (by assumption : _ ∧ Below _ _ _).2) hwf.out (by omega) (by assumption : _ ∧ Below _ _ _).2.size).mono ?_; rintro e w5 ⟨rfl, hb5⟩; rw [show Cr.more 0 (By.bytes [8390047168116913201, l1, l2, l3, l4, l5, l6]) = Su.sum7 l1 l2 l3 l4 l5 l6 from rfl]; have hS := (by assumption : _ ∧ Below _ _ _); have hS' := And.intro ((hb5.cell (cell_lt hS.1)).trans hS.1) (hS.2.trans (hb5.mono hS.2.size))))
  have hS' := (by assumption : _ ∧ Below _ _ _)
  have R5 := R.out.below hS'.2 R.out.lt
  have X5 := X.out.below hS'.2 X.out.lt
  have x2 := X5.cell 2 _ rfl
  have x3 := X5.cell 3 _ rfl
  have hB5 := hB.trans (hS'.2.mono hB.size)
  have R6 := R5.alloc (.cells #[.int .i64 l2, .int .u64 l3] 27)
  have X6 := X5.alloc (.cells #[.int .i64 l2, .int .u64 l3] 27)
  have S6 := Blk.new w5 #[.int .i64 l2, .int .u64 l3] 27
  have hB6 := hB5.alloc hB5.size (.cells #[.int .i64 l2, .int .u64 l3] 27)
  have s10' := s10 X6 S6 (Below.refl _ _).drew
  clear x0 x7 hS' hB5
  go_wp2_with fail
  refine wp_region_held_drew (S := fun W => W.cell? ⟨w5.heap.size, 0, none⟩ = some (.int .i64 l2) ∧ W.cell? ⟨w5.heap.size, 1, none⟩ = some (.int .u64 l3) ∧ W.cell? ⟨w.heap.size, 0, none⟩ = some (.int .u64 8390047168116913201) ∧ W.cell? ⟨w.heap.size, 1, none⟩ = some (.int .u64 l1) ∧ W.cell? ⟨w.heap.size, 2, none⟩ = some (.int .u64 l2) ∧ W.cell? ⟨w.heap.size, 3, none⟩ = some (.int .u64 l3) ∧ W.cell? ⟨w.heap.size, 4, none⟩ = some (.int .u64 l4) ∧ W.cell? ⟨w.heap.size, 5, none⟩ = some (.int .u64 l5) ∧ W.cell? ⟨w.heap.size, 6, none⟩ = some (.int .u64 l6) ∧ W.cell? ⟨w.heap.size, 7, none⟩ = some (.int .u64 (Su.sum7 l1 l2 l3 l4 l5 l6)) ∧ Below (w5.alloc (.cells #[.int .i64 l2, .int .u64 l3] 27)).heap.size (w5.alloc (.cells #[.int .i64 l2, .int .u64 l3] 27)) W) (by kernel_rfl) ?_ (fun hHeld => ?_)
  · (try dsimp only)
    (first | assumption | exact s10')
  first | (refine wpAnyH_take (i := 0) (v := ?_) rfl (by kernel_rfl) (by kernel_rfl) (by kernel_rfl) (fun _ _ _ h => h) (Or.inl ⟨by rfl, ?_⟩) (by assumption) ?_; rotate_left; (focus (intro w hSw; (try dsimp only at hSw); go_simp; first | done | with_reducible rfl))) | (refine wpAnyH_take (i := 0) rfl (by kernel_rfl) (by kernel_rfl) (by kernel_rfl) (fun _ _ _ h => h) (Or.inr ⟨by rfl, rfl⟩) (by assumption) ?_) | fail
  try simp only [Act.put, List.getElem_toArray, List.getElem_cons_zero, List.getElem_cons_succ, List.setIfInBounds_toArray, List.set_cons_zero, List.set_cons_succ]
  first | (refine wpAnyH_take (i := 1) (v := ?_) rfl (by kernel_rfl) (by kernel_rfl) (by kernel_rfl) (fun _ _ _ h => h) (Or.inl ⟨by rfl, ?_⟩) (by assumption) ?_; rotate_left; (focus (intro w hSw; (try dsimp only at hSw); go_simp; first | done | with_reducible rfl))) | (refine wpAnyH_take (i := 1) rfl (by kernel_rfl) (by kernel_rfl) (by kernel_rfl) (fun _ _ _ h => h) (Or.inr ⟨by rfl, rfl⟩) (by assumption) ?_) | fail
  try simp only [Act.put, List.getElem_toArray, List.getElem_cons_zero, List.getElem_cons_succ, List.setIfInBounds_toArray, List.set_cons_zero, List.set_cons_succ]
  first | (refine wpAnyH_take (i := 2) (v := ?_) rfl (by kernel_rfl) (by kernel_rfl) (by kernel_rfl) (fun _ _ _ h => h) (Or.inl ⟨by rfl, ?_⟩) (by assumption) ?_; rotate_left; (focus (intro w hSw; (try dsimp only at hSw); go_simp; first | done | with_reducible rfl))) | (refine wpAnyH_take (i := 2) rfl (by kernel_rfl) (by kernel_rfl) (by kernel_rfl) (fun _ _ _ h => h) (Or.inr ⟨by rfl, rfl⟩) (by assumption) ?_) | fail
  try simp only [Act.put, List.getElem_toArray, List.getElem_cons_zero, List.getElem_cons_succ, List.setIfInBounds_toArray, List.set_cons_zero, List.set_cons_succ]
  refine wpAnyH_ready (rs := [3]) (by kernel_rfl) (by simp) (AllReadyH.cons rfl (fun K hK => ?_) AllReadyH.nil)
  (try go_simp)
  have hS := (by assumption : _ ∧ _ ∧ _ ∧ _ ∧ _ ∧ _ ∧ _ ∧ _ ∧ _ ∧ _ ∧ Below _ _ _).2.2.2.2.2.2.2.2.2.2
  refine (gRight_any _ _ (by omega) (by omega)).mono ?_
  rintro e w7 ⟨rfl, hb7⟩
  have hb7' := hS.trans (hb7.mono hS.size)
  have hS' := s10 X6 S6 hb7'
  clear hb7 hS
  refine hK.out _ _ ?_ (fun hHeld => ?_)
  · (try dsimp only)
    (first | assumption | exact s10')
  clear hK K
  try simp only [Act.put, List.getElem_toArray, List.getElem_cons_zero, List.getElem_cons_succ, List.setIfInBounds_toArray, List.set_cons_zero, List.set_cons_succ]
  first | (refine wpAnyH_take (i := 4) (v := ?_) rfl (by kernel_rfl) (by kernel_rfl) (by kernel_rfl) (fun _ _ _ h => h) (Or.inl ⟨by rfl, ?_⟩) (by assumption) ?_; rotate_left; (focus (intro w hSw; (try dsimp only at hSw); go_simp; first | done | with_reducible rfl))) | (refine wpAnyH_take (i := 4) rfl (by kernel_rfl) (by kernel_rfl) (by kernel_rfl) (fun _ _ _ h => h) (Or.inr ⟨by rfl, rfl⟩) (by assumption) ?_) | fail
  try simp only [Act.put, List.getElem_toArray, List.getElem_cons_zero, List.getElem_cons_succ, List.setIfInBounds_toArray, List.set_cons_zero, List.set_cons_succ]
  first | (refine wpAnyH_take (i := 5) (v := ?_) rfl (by kernel_rfl) (by kernel_rfl) (by kernel_rfl) (fun _ _ _ h => h) (Or.inl ⟨by rfl, ?_⟩) (by assumption) ?_; rotate_left; (focus (intro w hSw; (try dsimp only at hSw); go_simp; first | done | with_reducible rfl))) | (refine wpAnyH_take (i := 5) rfl (by kernel_rfl) (by kernel_rfl) (by kernel_rfl) (fun _ _ _ h => h) (Or.inr ⟨by rfl, rfl⟩) (by assumption) ?_) | fail
  try simp only [Act.put, List.getElem_toArray, List.getElem_cons_zero, List.getElem_cons_succ, List.setIfInBounds_toArray, List.set_cons_zero, List.set_cons_succ]
  first | (refine wpAnyH_take (i := 6) (v := ?_) rfl (by kernel_rfl) (by kernel_rfl) (by kernel_rfl) (fun _ _ _ h => h) (Or.inl ⟨by rfl, ?_⟩) (by assumption) ?_; rotate_left; (focus (intro w hSw; (try dsimp only at hSw); go_simp; first | done | with_reducible rfl))) | (refine wpAnyH_take (i := 6) rfl (by kernel_rfl) (by kernel_rfl) (by kernel_rfl) (fun _ _ _ h => h) (Or.inr ⟨by rfl, rfl⟩) (by assumption) ?_) | fail
  try simp only [Act.put, List.getElem_toArray, List.getElem_cons_zero, List.getElem_cons_succ, List.setIfInBounds_toArray, List.set_cons_zero, List.set_cons_succ]
  first | (refine wpAnyH_take (i := 8) (v := ?_) rfl (by kernel_rfl) (by kernel_rfl) (by kernel_rfl) (fun _ _ _ h => h) (Or.inl ⟨by rfl, ?_⟩) (by assumption) ?_; rotate_left; (focus (intro w hSw; (try dsimp only at hSw); go_simp; first | done | with_reducible rfl))) | (refine wpAnyH_take (i := 8) rfl (by kernel_rfl) (by kernel_rfl) (by kernel_rfl) (fun _ _ _ h => h) (Or.inr ⟨by rfl, rfl⟩) (by assumption) ?_) | fail
  try simp only [Act.put, List.getElem_toArray, List.getElem_cons_zero, List.getElem_cons_succ, List.setIfInBounds_toArray, List.set_cons_zero, List.set_cons_succ]
  refine wpAnyH_ready (rs := [7]) (by kernel_rfl) (by simp) (AllReadyH.cons rfl (fun K hK => ?_) AllReadyH.nil)
  (try go_simp)
  refine (sEnc_any _ _ _ (by omega) (by omega) (by omega) (by omega)).mono ?_
  rintro e w8 ⟨rfl, hb8⟩
  have hb8' := hb7'.trans (hb8.mono hb7'.size)
  have hS' := s10 X6 S6 hb8'
  clear hb8
  refine hK.out _ _ ?_ (fun hHeld => ?_)
  · (try dsimp only)
    (first | assumption | exact s10')
  clear hK K
  try simp only [Act.put, List.getElem_toArray, List.getElem_cons_zero, List.getElem_cons_succ, List.setIfInBounds_toArray, List.set_cons_zero, List.set_cons_succ]
  first | (refine wpAnyH_take (i := 9) (v := ?_) rfl (by kernel_rfl) (by kernel_rfl) (by kernel_rfl) (fun _ _ _ h => h) (Or.inl ⟨by rfl, ?_⟩) (by assumption) ?_; rotate_left; (focus (intro w hSw; (try dsimp only at hSw); go_simp; first | done | with_reducible rfl))) | (refine wpAnyH_take (i := 9) rfl (by kernel_rfl) (by kernel_rfl) (by kernel_rfl) (fun _ _ _ h => h) (Or.inr ⟨by rfl, rfl⟩) (by assumption) ?_) | fail
  try simp only [Act.put, List.getElem_toArray, List.getElem_cons_zero, List.getElem_cons_succ, List.setIfInBounds_toArray, List.set_cons_zero, List.set_cons_succ]
  first | (refine wpAnyH_take (i := 10) (v := ?_) rfl (by kernel_rfl) (by kernel_rfl) (by kernel_rfl) (fun _ _ _ h => h) (Or.inl ⟨by rfl, ?_⟩) (by assumption) ?_; rotate_left; (focus (intro w hSw; (try dsimp only at hSw); go_simp; first | done | with_reducible rfl))) | (refine wpAnyH_take (i := 10) rfl (by kernel_rfl) (by kernel_rfl) (by kernel_rfl) (fun _ _ _ h => h) (Or.inr ⟨by rfl, rfl⟩) (by assumption) ?_) | fail
  try simp only [Act.put, List.getElem_toArray, List.getElem_cons_zero, List.getElem_cons_succ, List.setIfInBounds_toArray, List.set_cons_zero, List.set_cons_succ]
  refine wpAnyH_done (by kernel_rfl) ?_ _
  have hbE := (by assumption : _ ∧ _ ∧ _ ∧ _ ∧ _ ∧ _ ∧ _ ∧ _ ∧ _ ∧ _ ∧ Below _ _ _).2.2.2.2.2.2.2.2.2.2
  have RE := R6.below hbE R6.lt
  have SE := S6.below hbE S6.lt
  have r0 := RE.cell 0 _ rfl
  have r1 := RE.cell 1 _ rfl
  have f0 := RE.frozen 0
  have f1 := RE.frozen 1
  have s0 := SE.cell 0 _ rfl
  have s1 := SE.cell 1 _ rfl
  have hBE := hB6.trans (hbE.mono hB6.size)
  go_wp2_with fail
  exact bodyPost_ret (v := .tuple #[.agg #[.int .i64 0, .int .u64 0], .int .i64 26]) (by simp [results, go_sem, Try.results14, r0, r1]) rfl ⟨rfl, (hBE.setCell (by simp) _).setCell (by simp) _⟩
end Go.Proofs.Ytgcjagffoeoldaa
