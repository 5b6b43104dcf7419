/- What the reference's Decode makes of a line. -/
import Derived.Test.YtgcjagffoeoldaaSuper3
namespace Go.Proofs.Ytgcjagffoeoldaa
open Go.RowKit
set_option linter.unusedVariables false
set_option linter.unusedSimpArgs false
set_option maxHeartbeats 4000000
set_option maxRecDepth 100000
theorem ret_iui {a b c d e f : Int} (h : a = b) (h2 : c = d) (h3 : e = f) : Ending.returned (.tuple #[.int .i64 a, .int .u64 c, .int .i64 e]) = .returned (.tuple #[.int .i64 b, .int .u64 d, .int .i64 f]) := by rw [h, h2, h3]
theorem s8 {Z W : World} {x : Nat} {T : TypeId} {c0 c1 c2 c3 c4 c5 c6 c7 : Value} (X : Blk Z x #[c0, c1, c2, c3, c4, c5, c6, c7] T) (h : Below Z.heap.size Z W) :
    W.cell? ⟨x, 0, none⟩ = some c0 ∧ W.cell? ⟨x, 1, none⟩ = some c1 ∧ W.cell? ⟨x, 2, none⟩ = some c2 ∧ W.cell? ⟨x, 3, none⟩ = some c3 ∧ W.cell? ⟨x, 4, none⟩ = some c4 ∧ W.cell? ⟨x, 5, none⟩ = some c5 ∧ W.cell? ⟨x, 6, none⟩ = some c6 ∧ W.cell? ⟨x, 7, none⟩ = some c7 ∧ Below Z.heap.size Z W := by
  have X' := X.below h X.lt
  exact ⟨X'.cell 0 _ rfl, X'.cell 1 _ rfl, X'.cell 2 _ rfl, X'.cell 3 _ rfl, X'.cell 4 _ rfl, X'.cell 5 _ rfl, X'.cell 6 _ rfl, X'.cell 7 _ rfl, h⟩
theorem rsDec_magic (l0 l1 l2 l3 l4 l5 l6 l7 : Int) (w : World) (h : l0 ≠ 8390047168116913201) :
    Calls Try.prog 15 #[.agg #[.int .u64 l0, .int .u64 l1, .int .u64 l2, .int .u64 l3, .int .u64 l4, .int .u64 l5, .int .u64 l6, .int .u64 l7]] w fun e w' => e = .returned (.tuple #[.int .i64 0, .int .u64 0, .int .i64 24]) ∧ Below w.heap.size w w' := by
  have d0 : (l0 != 8390047168116913201) = true := by rw [bne_iff_ne]; exact h
  clear h
  go_enter Try.func15, Try.ntmps15
  go_wp2_with fail
  go_ret3
  exact ⟨rfl, (Below.refl _ _).alloc (Nat.le_refl _) _⟩
theorem rsDec_sum (l1 l2 l3 l4 l5 l6 l7 : Int) (w : World) (h1 : 0 ≤ l1 ∧ l1 ≤ 18446744073709551615) (h2 : 0 ≤ l2 ∧ l2 ≤ 18446744073709551615) (h3 : 0 ≤ l3 ∧ l3 ≤ 18446744073709551615) (h4 : 0 ≤ l4 ∧ l4 ≤ 18446744073709551615) (h5 : 0 ≤ l5 ∧ l5 ≤ 18446744073709551615) (h6 : 0 ≤ l6 ∧ l6 ≤ 18446744073709551615) (h : l7 ≠ Su.sum7 l1 l2 l3 l4 l5 l6) :
    Calls Try.prog 15 #[.agg #[.int .u64 8390047168116913201, .int .u64 l1, .int .u64 l2, .int .u64 l3, .int .u64 l4, .int .u64 l5, .int .u64 l6, .int .u64 l7]] w fun e w' => e = .returned (.tuple #[.int .i64 0, .int .u64 0, .int .i64 25]) ∧ Below w.heap.size w w' := by
  have d0 : (l7 != Su.sum7 l1 l2 l3 l4 l5 l6) = true := by rw [bne_iff_ne]; exact h
  clear h
  have hwf := Lib.hid (row7_wf 8390047168116913201 l1 l2 l3 l4 l5 l6 (by omega) h1 h2 h3 h4 h5 h6)
  have hsb := Su.sum7_bd l1 l2 l3 l4 l5 l6
  have hsw : IntKind.u64.wrap (Su.sum7 l1 l2 l3 l4 l5 l6) = Su.sum7 l1 l2 l3 l4 l5 l6 := by rw [IntKind.wrap_u64]; omega
  have X := Lib.hid (Blk.new w #[.int .u64 8390047168116913201, .int .u64 l1, .int .u64 l2, .int .u64 l3, .int .u64 l4, .int .u64 l5, .int .u64 l6, .int .u64 l7] 23)
  have hB : Below w.heap.size w (w.alloc (.cells #[.int .u64 8390047168116913201, .int .u64 l1, .int .u64 l2, .int .u64 l3, .int .u64 l4, .int .u64 l5, .int .u64 l6, .int .u64 l7] 23)) := (Below.refl _ _).alloc (Nat.le_refl _) _
  generalize hZ : (w.alloc (.cells #[.int .u64 8390047168116913201, .int .u64 l1, .int .u64 l2, .int .u64 l3, .int .u64 l4, .int .u64 l5, .int .u64 l6, .int .u64 l7] 23)) = Z at *
  have x0 := X.out.cell 0 _ rfl
  have x7 := X.out.cell 7 _ rfl
  go_enter Try.func15, Try.ntmps15
  go_wp2_with fail
  go_region_held3 (fun W => W.cell? ⟨w.heap.size, 7, none⟩ = some (.int .u64 (l7)) ∧ Below Z.heap.size Z W)
    (first | assumption | exact ⟨x7, (Below.refl _ _).drew⟩)
    (first
      | (go_at_call 53; refine (rCrcWords_any _ 7 8 [8390047168116913201, l1, l2, l3, l4, l5, l6] _ _ ((RowAt.of_blk X.out 7 (by simp)).below (by assumption : _ ∧ Below _ _ _).2) hwf.out (by omega) (by assumption : _ ∧ Below _ _ _).2.size).mono ?_; rintro e w5 ⟨rfl, hb5⟩; rw [show Cr.more 0 (By.bytes [8390047168116913201, l1, l2, l3, l4, l5, l6]) = Su.sum7 l1 l2 l3 l4 l5 l6 from rfl]; have hS := (by assumption : _ ∧ Below _ _ _); have hS' := And.intro ((hb5.cell (cell_lt hS.1)).trans hS.1) (hS.2.trans (hb5.mono hS.2.size))))
  have hS' := (by assumption : _ ∧ Below _ _ _)
  have hZ5 := hS'.2
  have hB5 := hB.trans (hS'.2.mono hB.size)
  go_wp2_with fail
  go_ret3
  exact ⟨rfl, hB5⟩
theorem rsDec_loop (l1 l2 l3 l4 l5 l6 : Int) (w : World) (h1 : 0 ≤ l1 ∧ l1 ≤ 18446744073709551615) (h2 : 0 ≤ l2 ∧ l2 ≤ 18446744073709551615) (h3 : 0 ≤ l3 ∧ l3 ≤ 18446744073709551615) (h4 : 0 ≤ l4 ∧ l4 ≤ 18446744073709551615) (h5 : 0 ≤ l5 ∧ l5 ≤ 18446744073709551615) (h6 : 0 ≤ l6 ∧ l6 ≤ 18446744073709551615) :
    Calls Try.prog 15 #[.agg #[.int .u64 8390047168116913201, .int .u64 l1, .int .u64 l2, .int .u64 l3, .int .u64 l4, .int .u64 l5, .int .u64 l6, .int .u64 (Su.sum7 l1 l2 l3 l4 l5 l6)]] w fun e w' => e = .returned (.tuple #[.int .i64 (Su.decB 8390047168116913201 l1 l2 l3 l4 l5 l6 (Su.sum7 l1 l2 l3 l4 l5 l6)), .int .u64 (Su.decN 8390047168116913201 l1 l2 l3 l4 l5 l6 (Su.sum7 l1 l2 l3 l4 l5 l6)), .int .i64 (Su.decE 8390047168116913201 l1 l2 l3 l4 l5 l6 (Su.sum7 l1 l2 l3 l4 l5 l6))]) ∧ Below w.heap.size w w' := by
  have hwf := Lib.hid (row7_wf 8390047168116913201 l1 l2 l3 l4 l5 l6 (by omega) h1 h2 h3 h4 h5 h6)
  have hsb := Su.sum7_bd l1 l2 l3 l4 l5 l6
  have hsw : IntKind.u64.wrap (Su.sum7 l1 l2 l3 l4 l5 l6) = Su.sum7 l1 l2 l3 l4 l5 l6 := by rw [IntKind.wrap_u64]; omega
  have X := Lib.hid (Blk.new w #[.int .u64 8390047168116913201, .int .u64 l1, .int .u64 l2, .int .u64 l3, .int .u64 l4, .int .u64 l5, .int .u64 l6, .int .u64 (Su.sum7 l1 l2 l3 l4 l5 l6)] 23)
  have hB : Below w.heap.size w (w.alloc (.cells #[.int .u64 8390047168116913201, .int .u64 l1, .int .u64 l2, .int .u64 l3, .int .u64 l4, .int .u64 l5, .int .u64 l6, .int .u64 (Su.sum7 l1 l2 l3 l4 l5 l6)] 23)) := (Below.refl _ _).alloc (Nat.le_refl _) _
  generalize hZ : (w.alloc (.cells #[.int .u64 8390047168116913201, .int .u64 l1, .int .u64 l2, .int .u64 l3, .int .u64 l4, .int .u64 l5, .int .u64 l6, .int .u64 (Su.sum7 l1 l2 l3 l4 l5 l6)] 23)) = Z at *
  have x0 := X.out.cell 0 _ rfl
  have x7 := X.out.cell 7 _ rfl
  go_enter Try.func15, Try.ntmps15
  go_wp2_with fail
  go_region_held3 (fun W => W.cell? ⟨w.heap.size, 7, none⟩ = some (.int .u64 ((Su.sum7 l1 l2 l3 l4 l5 l6))) ∧ Below Z.heap.size Z W)
    (first | assumption | exact ⟨x7, (Below.refl _ _).drew⟩)
    (first
      | (go_at_call 53; refine (rCrcWords_any _ 7 8 [8390047168116913201, l1, l2, l3, l4, l5, l6] _ _ ((RowAt.of_blk X.out 7 (by simp)).below (by assumption : _ ∧ Below _ _ _).2) hwf.out (by omega) (by assumption : _ ∧ Below _ _ _).2.size).mono ?_; rintro e w5 ⟨rfl, hb5⟩; rw [show Cr.more 0 (By.bytes [8390047168116913201, l1, l2, l3, l4, l5, l6]) = Su.sum7 l1 l2 l3 l4 l5 l6 from rfl]; have hS := (by assumption : _ ∧ Below _ _ _); have hS' := And.intro ((hb5.cell (cell_lt hS.1)).trans hS.1) (hS.2.trans (hb5.mono hS.2.size))))
  have hS' := (by assumption : _ ∧ Below _ _ _)
  have hZ5 := hS'.2
  have hB5 := hB.trans (hS'.2.mono hB.size)
  clear x0 x7
  go_wp2_with fail
  go_loopw [5] (fun t wr => ∃ j : Nat, 2 ≤ j ∧ j ≤ 257 ∧ t = .int .i64 j ∧ Below Z.heap.size Z wr ∧ (Su.okB l1 l2 l4 l5 l6 → (j : Int) ≤ l2)) (fun t _ => 257 - (intOf t).toNat)
  case atStart => exact ⟨2, by omega, by omega, rfl, hZ5, fun h => h.2.2.2.2.1⟩
  case round =>
    clear hZ5 hS' hB5
    obtain ⟨j, hj1, hj2, rfl, hbe, hle⟩ := hrel
    have hle := Lib.hid hle
    by_cases hlt : j ≤ 256
    · have X8 := X.out.below hbe X.out.lt
      have s8' := s8 X8 (Below.refl _ _).drew
      by_cases hok : Su.okB l1 l2 l4 l5 l6 ∧ l2 = (j : Int)
      · obtain ⟨hok, rfl⟩ := hok
        obtain ⟨e1, e2, e3⟩ := Su.dec_ok l1 (j : Int) l3 l4 l5 l6 hok
        have E := Lib.hid (And.intro e1 (And.intro e2 e3))
        obtain ⟨rfl, rfl, rfl, rfl, _, _⟩ := hok
        have heq := line_eq [8390047168116913201, 1, j, l3, 0, 0, 0, Su.crc j l3] [8390047168116913201, 1, j, l3, 0, 0, 0, Su.sum7 1 j l3 0 0 0] rfl rfl
        rw [eqB_yes [8390047168116913201, 1, (j : Int), l3, 0, 0, 0, Su.crc j l3] [8390047168116913201, 1, j, l3, 0, 0, 0, Su.sum7 1 j l3 0 0 0] rfl] at heq
        simp only [List.map_cons, List.map_nil] at heq
        clear e1 e2 e3 hle
        go_wp2_with fail
        refine wp_region_held_drew (S := fun W => W.cell? ⟨w.heap.size, 0, none⟩ = some (.int .u64 8390047168116913201) ∧ W.cell? ⟨w.heap.size, 1, none⟩ = some (.int .u64 1) ∧ W.cell? ⟨w.heap.size, 2, none⟩ = some (.int .u64 (j : Int)) ∧ W.cell? ⟨w.heap.size, 3, none⟩ = some (.int .u64 l3) ∧ W.cell? ⟨w.heap.size, 4, none⟩ = some (.int .u64 0) ∧ W.cell? ⟨w.heap.size, 5, none⟩ = some (.int .u64 0) ∧ W.cell? ⟨w.heap.size, 6, none⟩ = some (.int .u64 0) ∧ W.cell? ⟨w.heap.size, 7, none⟩ = some (.int .u64 (Su.sum7 1 j l3 0 0 0)) ∧ Below wr.heap.size wr W) (by kernel_rfl) ?_ (fun hHeld => ?_)
        · (try dsimp only)
          (first | assumption | exact s8')
        first | (refine wpAnyH_take (i := 0) (v := ?_) rfl (by kernel_rfl) (by kernel_rfl) (by kernel_rfl) (fun _ _ _ h => h) (Or.inl ⟨by rfl, ?_⟩) (by assumption) ?_; rotate_left; (focus (intro w hSw; (try dsimp only at hSw); go_simp; first | done | with_reducible rfl))) | (refine wpAnyH_take (i := 0) rfl (by kernel_rfl) (by kernel_rfl) (by kernel_rfl) (fun _ _ _ h => h) (Or.inr ⟨by rfl, rfl⟩) (by assumption) ?_) | fail
        try simp only [Act.put, List.getElem_toArray, List.getElem_cons_zero, List.getElem_cons_succ, List.setIfInBounds_toArray, List.set_cons_zero, List.set_cons_succ]
        first | (refine wpAnyH_take (i := 1) (v := ?_) rfl (by kernel_rfl) (by kernel_rfl) (by kernel_rfl) (fun _ _ _ h => h) (Or.inl ⟨by rfl, ?_⟩) (by assumption) ?_; rotate_left; (focus (intro w hSw; (try dsimp only at hSw); go_simp; first | done | with_reducible rfl))) | (refine wpAnyH_take (i := 1) rfl (by kernel_rfl) (by kernel_rfl) (by kernel_rfl) (fun _ _ _ h => h) (Or.inr ⟨by rfl, rfl⟩) (by assumption) ?_) | fail
        try simp only [Act.put, List.getElem_toArray, List.getElem_cons_zero, List.getElem_cons_succ, List.setIfInBounds_toArray, List.set_cons_zero, List.set_cons_succ]
        first | (refine wpAnyH_take (i := 2) (v := ?_) rfl (by kernel_rfl) (by kernel_rfl) (by kernel_rfl) (fun _ _ _ h => h) (Or.inl ⟨by rfl, ?_⟩) (by assumption) ?_; rotate_left; (focus (intro w hSw; (try dsimp only at hSw); go_simp; first | done | with_reducible rfl))) | (refine wpAnyH_take (i := 2) rfl (by kernel_rfl) (by kernel_rfl) (by kernel_rfl) (fun _ _ _ h => h) (Or.inr ⟨by rfl, rfl⟩) (by assumption) ?_) | fail
        try simp only [Act.put, List.getElem_toArray, List.getElem_cons_zero, List.getElem_cons_succ, List.setIfInBounds_toArray, List.set_cons_zero, List.set_cons_succ]
        first | (refine wpAnyH_take (i := 4) (v := ?_) rfl (by kernel_rfl) (by kernel_rfl) (by kernel_rfl) (fun _ _ _ h => h) (Or.inl ⟨by rfl, ?_⟩) (by assumption) ?_; rotate_left; (focus (intro w hSw; (try dsimp only at hSw); go_simp; first | done | with_reducible rfl))) | (refine wpAnyH_take (i := 4) rfl (by kernel_rfl) (by kernel_rfl) (by kernel_rfl) (fun _ _ _ h => h) (Or.inr ⟨by rfl, rfl⟩) (by assumption) ?_) | fail
        try simp only [Act.put, List.getElem_toArray, List.getElem_cons_zero, List.getElem_cons_succ, List.setIfInBounds_toArray, List.set_cons_zero, List.set_cons_succ]
        refine wpAnyH_ready (rs := [3]) (by kernel_rfl) (by simp) (AllReadyH.cons rfl (fun K hK => ?_) AllReadyH.nil)
        (try go_simp)
        have hS := (by assumption : _ ∧ _ ∧ _ ∧ _ ∧ _ ∧ _ ∧ _ ∧ _ ∧ Below _ _ _).2.2.2.2.2.2.2.2
        refine (rsEnc_any _ _ _ (by omega) (by omega) (by omega) (by omega)).mono ?_
        rintro e w8 ⟨rfl, hb8⟩
        have hb8' := hS.trans (hb8.mono hS.size)
        have hS' := s8 X8 hb8'
        clear hb8 hS
        refine hK.out _ _ ?_ (fun hHeld => ?_)
        · (try dsimp only)
          (first | assumption | exact s8')
        clear hK K
        try simp only [Act.put, List.getElem_toArray, List.getElem_cons_zero, List.getElem_cons_succ, List.setIfInBounds_toArray, List.set_cons_zero, List.set_cons_succ]
        first | (refine wpAnyH_take (i := 5) (v := ?_) rfl (by kernel_rfl) (by kernel_rfl) (by kernel_rfl) (fun _ _ _ h => h) (Or.inl ⟨by rfl, ?_⟩) (by assumption) ?_; rotate_left; (focus (intro w hSw; (try dsimp only at hSw); go_simp; first | done | with_reducible rfl))) | (refine wpAnyH_take (i := 5) rfl (by kernel_rfl) (by kernel_rfl) (by kernel_rfl) (fun _ _ _ h => h) (Or.inr ⟨by rfl, rfl⟩) (by assumption) ?_) | fail
        try simp only [Act.put, List.getElem_toArray, List.getElem_cons_zero, List.getElem_cons_succ, List.setIfInBounds_toArray, List.set_cons_zero, List.set_cons_succ]
        refine wpAnyH_done (by kernel_rfl) ?_ _
        have hbE := (by assumption : _ ∧ _ ∧ _ ∧ _ ∧ _ ∧ _ ∧ _ ∧ _ ∧ Below _ _ _).2.2.2.2.2.2.2.2
        go_wp2_with fail
        go_quiet (fail)
        go_wp2_with fail
        go_ret3
        exact ⟨ret_iui E.out.1.symm E.out.2.1.symm E.out.2.2.symm, below_drewN (hB.trans ((hbe.trans (hbE.mono hbe.size)).mono hB.size)) _⟩
      · have hne : eqB [8390047168116913201, 1, (j : Int), l3, 0, 0, 0, Su.crc j l3] [8390047168116913201, l1, l2, l3, l4, l5, l6, Su.sum7 l1 l2 l3 l4 l5 l6] = false := by
          apply eqB_no
          intro h
          simp only [List.cons.injEq] at h
          exact hok ⟨⟨h.2.1.symm, h.2.2.2.2.1.symm, h.2.2.2.2.2.1.symm, h.2.2.2.2.2.2.1.symm, by have := h.2.2.1; omega, by have := h.2.2.1; omega⟩, h.2.2.1.symm⟩
        have heq := line_eq [8390047168116913201, 1, (j : Int), l3, 0, 0, 0, Su.crc j l3] [8390047168116913201, l1, l2, l3, l4, l5, l6, Su.sum7 l1 l2 l3 l4 l5 l6] rfl rfl
        rw [hne] at heq
        simp only [List.map_cons, List.map_nil] at heq
        have hle2 : Su.okB l1 l2 l4 l5 l6 → ((j + 1 : Nat) : Int) ≤ l2 := fun h => by
          have a := hle.out h
          have b : l2 ≠ (j : Int) := fun hh => hok ⟨h, hh⟩
          omega
        have hle2 := Lib.hid hle2
        clear hok hne hle
        go_wp2_with fail
        refine wp_region_held_drew (S := fun W => W.cell? ⟨w.heap.size, 0, none⟩ = some (.int .u64 8390047168116913201) ∧ W.cell? ⟨w.heap.size, 1, none⟩ = some (.int .u64 l1) ∧ W.cell? ⟨w.heap.size, 2, none⟩ = some (.int .u64 l2) ∧ W.cell? ⟨w.heap.size, 3, none⟩ = some (.int .u64 l3) ∧ W.cell? ⟨w.heap.size, 4, none⟩ = some (.int .u64 l4) ∧ W.cell? ⟨w.heap.size, 5, none⟩ = some (.int .u64 l5) ∧ W.cell? ⟨w.heap.size, 6, none⟩ = some (.int .u64 l6) ∧ W.cell? ⟨w.heap.size, 7, none⟩ = some (.int .u64 (Su.sum7 l1 l2 l3 l4 l5 l6)) ∧ Below wr.heap.size wr W) (by kernel_rfl) ?_ (fun hHeld => ?_)
        · (try dsimp only)
          (first | assumption | exact s8')
        first | (refine wpAnyH_take (i := 0) (v := ?_) rfl (by kernel_rfl) (by kernel_rfl) (by kernel_rfl) (fun _ _ _ h => h) (Or.inl ⟨by rfl, ?_⟩) (by assumption) ?_; rotate_left; (focus (intro w hSw; (try dsimp only at hSw); go_simp; first | done | with_reducible rfl))) | (refine wpAnyH_take (i := 0) rfl (by kernel_rfl) (by kernel_rfl) (by kernel_rfl) (fun _ _ _ h => h) (Or.inr ⟨by rfl, rfl⟩) (by assumption) ?_) | fail
        try simp only [Act.put, List.getElem_toArray, List.getElem_cons_zero, List.getElem_cons_succ, List.setIfInBounds_toArray, List.set_cons_zero, List.set_cons_succ]
        first | (refine wpAnyH_take (i := 1) (v := ?_) rfl (by kernel_rfl) (by kernel_rfl) (by kernel_rfl) (fun _ _ _ h => h) (Or.inl ⟨by rfl, ?_⟩) (by assumption) ?_; rotate_left; (focus (intro w hSw; (try dsimp only at hSw); go_simp; first | done | with_reducible rfl))) | (refine wpAnyH_take (i := 1) rfl (by kernel_rfl) (by kernel_rfl) (by kernel_rfl) (fun _ _ _ h => h) (Or.inr ⟨by rfl, rfl⟩) (by assumption) ?_) | fail
        try simp only [Act.put, List.getElem_toArray, List.getElem_cons_zero, List.getElem_cons_succ, List.setIfInBounds_toArray, List.set_cons_zero, List.set_cons_succ]
        first | (refine wpAnyH_take (i := 2) (v := ?_) rfl (by kernel_rfl) (by kernel_rfl) (by kernel_rfl) (fun _ _ _ h => h) (Or.inl ⟨by rfl, ?_⟩) (by assumption) ?_; rotate_left; (focus (intro w hSw; (try dsimp only at hSw); go_simp; first | done | with_reducible rfl))) | (refine wpAnyH_take (i := 2) rfl (by kernel_rfl) (by kernel_rfl) (by kernel_rfl) (fun _ _ _ h => h) (Or.inr ⟨by rfl, rfl⟩) (by assumption) ?_) | fail
        try simp only [Act.put, List.getElem_toArray, List.getElem_cons_zero, List.getElem_cons_succ, List.setIfInBounds_toArray, List.set_cons_zero, List.set_cons_succ]
        first | (refine wpAnyH_take (i := 4) (v := ?_) rfl (by kernel_rfl) (by kernel_rfl) (by kernel_rfl) (fun _ _ _ h => h) (Or.inl ⟨by rfl, ?_⟩) (by assumption) ?_; rotate_left; (focus (intro w hSw; (try dsimp only at hSw); go_simp; first | done | with_reducible rfl))) | (refine wpAnyH_take (i := 4) rfl (by kernel_rfl) (by kernel_rfl) (by kernel_rfl) (fun _ _ _ h => h) (Or.inr ⟨by rfl, rfl⟩) (by assumption) ?_) | fail
        try simp only [Act.put, List.getElem_toArray, List.getElem_cons_zero, List.getElem_cons_succ, List.setIfInBounds_toArray, List.set_cons_zero, List.set_cons_succ]
        refine wpAnyH_ready (rs := [3]) (by kernel_rfl) (by simp) (AllReadyH.cons rfl (fun K hK => ?_) AllReadyH.nil)
        (try go_simp)
        have hS := (by assumption : _ ∧ _ ∧ _ ∧ _ ∧ _ ∧ _ ∧ _ ∧ _ ∧ Below _ _ _).2.2.2.2.2.2.2.2
        refine (rsEnc_any _ _ _ (by omega) (by omega) (by omega) (by omega)).mono ?_
        rintro e w8 ⟨rfl, hb8⟩
        have hb8' := hS.trans (hb8.mono hS.size)
        have hS' := s8 X8 hb8'
        clear hb8 hS
        refine hK.out _ _ ?_ (fun hHeld => ?_)
        · (try dsimp only)
          (first | assumption | exact s8')
        clear hK K
        try simp only [Act.put, List.getElem_toArray, List.getElem_cons_zero, List.getElem_cons_succ, List.setIfInBounds_toArray, List.set_cons_zero, List.set_cons_succ]
        first | (refine wpAnyH_take (i := 5) (v := ?_) rfl (by kernel_rfl) (by kernel_rfl) (by kernel_rfl) (fun _ _ _ h => h) (Or.inl ⟨by rfl, ?_⟩) (by assumption) ?_; rotate_left; (focus (intro w hSw; (try dsimp only at hSw); go_simp; first | done | with_reducible rfl))) | (refine wpAnyH_take (i := 5) rfl (by kernel_rfl) (by kernel_rfl) (by kernel_rfl) (fun _ _ _ h => h) (Or.inr ⟨by rfl, rfl⟩) (by assumption) ?_) | fail
        try simp only [Act.put, List.getElem_toArray, List.getElem_cons_zero, List.getElem_cons_succ, List.setIfInBounds_toArray, List.set_cons_zero, List.set_cons_succ]
        refine wpAnyH_done (by kernel_rfl) ?_ _
        have hbE := (by assumption : _ ∧ _ ∧ _ ∧ _ ∧ _ ∧ _ ∧ _ ∧ _ ∧ Below _ _ _).2.2.2.2.2.2.2.2
        go_wp2_with fail
        go_roundw
        case rel => exact ⟨j + 1, by omega, by omega, by go_num, hbe.trans (hbE.mono hbe.size), hle2.out⟩
        case measure => simp [intOf] <;> omega
    · obtain rfl : j = 257 := by omega
      have hno : ¬ Su.okB l1 l2 l4 l5 l6 := fun h => by
        have a := hle.out h
        have b := h.2.2.2.2.2
        omega
      obtain ⟨e1, e2, e3⟩ := Su.dec_range l1 l2 l3 l4 l5 l6 hno
      have E := Lib.hid (And.intro e1 (And.intro e2 e3))
      clear e1 e2 e3 hno hle
      go_wp2_with fail
      go_ret3
      exact ⟨ret_iui E.out.1.symm E.out.2.1.symm E.out.2.2.symm, hB.trans (hbe.mono hB.size)⟩
end Go.Proofs.Ytgcjagffoeoldaa
