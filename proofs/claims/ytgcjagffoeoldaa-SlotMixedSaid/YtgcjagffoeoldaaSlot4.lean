/- What Encode makes of a slot: the reference's. -/
import Derived.Test.YtgcjagffoeoldaaSlot3
import Derived.Deep.RegionHeld3
import Derived.Test.YtgcjagffoeoldaaPExp
namespace Go.Proofs.Ytgcjagffoeoldaa
open Go.RowKit
set_option linter.unusedVariables false
set_option linter.unusedSimpArgs false
set_option maxHeartbeats 8000000
set_option maxRecDepth 100000
theorem wanted_plain {P : Program} {ops : Array Oper} {o : Oper} {a : Act} {w : World} {K : Act → World → Prop} {Q : Exit → Act → World → Prop} {E : Prop} (hg : o.guard = none) (h : Oper.wp P o a w K Q) :
    if Region.wanted o (yielded ops a.tmps) = true then Oper.wp P o a w K Q else E := by
  have hw : Region.wanted o (yielded ops a.tmps) = true := by simp [Region.wanted, hg]
  rw [if_pos hw]; exact h
theorem s9 {Z W : World} {x : Nat} {T : TypeId} {c0 c1 c2 c3 c4 c5 c6 c7 c8 : Value} (X : Blk Z x #[c0, c1, c2, c3, c4, c5, c6, c7, c8] T) {B : Nat} (hx : x < B) (h : Below B Z W) :
    W.cell? ⟨x, 0, none⟩ = some c0 ∧ W.cell? ⟨x, 1, none⟩ = some c1 ∧ W.cell? ⟨x, 2, none⟩ = some c2 ∧ W.cell? ⟨x, 3, none⟩ = some c3 ∧ W.cell? ⟨x, 4, none⟩ = some c4 ∧ W.cell? ⟨x, 5, none⟩ = some c5 ∧ W.cell? ⟨x, 6, none⟩ = some c6 ∧ W.cell? ⟨x, 7, none⟩ = some c7 ∧ W.cell? ⟨x, 8, none⟩ = some c8 ∧ Below B Z W := by
  have X' := X.below h hx
  exact ⟨X'.cell 0 _ rfl, X'.cell 1 _ rfl, X'.cell 2 _ rfl, X'.cell 3 _ rfl, X'.cell 4 _ rfl, X'.cell 5 _ rfl, X'.cell 6 _ rfl, X'.cell 7 _ rfl, X'.cell 8 _ rfl, h⟩
theorem rslEnc_no (E r0 r1 r2 r3 r4 r5 r6 r7 : Int) (w : World) (hE : 0 ≤ E ∧ E ≤ 18446744073709551615) (hR : ∀ r ∈ [r0, r1, r2, r3, r4, r5, r6, r7], I64 r) (h : St.rightB E [r0, r1, r2, r3, r4, r5, r6, r7] = false) :
    Calls Try.prog 25 #[.agg #[.int .u64 E, .int .i64 r0, .int .i64 r1, .int .i64 r2, .int .i64 r3, .int .i64 r4, .int .i64 r5, .int .i64 r6, .int .i64 r7]] w fun e w' => e = .returned (.agg #[.int .u64 0, .int .u64 0, .int .u64 0, .int .u64 0, .int .u64 0, .int .u64 0, .int .u64 0, .int .u64 0, .int .u64 0, .int .u64 0, .int .u64 0, .int .u64 0, .int .u64 0, .int .u64 0, .int .u64 0, .int .u64 0]) ∧ Below w.heap.size w w' := by
  have HRR := Lib.hid hR
  clear hR
  obtain ⟨i16, hi16⟩ := Option.isSome_iff_exists.1 isSome16
  have HI := Lib.hid hi16
  clear hi16
  have hone : ∀ v ∈ (#[.int .u64 0, .int .u64 0, .int .u64 0, .int .u64 0, .int .u64 0, .int .u64 0, .int .u64 0, .int .u64 0, .int .u64 0, .int .u64 0, .int .u64 0, .int .u64 0, .int .u64 0, .int .u64 0, .int .u64 0, .int .u64 0] : Array Value).toList, v.oneCell' = true := by simp [Value.oneCell']
  have HONE := Lib.hid hone
  clear hone
  have X := Lib.hid (((Blk.new w #[.int .u64 E, .int .i64 r0, .int .i64 r1, .int .i64 r2, .int .i64 r3, .int .i64 r4, .int .i64 r5, .int .i64 r6, .int .i64 r7] 42).alloc (.cells #[.int .u64 0, .int .u64 0, .int .u64 0, .int .u64 0, .int .u64 0, .int .u64 0, .int .u64 0, .int .u64 0, .int .u64 0, .int .u64 0, .int .u64 0, .int .u64 0, .int .u64 0, .int .u64 0, .int .u64 0, .int .u64 0] 39)).alloc (.cells #[.int .u64 0, .int .u64 0, .int .u64 0, .int .u64 0, .int .u64 0, .int .u64 0, .int .u64 0, .int .u64 0, .int .u64 0, .int .u64 0, .int .u64 0, .int .u64 0, .int .u64 0, .int .u64 0, .int .u64 0, .int .u64 0] 39))
  have R := Lib.hid ((Blk.new1 w (.cells #[.int .u64 E, .int .i64 r0, .int .i64 r1, .int .i64 r2, .int .i64 r3, .int .i64 r4, .int .i64 r5, .int .i64 r6, .int .i64 r7] 42) #[.int .u64 0, .int .u64 0, .int .u64 0, .int .u64 0, .int .u64 0, .int .u64 0, .int .u64 0, .int .u64 0, .int .u64 0, .int .u64 0, .int .u64 0, .int .u64 0, .int .u64 0, .int .u64 0, .int .u64 0, .int .u64 0] 39).alloc (.cells #[.int .u64 0, .int .u64 0, .int .u64 0, .int .u64 0, .int .u64 0, .int .u64 0, .int .u64 0, .int .u64 0, .int .u64 0, .int .u64 0, .int .u64 0, .int .u64 0, .int .u64 0, .int .u64 0, .int .u64 0, .int .u64 0] 39))
  have O := Lib.hid (Blk.new2 w (.cells #[.int .u64 E, .int .i64 r0, .int .i64 r1, .int .i64 r2, .int .i64 r3, .int .i64 r4, .int .i64 r5, .int .i64 r6, .int .i64 r7] 42) (.cells #[.int .u64 0, .int .u64 0, .int .u64 0, .int .u64 0, .int .u64 0, .int .u64 0, .int .u64 0, .int .u64 0, .int .u64 0, .int .u64 0, .int .u64 0, .int .u64 0, .int .u64 0, .int .u64 0, .int .u64 0, .int .u64 0] 39) #[.int .u64 0, .int .u64 0, .int .u64 0, .int .u64 0, .int .u64 0, .int .u64 0, .int .u64 0, .int .u64 0, .int .u64 0, .int .u64 0, .int .u64 0, .int .u64 0, .int .u64 0, .int .u64 0, .int .u64 0, .int .u64 0] 39)
  have hB : Below w.heap.size w (((w.alloc (.cells #[.int .u64 E, .int .i64 r0, .int .i64 r1, .int .i64 r2, .int .i64 r3, .int .i64 r4, .int .i64 r5, .int .i64 r6, .int .i64 r7] 42)).alloc (.cells #[.int .u64 0, .int .u64 0, .int .u64 0, .int .u64 0, .int .u64 0, .int .u64 0, .int .u64 0, .int .u64 0, .int .u64 0, .int .u64 0, .int .u64 0, .int .u64 0, .int .u64 0, .int .u64 0, .int .u64 0, .int .u64 0] 39)).alloc (.cells #[.int .u64 0, .int .u64 0, .int .u64 0, .int .u64 0, .int .u64 0, .int .u64 0, .int .u64 0, .int .u64 0, .int .u64 0, .int .u64 0, .int .u64 0, .int .u64 0, .int .u64 0, .int .u64 0, .int .u64 0, .int .u64 0] 39)) := (((Below.refl _ _).alloc (Nat.le_refl _) _).alloc (by simp) _).alloc (by simp; omega) _
  go_enter Try.func25, Try.ntmps25
  go_wp2_with (first
    | (go_at_call 22; refine (rslRight_any _ _ _ _ _ _ _ _ _ _ hE HRR.out).mono ?_; rintro e w1 ⟨rfl, hb1⟩; have X1 := X.out.below hb1 X.out.lt; have R1 := R.out.below hb1 R.out.lt; have O1 := O.out.below hb1 O.out.lt; have hB1 := hB.trans (hb1.mono hB.size))
    | (refine wpList_load_row (P := Try.prog) rfl 39 (.tmp 3) rfl (w.heap.size + 1 + 1) rfl _ #[.int .u64 0, .int .u64 0, .int .u64 0, .int .u64 0, .int .u64 0, .int .u64 0, .int .u64 0, .int .u64 0, .int .u64 0, .int .u64 0, .int .u64 0, .int .u64 0, .int .u64 0, .int .u64 0, .int .u64 0, .int .u64 0] (0, 0) _ O1 Try.underlying39 rfl (by kernel_rfl) ?_)
    | (refine wpList_store_row (P := Try.prog) rfl 39 (.tmp 2) (.tmp 23) rfl (w.heap.size + 1) _ #[.int .u64 0, .int .u64 0, .int .u64 0, .int .u64 0, .int .u64 0, .int .u64 0, .int .u64 0, .int .u64 0, .int .u64 0, .int .u64 0, .int .u64 0, .int .u64 0, .int .u64 0, .int .u64 0, .int .u64 0, .int .u64 0] _ rfl rfl R1 rfl HI.out (by kernel_rfl) HONE.out ?_))
  exact bodyPost_ret (v := .agg #[.int .u64 0, .int .u64 0, .int .u64 0, .int .u64 0, .int .u64 0, .int .u64 0, .int .u64 0, .int .u64 0, .int .u64 0, .int .u64 0, .int .u64 0, .int .u64 0, .int .u64 0, .int .u64 0, .int .u64 0, .int .u64 0]) (results_cell_row rfl _ _ (w.heap.size + 1) _ #[.int .u64 0, .int .u64 0, .int .u64 0, .int .u64 0, .int .u64 0, .int .u64 0, .int .u64 0, .int .u64 0, .int .u64 0, .int .u64 0, .int .u64 0, .int .u64 0, .int .u64 0, .int .u64 0, .int .u64 0, .int .u64 0] (0, 0) _ rfl (setRow_heap _ _ _ _ _ _ R1) Try.underlying39 rfl (by kernel_rfl)) rfl ⟨rfl, below_setRow hB1 (by first | omega | (simp; done)) _⟩
theorem rslEnc_yes (E r0 r1 r2 r3 r4 r5 r6 r7 : Int) (w : World) (hE : 0 ≤ E ∧ E ≤ 18446744073709551615) (hE0 : 0 < E) (hr0 : 0 ≤ r0 ∧ r0 ≤ 131071) (hr1 : 0 ≤ r1 ∧ r1 ≤ 131071) (hr2 : 0 ≤ r2 ∧ r2 ≤ 131071) (hr3 : 0 ≤ r3 ∧ r3 ≤ 131071) (hr4 : 0 ≤ r4 ∧ r4 ≤ 131071) (hr5 : 0 ≤ r5 ∧ r5 ≤ 131071) (hr6 : 0 ≤ r6 ∧ r6 ≤ 131071) (hr7 : 0 ≤ r7 ∧ r7 ≤ 131071) :
    Calls Try.prog 25 #[.agg #[.int .u64 E, .int .i64 r0, .int .i64 r1, .int .i64 r2, .int .i64 r3, .int .i64 r4, .int .i64 r5, .int .i64 r6, .int .i64 r7]] w fun e w' => e = .returned (.agg #[.int .u64 E, .int .u64 r0, .int .u64 r1, .int .u64 r2, .int .u64 r3, .int .u64 0, .int .u64 0, .int .u64 (St.sum0 E r0 r1 r2 r3), .int .u64 E, .int .u64 r4, .int .u64 r5, .int .u64 r6, .int .u64 r7, .int .u64 1, .int .u64 0, .int .u64 (St.sum1 E r4 r5 r6 r7)]) ∧ Below w.heap.size w w' := by
  have hRb : St.okR [r0, r1, r2, r3, r4, r5, r6, r7] := by
    intro r hr
    simp at hr
    rcases hr with rfl | rfl | rfl | rfl | rfl | rfl | rfl | rfl <;> assumption
  have hrb := St.rightB_yes E _ hRb hE0
  have HRR := Lib.hid (fun r hr => (⟨by have := hRb r hr; omega, by have := hRb r hr; omega⟩ : I64 r))
  clear hRb
  obtain ⟨i0, hi0, hz0, hz1, hz2⟩ := info_parts info_u64
  obtain ⟨i16, hi16⟩ := Option.isSome_iff_exists.1 isSome16
  have HI := Lib.hid hi16
  clear hi16
  have hone : ∀ v ∈ (#[.int .u64 E, .int .u64 r0, .int .u64 r1, .int .u64 r2, .int .u64 r3, .int .u64 0, .int .u64 0, .int .u64 (St.sum0 E r0 r1 r2 r3), .int .u64 E, .int .u64 r4, .int .u64 r5, .int .u64 r6, .int .u64 r7, .int .u64 1, .int .u64 0, .int .u64 (St.sum1 E r4 r5 r6 r7)] : Array Value).toList, v.oneCell' = true := by simp [Value.oneCell']
  have HONE := Lib.hid hone
  clear hone
  have X := Lib.hid (((Blk.new w #[.int .u64 E, .int .i64 r0, .int .i64 r1, .int .i64 r2, .int .i64 r3, .int .i64 r4, .int .i64 r5, .int .i64 r6, .int .i64 r7] 42).alloc (.cells #[.int .u64 0, .int .u64 0, .int .u64 0, .int .u64 0, .int .u64 0, .int .u64 0, .int .u64 0, .int .u64 0, .int .u64 0, .int .u64 0, .int .u64 0, .int .u64 0, .int .u64 0, .int .u64 0, .int .u64 0, .int .u64 0] 39)).alloc (.cells #[.int .u64 0, .int .u64 0, .int .u64 0, .int .u64 0, .int .u64 0, .int .u64 0, .int .u64 0, .int .u64 0, .int .u64 0, .int .u64 0, .int .u64 0, .int .u64 0, .int .u64 0, .int .u64 0, .int .u64 0, .int .u64 0] 39))
  have R := Lib.hid ((Blk.new1 w (.cells #[.int .u64 E, .int .i64 r0, .int .i64 r1, .int .i64 r2, .int .i64 r3, .int .i64 r4, .int .i64 r5, .int .i64 r6, .int .i64 r7] 42) #[.int .u64 0, .int .u64 0, .int .u64 0, .int .u64 0, .int .u64 0, .int .u64 0, .int .u64 0, .int .u64 0, .int .u64 0, .int .u64 0, .int .u64 0, .int .u64 0, .int .u64 0, .int .u64 0, .int .u64 0, .int .u64 0] 39).alloc (.cells #[.int .u64 0, .int .u64 0, .int .u64 0, .int .u64 0, .int .u64 0, .int .u64 0, .int .u64 0, .int .u64 0, .int .u64 0, .int .u64 0, .int .u64 0, .int .u64 0, .int .u64 0, .int .u64 0, .int .u64 0, .int .u64 0] 39))
  have O := Lib.hid (Blk.new2 w (.cells #[.int .u64 E, .int .i64 r0, .int .i64 r1, .int .i64 r2, .int .i64 r3, .int .i64 r4, .int .i64 r5, .int .i64 r6, .int .i64 r7] 42) (.cells #[.int .u64 0, .int .u64 0, .int .u64 0, .int .u64 0, .int .u64 0, .int .u64 0, .int .u64 0, .int .u64 0, .int .u64 0, .int .u64 0, .int .u64 0, .int .u64 0, .int .u64 0, .int .u64 0, .int .u64 0, .int .u64 0] 39) #[.int .u64 0, .int .u64 0, .int .u64 0, .int .u64 0, .int .u64 0, .int .u64 0, .int .u64 0, .int .u64 0, .int .u64 0, .int .u64 0, .int .u64 0, .int .u64 0, .int .u64 0, .int .u64 0, .int .u64 0, .int .u64 0] 39)
  have hB : Below w.heap.size w (((w.alloc (.cells #[.int .u64 E, .int .i64 r0, .int .i64 r1, .int .i64 r2, .int .i64 r3, .int .i64 r4, .int .i64 r5, .int .i64 r6, .int .i64 r7] 42)).alloc (.cells #[.int .u64 0, .int .u64 0, .int .u64 0, .int .u64 0, .int .u64 0, .int .u64 0, .int .u64 0, .int .u64 0, .int .u64 0, .int .u64 0, .int .u64 0, .int .u64 0, .int .u64 0, .int .u64 0, .int .u64 0, .int .u64 0] 39)).alloc (.cells #[.int .u64 0, .int .u64 0, .int .u64 0, .int .u64 0, .int .u64 0, .int .u64 0, .int .u64 0, .int .u64 0, .int .u64 0, .int .u64 0, .int .u64 0, .int .u64 0, .int .u64 0, .int .u64 0, .int .u64 0, .int .u64 0] 39)) := (((Below.refl _ _).alloc (Nat.le_refl _) _).alloc (by simp) _).alloc (by simp; omega) _
  go_enter Try.func25, Try.ntmps25
  go_wp2_with (first
    | (go_at_call 22; refine (rslRight_any _ _ _ _ _ _ _ _ _ _ hE HRR.out).mono ?_; rintro e w1 ⟨rfl, hb1⟩; have X1 := X.out.below hb1 X.out.lt; have R1 := R.out.below hb1 R.out.lt; have O1 := O.out.below hb1 O.out.lt; have hB1 := hB.trans (hb1.mono hB.size)))
  have s9' := s9 X1 (by have := X1.lt; exact this) (Below.refl w1.heap.size w1).drew
  have hz1' : w.heap.size + 1 + 1 < w1.heap.size := O1.lt
  refine wp_region_held_drew (S := fun W => W.cell? ⟨w.heap.size, 0, none⟩ = some (.int .u64 E) ∧ W.cell? ⟨w.heap.size, 1, none⟩ = some (.int .i64 r0) ∧ W.cell? ⟨w.heap.size, 2, none⟩ = some (.int .i64 r1) ∧ W.cell? ⟨w.heap.size, 3, none⟩ = some (.int .i64 r2) ∧ W.cell? ⟨w.heap.size, 4, none⟩ = some (.int .i64 r3) ∧ W.cell? ⟨w.heap.size, 5, none⟩ = some (.int .i64 r4) ∧ W.cell? ⟨w.heap.size, 6, none⟩ = some (.int .i64 r5) ∧ W.cell? ⟨w.heap.size, 7, none⟩ = some (.int .i64 r6) ∧ W.cell? ⟨w.heap.size, 8, none⟩ = some (.int .i64 r7) ∧ Below w1.heap.size w1 W) (by kernel_rfl) ?_ (fun hHeld => ?_)
  · (try dsimp only)
    (first | assumption | exact s9' | exact hS4)
  first | (refine wpAnyH_take (i := 0) (v := ?_) rfl (by kernel_rfl) (by kernel_rfl) (by kernel_rfl) (fun _ _ _ h => h) (Or.inl ⟨by rfl, ?_⟩) (by assumption) ?_; rotate_left; (focus (intro w hSw; (try dsimp only at hSw); go_simp; first | done | with_reducible rfl))) | (refine wpAnyH_take (i := 0) rfl (by kernel_rfl) (by kernel_rfl) (by kernel_rfl) (fun _ _ _ h => h) (Or.inr ⟨by rfl, rfl⟩) (by assumption) ?_) | fail
  try simp only [Act.put, List.getElem_toArray, List.getElem_cons_zero, List.getElem_cons_succ, List.setIfInBounds_toArray, List.set_cons_zero, List.set_cons_succ]
  first | (refine wpAnyH_take (i := 2) (v := ?_) rfl (by kernel_rfl) (by kernel_rfl) (by kernel_rfl) (fun _ _ _ h => h) (Or.inl ⟨by rfl, ?_⟩) (by assumption) ?_; rotate_left; (focus (intro w hSw; (try dsimp only at hSw); go_simp; first | done | with_reducible rfl))) | (refine wpAnyH_take (i := 2) rfl (by kernel_rfl) (by kernel_rfl) (by kernel_rfl) (fun _ _ _ h => h) (Or.inr ⟨by rfl, rfl⟩) (by assumption) ?_) | fail
  try simp only [Act.put, List.getElem_toArray, List.getElem_cons_zero, List.getElem_cons_succ, List.setIfInBounds_toArray, List.set_cons_zero, List.set_cons_succ]
  refine wpAnyH_ready (rs := [1]) (by kernel_rfl) (by simp) (AllReadyH.cons rfl (fun K hK => ?_) AllReadyH.nil)
  (try go_simp)
  have hS := (by assumption : _ ∧ _ ∧ _ ∧ _ ∧ _ ∧ _ ∧ _ ∧ _ ∧ _ ∧ Below _ _ _).2.2.2.2.2.2.2.2.2
  refine (rline0_any _ _ _ _ _ _ _ _ _ _ hE hr0 hr1 hr2 hr3 hr4 hr5 hr6 hr7).mono ?_
  rintro e w2 ⟨v2, rfl, own2, hb2⟩
  have hbe2 := hS.trans (hb2.mono hS.size)
  have own2 := own_mono own2 hS.size
  have hS' := s9 X1 X1.lt hbe2
  clear hS hb2
  refine hK.out _ _ ?_ (fun hHeld => ?_)
  · (try dsimp only)
    (first | assumption | exact s9' | exact hS4)
  clear hK K
  try simp only [Act.put, List.getElem_toArray, List.getElem_cons_zero, List.getElem_cons_succ, List.setIfInBounds_toArray, List.set_cons_zero, List.set_cons_succ]
  refine wpAnyH_ready (rs := [3]) (by kernel_rfl) (by simp) (AllReadyH.cons rfl (fun K hK => ?_) AllReadyH.nil)
  (try go_simp)
  refine (rline1_any _ _ _ _ _ _ _ _ _ _ hE hr0 hr1 hr2 hr3 hr4 hr5 hr6 hr7).mono ?_
  rintro e w3 ⟨v3, rfl, own3, hb3⟩
  have hbe3 := hbe2.trans (hb3.mono hbe2.size)
  have own3 := own_mono own3 hbe2.size
  have own2' := own_below own2 hb3
  have hS' := s9 X1 X1.lt hbe3
  clear hb3
  obtain ⟨A3, c3, rfl, hn3, hm3, _⟩ := own_shape own3
  obtain ⟨g3, rfl, _⟩ := own_in own3 (j := 0) (by omega)
  refine hK.out _ _ ?_ (fun hHeld => ?_)
  · (try dsimp only)
    (first | assumption | exact s9' | exact hS4)
  clear hK K
  try simp only [Act.put, List.getElem_toArray, List.getElem_cons_zero, List.getElem_cons_succ, List.setIfInBounds_toArray, List.set_cons_zero, List.set_cons_succ]
  refine wpAnyH_ready (rs := [4]) (by kernel_rfl) (by simp) (AllReadyH.cons rfl (fun K hK => ?_) AllReadyH.nil)
  refine wanted_plain rfl ?_
  refine wp_append_own (P := Try.prog) w3 (.tmp 9) (.tmp 11) 55 rfl w1.heap.size 22 i0 (.int .u64 0) 1 8 Try.underlying55 hi0 hz0 hz1 hz2 rfl (by decide) v2 8 _ rfl own2' ⟨g3, 0, none⟩ 8 c3 [.int .u64 E, .int .u64 r4, .int .u64 r5, .int .u64 r6, .int .u64 r7, .int .u64 1, .int .u64 0, .int .u64 (St.sum1 E r4 r5 r6 r7)] rfl rfl (fun j u hj => by have hl := (List.getElem?_eq_some_iff.1 hj).1; have e : ((⟨g3, 0, none⟩ : Addr).add j) = ⟨g3, j, none⟩ := (by unfold Addr.add; split <;> simp_all); rw [e, own3.cellAt j (by simpa using hl), hj]) (by simp [Value.oneCell']) (by unfold maxLen; omega) (by omega) hbe3.size ?_
  intro v4 w4 own4 hg4 _
  have hbe4 := hbe3.grown hg4 hbe3.size (fun k hk => ownBlock_ge own2' k hk)
  have hS4 := s9 X1 X1.lt hbe4
  refine hK.out _ _ ?_ (fun hHeld => ?_)
  · (try dsimp only)
    (first | assumption | exact s9' | exact hS4)
  clear hK K
  try simp only [Act.put, List.getElem_toArray, List.getElem_cons_zero, List.getElem_cons_succ, List.setIfInBounds_toArray, List.set_cons_zero, List.set_cons_succ]
  first | (refine wpAnyH_take (i := 5) (v := ?_) rfl (by kernel_rfl) (by kernel_rfl) (by kernel_rfl) (fun _ _ _ h => h) (Or.inl ⟨by rfl, ?_⟩) (by assumption) ?_; rotate_left; (focus (intro w hSw; (try dsimp only at hSw); go_simp; first | done | with_reducible rfl))) | (refine wpAnyH_take (i := 5) rfl (by kernel_rfl) (by kernel_rfl) (by kernel_rfl) (fun _ _ _ h => h) (Or.inr ⟨by rfl, rfl⟩) (by assumption) ?_) | fail
  try simp only [Act.put, List.getElem_toArray, List.getElem_cons_zero, List.getElem_cons_succ, List.setIfInBounds_toArray, List.set_cons_zero, List.set_cons_succ]
  refine wpAnyH_done (by kernel_rfl) ?_ _
  have R4 := R1.below hbe4 R1.lt
  have O4 := O1.below hbe4 O1.lt
  have hB4 := hB1.trans (hbe4.mono hB1.size)
  replace own4 : w4.ownsRow w1.heap.size 22 1 v4 16 ([E, r0, r1, r2, r3, 0, 0, (St.sum0 E r0 r1 r2 r3), E, r4, r5, r6, r7, 1, 0, (St.sum1 E r4 r5 r6 r7)].map (Value.int .u64)) := own4
  obtain ⟨A4, c4, rfl, hn4, hm4, _⟩ := own_shape own4
  obtain ⟨g4, rfl, hg4b, _⟩ := own_in own4 (j := 0) (by omega)
  go_wp2_with fail
  have O4' : Blk w4 (w.heap.size + 1 + 1) ((([E, r0, r1, r2, r3, 0, 0, (St.sum0 E r0 r1 r2 r3), E, r4, r5, r6, r7, 1, 0, (St.sum1 E r4 r5 r6 r7)].take 0) ++ List.replicate (16 - 0) 0).map (Value.int .u64)).toArray 39 := O4
  go_loopw [5] (fun t wr => ∃ k : Nat, k ≤ 16 ∧ t = .int .i64 k ∧ Blk wr (w.heap.size + 1 + 1) ((([E, r0, r1, r2, r3, 0, 0, (St.sum0 E r0 r1 r2 r3), E, r4, r5, r6, r7, 1, 0, (St.sum1 E r4 r5 r6 r7)].take k) ++ List.replicate (16 - k) 0).map (Value.int .u64)).toArray 39 ∧ Blk wr (w.heap.size + 1) #[.int .u64 0, .int .u64 0, .int .u64 0, .int .u64 0, .int .u64 0, .int .u64 0, .int .u64 0, .int .u64 0, .int .u64 0, .int .u64 0, .int .u64 0, .int .u64 0, .int .u64 0, .int .u64 0, .int .u64 0, .int .u64 0] 39 ∧ wr.ownsRow w1.heap.size 22 1 (.slice (some ⟨g4, 0, none⟩) 16 c4) 16 ([E, r0, r1, r2, r3, 0, 0, (St.sum0 E r0 r1 r2 r3), E, r4, r5, r6, r7, 1, 0, (St.sum1 E r4 r5 r6 r7)].map (Value.int .u64)) ∧ Below w.heap.size w wr) (fun t _ => 16 - (intOf t).toNat)
  case atStart => exact ⟨0, by omega, rfl, O4', R4, own4, hB4⟩
  case round =>
    clear O4' O4 R4 own4 hB4 hS4 hbe4 hg4
    obtain ⟨k, hk, rfl, Ok, Rk, ownk, hBk⟩ := hrel
    by_cases hlt : k < 16
    · obtain ⟨x, hx⟩ : ∃ x, [E, r0, r1, r2, r3, 0, 0, (St.sum0 E r0 r1 r2 r3), E, r4, r5, r6, r7, 1, 0, (St.sum1 E r4 r5 r6 r7)][k]? = some x := ⟨_, List.getElem?_eq_getElem hlt⟩
      have hlen : ([E, r0, r1, r2, r3, 0, 0, (St.sum0 E r0 r1 r2 r3), E, r4, r5, r6, r7, 1, 0, (St.sum1 E r4 r5 r6 r7)].take k).length = k := by rw [List.length_take]; show min k 16 = k; omega
      have hc := ownk.cellAt k (by omega)
      rw [List.getElem?_map, hx] at hc
      have hc : wr.cell? ⟨g4, k, none⟩ = some (.int .u64 x) := hc
      have hoc := Ok.cell k (.int .u64 0) (by rw [List.getElem?_toArray, List.getElem?_map, Xp.fill_get _ _ 16 k hlen hlt]; rfl)
      have hof := Ok.frozen k
      have hset := Ok.set k (.int .u64 x)
      rw [List.setIfInBounds_toArray, ← List.map_set, Xp.set_fill _ 0 x 16 k hlen hlt, ← take_succ_of hx] at hset
      have N1 := Lib.hid hset
      have N2 := Lib.hid (Rk.other ⟨w.heap.size + 1 + 1, k, none⟩ (.int .u64 x) (by simp))
      have N3 := Lib.hid (own_other ownk ⟨w.heap.size + 1 + 1, k, none⟩ (.int .u64 x) (by simpa using hz1'))
      have N4 := Lib.hid (hBk.setCell (p := ⟨w.heap.size + 1 + 1, k, none⟩) (by first | (simp; done) | (simp; omega)) (.int .u64 x))
      clear hset hx hlen
      go_wp2_with fail
      go_roundw
      case rel => exact ⟨k + 1, by omega, by go_num, N1.out, N2.out, N3.out, N4.out⟩
      case measure => simp [intOf] <;> omega
    · obtain rfl : k = 16 := by omega
      have O5 : Blk wr (w.heap.size + 1 + 1) #[.int .u64 E, .int .u64 r0, .int .u64 r1, .int .u64 r2, .int .u64 r3, .int .u64 0, .int .u64 0, .int .u64 (St.sum0 E r0 r1 r2 r3), .int .u64 E, .int .u64 r4, .int .u64 r5, .int .u64 r6, .int .u64 r7, .int .u64 1, .int .u64 0, .int .u64 (St.sum1 E r4 r5 r6 r7)] 39 := Ok
      go_wp2_with (first
        | (refine wpList_load_row (P := Try.prog) rfl 39 (.tmp 3) rfl (w.heap.size + 1 + 1) rfl _ #[.int .u64 E, .int .u64 r0, .int .u64 r1, .int .u64 r2, .int .u64 r3, .int .u64 0, .int .u64 0, .int .u64 (St.sum0 E r0 r1 r2 r3), .int .u64 E, .int .u64 r4, .int .u64 r5, .int .u64 r6, .int .u64 r7, .int .u64 1, .int .u64 0, .int .u64 (St.sum1 E r4 r5 r6 r7)] (0, 0) _ O5 Try.underlying39 rfl (by kernel_rfl) ?_)
        | (refine wpList_store_row (P := Try.prog) rfl 39 (.tmp 2) (.tmp 23) rfl (w.heap.size + 1) _ #[.int .u64 E, .int .u64 r0, .int .u64 r1, .int .u64 r2, .int .u64 r3, .int .u64 0, .int .u64 0, .int .u64 (St.sum0 E r0 r1 r2 r3), .int .u64 E, .int .u64 r4, .int .u64 r5, .int .u64 r6, .int .u64 r7, .int .u64 1, .int .u64 0, .int .u64 (St.sum1 E r4 r5 r6 r7)] _ rfl rfl Rk rfl HI.out (by kernel_rfl) HONE.out ?_))
      exact bodyPost_ret (v := .agg #[.int .u64 E, .int .u64 r0, .int .u64 r1, .int .u64 r2, .int .u64 r3, .int .u64 0, .int .u64 0, .int .u64 (St.sum0 E r0 r1 r2 r3), .int .u64 E, .int .u64 r4, .int .u64 r5, .int .u64 r6, .int .u64 r7, .int .u64 1, .int .u64 0, .int .u64 (St.sum1 E r4 r5 r6 r7)]) (results_cell_row rfl _ _ (w.heap.size + 1) _ #[.int .u64 E, .int .u64 r0, .int .u64 r1, .int .u64 r2, .int .u64 r3, .int .u64 0, .int .u64 0, .int .u64 (St.sum0 E r0 r1 r2 r3), .int .u64 E, .int .u64 r4, .int .u64 r5, .int .u64 r6, .int .u64 r7, .int .u64 1, .int .u64 0, .int .u64 (St.sum1 E r4 r5 r6 r7)] (0, 0) _ rfl (setRow_heap _ _ _ _ _ _ Rk) Try.underlying39 rfl (by kernel_rfl)) rfl ⟨rfl, below_setRow hBk (by first | omega | (simp; done)) _⟩
end Go.Proofs.Ytgcjagffoeoldaa
