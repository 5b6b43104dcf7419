/- What Encode makes of a slot: the code's. -/
import Derived.Test.YtgcjagffoeoldaaSlot1
namespace Go.Proofs.Ytgcjagffoeoldaa
open Go.RowKit
set_option linter.unusedVariables false
set_option linter.unusedSimpArgs false
set_option maxHeartbeats 8000000
set_option maxRecDepth 100000
theorem isSome16 : (Try.prog.info? 39).isSome = true := by kernel_rfl
theorem RowAt.of_blk_at {W : World} {b : Nat} {cs : Array Value} {T : TypeId} (h : Blk W b cs T) (off m : Nat) (hm : off + m ≤ cs.size) : RowAt W W.heap.size (some ⟨b, off, none⟩) m ((cs.toList.drop off).take m) := by
  refine ⟨by simp; omega, fun _ => ⟨b, off, rfl, h.lt, fun j u hu => ?_⟩⟩
  have hj : j < m := by
    have := (List.getElem?_eq_some_iff.1 hu).1
    simp at this; omega
  rw [List.getElem?_take_of_lt hj, List.getElem?_drop] at hu
  exact h.cell (off + j) u (by simpa using hu)
theorem slrow_wf (E a b c d n : Int) (hE : 0 ≤ E ∧ E ≤ 18446744073709551615) (ha : 0 ≤ a ∧ a ≤ 131071) (hb : 0 ≤ b ∧ b ≤ 131071) (hc : 0 ≤ c ∧ c ≤ 131071) (hd : 0 ≤ d ∧ d ≤ 131071) (hn : 0 ≤ n ∧ n ≤ 1) : Ints .u64 [E, a, b, c, d, n, 0] := by
  intro x hx
  simp at hx
  apply wf_u64
  rcases hx with rfl | rfl | rfl | rfl | rfl | rfl | rfl <;> omega
theorem slEnc_no (E r0 r1 r2 r3 r4 r5 r6 r7 : Int) (w : World) (hE : 0 ≤ E ∧ E ≤ 18446744073709551615) (hR : ∀ r ∈ [r0, r1, r2, r3, r4, r5, r6, r7], I64 r) (h : St.rightB E [r0, r1, r2, r3, r4, r5, r6, r7] = false) :
    Calls Try.prog 24 #[.agg #[.int .u64 E, .int .i64 r0, .int .i64 r1, .int .i64 r2, .int .i64 r3, .int .i64 r4, .int .i64 r5, .int .i64 r6, .int .i64 r7]] w fun e w' => e = .returned (.agg #[.int .u64 0, .int .u64 0, .int .u64 0, .int .u64 0, .int .u64 0, .int .u64 0, .int .u64 0, .int .u64 0, .int .u64 0, .int .u64 0, .int .u64 0, .int .u64 0, .int .u64 0, .int .u64 0, .int .u64 0, .int .u64 0]) ∧ Below w.heap.size w w' := by
  have HRR := Lib.hid hR
  clear hR
  obtain ⟨i16, hi16⟩ := Option.isSome_iff_exists.1 isSome16
  have HI := Lib.hid hi16
  clear hi16
  have hone : ∀ v ∈ (#[.int .u64 0, .int .u64 0, .int .u64 0, .int .u64 0, .int .u64 0, .int .u64 0, .int .u64 0, .int .u64 0, .int .u64 0, .int .u64 0, .int .u64 0, .int .u64 0, .int .u64 0, .int .u64 0, .int .u64 0, .int .u64 0] : Array Value).toList, v.oneCell' = true := by simp [Value.oneCell']
  have HONE := Lib.hid hone
  clear hone
  have X := Lib.hid (((Blk.new w #[.int .u64 E, .int .i64 r0, .int .i64 r1, .int .i64 r2, .int .i64 r3, .int .i64 r4, .int .i64 r5, .int .i64 r6, .int .i64 r7] 38).alloc (.cells #[.int .u64 0, .int .u64 0, .int .u64 0, .int .u64 0, .int .u64 0, .int .u64 0, .int .u64 0, .int .u64 0, .int .u64 0, .int .u64 0, .int .u64 0, .int .u64 0, .int .u64 0, .int .u64 0, .int .u64 0, .int .u64 0] 39)).alloc (.cells #[.int .u64 0, .int .u64 0, .int .u64 0, .int .u64 0, .int .u64 0, .int .u64 0, .int .u64 0, .int .u64 0, .int .u64 0, .int .u64 0, .int .u64 0, .int .u64 0, .int .u64 0, .int .u64 0, .int .u64 0, .int .u64 0] 39))
  have R := Lib.hid ((Blk.new1 w (.cells #[.int .u64 E, .int .i64 r0, .int .i64 r1, .int .i64 r2, .int .i64 r3, .int .i64 r4, .int .i64 r5, .int .i64 r6, .int .i64 r7] 38) #[.int .u64 0, .int .u64 0, .int .u64 0, .int .u64 0, .int .u64 0, .int .u64 0, .int .u64 0, .int .u64 0, .int .u64 0, .int .u64 0, .int .u64 0, .int .u64 0, .int .u64 0, .int .u64 0, .int .u64 0, .int .u64 0] 39).alloc (.cells #[.int .u64 0, .int .u64 0, .int .u64 0, .int .u64 0, .int .u64 0, .int .u64 0, .int .u64 0, .int .u64 0, .int .u64 0, .int .u64 0, .int .u64 0, .int .u64 0, .int .u64 0, .int .u64 0, .int .u64 0, .int .u64 0] 39))
  have O := Lib.hid (Blk.new2 w (.cells #[.int .u64 E, .int .i64 r0, .int .i64 r1, .int .i64 r2, .int .i64 r3, .int .i64 r4, .int .i64 r5, .int .i64 r6, .int .i64 r7] 38) (.cells #[.int .u64 0, .int .u64 0, .int .u64 0, .int .u64 0, .int .u64 0, .int .u64 0, .int .u64 0, .int .u64 0, .int .u64 0, .int .u64 0, .int .u64 0, .int .u64 0, .int .u64 0, .int .u64 0, .int .u64 0, .int .u64 0] 39) #[.int .u64 0, .int .u64 0, .int .u64 0, .int .u64 0, .int .u64 0, .int .u64 0, .int .u64 0, .int .u64 0, .int .u64 0, .int .u64 0, .int .u64 0, .int .u64 0, .int .u64 0, .int .u64 0, .int .u64 0, .int .u64 0] 39)
  have hB : Below w.heap.size w (((w.alloc (.cells #[.int .u64 E, .int .i64 r0, .int .i64 r1, .int .i64 r2, .int .i64 r3, .int .i64 r4, .int .i64 r5, .int .i64 r6, .int .i64 r7] 38)).alloc (.cells #[.int .u64 0, .int .u64 0, .int .u64 0, .int .u64 0, .int .u64 0, .int .u64 0, .int .u64 0, .int .u64 0, .int .u64 0, .int .u64 0, .int .u64 0, .int .u64 0, .int .u64 0, .int .u64 0, .int .u64 0, .int .u64 0] 39)).alloc (.cells #[.int .u64 0, .int .u64 0, .int .u64 0, .int .u64 0, .int .u64 0, .int .u64 0, .int .u64 0, .int .u64 0, .int .u64 0, .int .u64 0, .int .u64 0, .int .u64 0, .int .u64 0, .int .u64 0, .int .u64 0, .int .u64 0] 39)) := (((Below.refl _ _).alloc (Nat.le_refl _) _).alloc (by simp) _).alloc (by simp; omega) _
  go_enter Try.func24, Try.ntmps24
  go_wp2_with (first
    | (go_at_call 21; refine (slRight_any _ _ _ _ _ _ _ _ _ _ hE HRR.out).mono ?_; rintro e w1 ⟨rfl, hb1⟩; have X1 := X.out.below hb1 X.out.lt; have R1 := R.out.below hb1 R.out.lt; have O1 := O.out.below hb1 O.out.lt; have hB1 := hB.trans (hb1.mono hB.size))
    | (refine wpList_load_row (P := Try.prog) rfl 39 (.tmp 3) rfl (w.heap.size + 1 + 1) rfl _ #[.int .u64 0, .int .u64 0, .int .u64 0, .int .u64 0, .int .u64 0, .int .u64 0, .int .u64 0, .int .u64 0, .int .u64 0, .int .u64 0, .int .u64 0, .int .u64 0, .int .u64 0, .int .u64 0, .int .u64 0, .int .u64 0] (0, 0) _ O1 Try.underlying39 rfl (by kernel_rfl) ?_)
    | (refine wpList_store_row (P := Try.prog) rfl 39 (.tmp 2) (.tmp 10) rfl (w.heap.size + 1) _ #[.int .u64 0, .int .u64 0, .int .u64 0, .int .u64 0, .int .u64 0, .int .u64 0, .int .u64 0, .int .u64 0, .int .u64 0, .int .u64 0, .int .u64 0, .int .u64 0, .int .u64 0, .int .u64 0, .int .u64 0, .int .u64 0] _ rfl rfl R1 rfl HI.out (by kernel_rfl) HONE.out ?_))
  exact bodyPost_ret (v := .agg #[.int .u64 0, .int .u64 0, .int .u64 0, .int .u64 0, .int .u64 0, .int .u64 0, .int .u64 0, .int .u64 0, .int .u64 0, .int .u64 0, .int .u64 0, .int .u64 0, .int .u64 0, .int .u64 0, .int .u64 0, .int .u64 0]) (results_cell_row rfl _ _ (w.heap.size + 1) _ #[.int .u64 0, .int .u64 0, .int .u64 0, .int .u64 0, .int .u64 0, .int .u64 0, .int .u64 0, .int .u64 0, .int .u64 0, .int .u64 0, .int .u64 0, .int .u64 0, .int .u64 0, .int .u64 0, .int .u64 0, .int .u64 0] (0, 0) _ rfl (setRow_heap _ _ _ _ _ _ R1) Try.underlying39 rfl (by kernel_rfl)) rfl ⟨rfl, below_setRow hB1 (by first | omega | (simp; done)) _⟩
theorem slEnc_yes (E r0 r1 r2 r3 r4 r5 r6 r7 : Int) (w : World) (hE : 0 ≤ E ∧ E ≤ 18446744073709551615) (hE0 : 0 < E) (hr0 : 0 ≤ r0 ∧ r0 ≤ 131071) (hr1 : 0 ≤ r1 ∧ r1 ≤ 131071) (hr2 : 0 ≤ r2 ∧ r2 ≤ 131071) (hr3 : 0 ≤ r3 ∧ r3 ≤ 131071) (hr4 : 0 ≤ r4 ∧ r4 ≤ 131071) (hr5 : 0 ≤ r5 ∧ r5 ≤ 131071) (hr6 : 0 ≤ r6 ∧ r6 ≤ 131071) (hr7 : 0 ≤ r7 ∧ r7 ≤ 131071) :
    Calls Try.prog 24 #[.agg #[.int .u64 E, .int .i64 r0, .int .i64 r1, .int .i64 r2, .int .i64 r3, .int .i64 r4, .int .i64 r5, .int .i64 r6, .int .i64 r7]] w fun e w' => e = .returned (.agg #[.int .u64 E, .int .u64 r0, .int .u64 r1, .int .u64 r2, .int .u64 r3, .int .u64 0, .int .u64 0, .int .u64 (St.sum0 E r0 r1 r2 r3), .int .u64 E, .int .u64 r4, .int .u64 r5, .int .u64 r6, .int .u64 r7, .int .u64 1, .int .u64 0, .int .u64 (St.sum1 E r4 r5 r6 r7)]) ∧ Below w.heap.size w w' := by
  have hRb : St.okR [r0, r1, r2, r3, r4, r5, r6, r7] := by
    intro r hr
    simp at hr
    rcases hr with rfl | rfl | rfl | rfl | rfl | rfl | rfl | rfl <;> assumption
  have hrb := St.rightB_yes E _ hRb hE0
  have HRR := Lib.hid (fun r hr => (⟨by have := hRb r hr; omega, by have := hRb r hr; omega⟩ : I64 r))
  have S0 := St.sum0_bd E r0 r1 r2 r3
  have S1 := St.sum1_bd E r4 r5 r6 r7
  have W0 := Lib.hid (slrow_wf E r0 r1 r2 r3 0 hE hr0 hr1 hr2 hr3 (by omega))
  have W1 := Lib.hid (slrow_wf E r4 r5 r6 r7 1 hE hr4 hr5 hr6 hr7 (by omega))
  clear hRb
  obtain ⟨i16, hi16⟩ := Option.isSome_iff_exists.1 isSome16
  have HI := Lib.hid hi16
  clear hi16
  have hone : ∀ v ∈ (#[.int .u64 E, .int .u64 r0, .int .u64 r1, .int .u64 r2, .int .u64 r3, .int .u64 0, .int .u64 0, .int .u64 (St.sum0 E r0 r1 r2 r3), .int .u64 E, .int .u64 r4, .int .u64 r5, .int .u64 r6, .int .u64 r7, .int .u64 1, .int .u64 0, .int .u64 (St.sum1 E r4 r5 r6 r7)] : Array Value).toList, v.oneCell' = true := by simp [Value.oneCell']
  have HONE := Lib.hid hone
  clear hone
  have X := Lib.hid (((Blk.new w #[.int .u64 E, .int .i64 r0, .int .i64 r1, .int .i64 r2, .int .i64 r3, .int .i64 r4, .int .i64 r5, .int .i64 r6, .int .i64 r7] 38).alloc (.cells #[.int .u64 0, .int .u64 0, .int .u64 0, .int .u64 0, .int .u64 0, .int .u64 0, .int .u64 0, .int .u64 0, .int .u64 0, .int .u64 0, .int .u64 0, .int .u64 0, .int .u64 0, .int .u64 0, .int .u64 0, .int .u64 0] 39)).alloc (.cells #[.int .u64 0, .int .u64 0, .int .u64 0, .int .u64 0, .int .u64 0, .int .u64 0, .int .u64 0, .int .u64 0, .int .u64 0, .int .u64 0, .int .u64 0, .int .u64 0, .int .u64 0, .int .u64 0, .int .u64 0, .int .u64 0] 39))
  have R := Lib.hid ((Blk.new1 w (.cells #[.int .u64 E, .int .i64 r0, .int .i64 r1, .int .i64 r2, .int .i64 r3, .int .i64 r4, .int .i64 r5, .int .i64 r6, .int .i64 r7] 38) #[.int .u64 0, .int .u64 0, .int .u64 0, .int .u64 0, .int .u64 0, .int .u64 0, .int .u64 0, .int .u64 0, .int .u64 0, .int .u64 0, .int .u64 0, .int .u64 0, .int .u64 0, .int .u64 0, .int .u64 0, .int .u64 0] 39).alloc (.cells #[.int .u64 0, .int .u64 0, .int .u64 0, .int .u64 0, .int .u64 0, .int .u64 0, .int .u64 0, .int .u64 0, .int .u64 0, .int .u64 0, .int .u64 0, .int .u64 0, .int .u64 0, .int .u64 0, .int .u64 0, .int .u64 0] 39))
  have O := Lib.hid (Blk.new2 w (.cells #[.int .u64 E, .int .i64 r0, .int .i64 r1, .int .i64 r2, .int .i64 r3, .int .i64 r4, .int .i64 r5, .int .i64 r6, .int .i64 r7] 38) (.cells #[.int .u64 0, .int .u64 0, .int .u64 0, .int .u64 0, .int .u64 0, .int .u64 0, .int .u64 0, .int .u64 0, .int .u64 0, .int .u64 0, .int .u64 0, .int .u64 0, .int .u64 0, .int .u64 0, .int .u64 0, .int .u64 0] 39) #[.int .u64 0, .int .u64 0, .int .u64 0, .int .u64 0, .int .u64 0, .int .u64 0, .int .u64 0, .int .u64 0, .int .u64 0, .int .u64 0, .int .u64 0, .int .u64 0, .int .u64 0, .int .u64 0, .int .u64 0, .int .u64 0] 39)
  have hB : Below w.heap.size w (((w.alloc (.cells #[.int .u64 E, .int .i64 r0, .int .i64 r1, .int .i64 r2, .int .i64 r3, .int .i64 r4, .int .i64 r5, .int .i64 r6, .int .i64 r7] 38)).alloc (.cells #[.int .u64 0, .int .u64 0, .int .u64 0, .int .u64 0, .int .u64 0, .int .u64 0, .int .u64 0, .int .u64 0, .int .u64 0, .int .u64 0, .int .u64 0, .int .u64 0, .int .u64 0, .int .u64 0, .int .u64 0, .int .u64 0] 39)).alloc (.cells #[.int .u64 0, .int .u64 0, .int .u64 0, .int .u64 0, .int .u64 0, .int .u64 0, .int .u64 0, .int .u64 0, .int .u64 0, .int .u64 0, .int .u64 0, .int .u64 0, .int .u64 0, .int .u64 0, .int .u64 0, .int .u64 0] 39)) := (((Below.refl _ _).alloc (Nat.le_refl _) _).alloc (by simp) _).alloc (by simp; omega) _
  go_enter Try.func24, Try.ntmps24
  go_wp2_with (first
    | (go_at_call 21; refine (slRight_any _ _ _ _ _ _ _ _ _ _ hE HRR.out).mono ?_; rintro e w1 ⟨rfl, hb1⟩; have X1 := X.out.below hb1 X.out.lt; have R1 := R.out.below hb1 R.out.lt; have O1 := O.out.below hb1 O.out.lt; have hB1 := hB.trans (hb1.mono hB.size)))
  have ac0 := O1.cell 0 _ rfl
  have af0 := O1.frozen 0
  have ac1 := O1.cell 1 _ rfl
  have af1 := O1.frozen 1
  have ac2 := O1.cell 2 _ rfl
  have af2 := O1.frozen 2
  have ac3 := O1.cell 3 _ rfl
  have af3 := O1.frozen 3
  have ac4 := O1.cell 4 _ rfl
  have af4 := O1.frozen 4
  have ac5 := O1.cell 5 _ rfl
  have af5 := O1.frozen 5
  have ac6 := O1.cell 6 _ rfl
  have af6 := O1.frozen 6
  have ac7 := O1.cell 7 _ rfl
  have af7 := O1.frozen 7
  have ac8 := O1.cell 8 _ rfl
  have af8 := O1.frozen 8
  have ac9 := O1.cell 9 _ rfl
  have af9 := O1.frozen 9
  have ac10 := O1.cell 10 _ rfl
  have af10 := O1.frozen 10
  have ac11 := O1.cell 11 _ rfl
  have af11 := O1.frozen 11
  have ac12 := O1.cell 12 _ rfl
  have af12 := O1.frozen 12
  have ac13 := O1.cell 13 _ rfl
  have af13 := O1.frozen 13
  have ac14 := O1.cell 14 _ rfl
  have af14 := O1.frozen 14
  have ac15 := O1.cell 15 _ rfl
  have af15 := O1.frozen 15
  have x0 := X1.cell 0 _ rfl
  have x1 := X1.cell 1 _ rfl
  have x2 := X1.cell 2 _ rfl
  have x3 := X1.cell 3 _ rfl
  have x4 := X1.cell 4 _ rfl
  have x5 := X1.cell 5 _ rfl
  have x6 := X1.cell 6 _ rfl
  have x7 := X1.cell 7 _ rfl
  have x8 := X1.cell 8 _ rfl
  refine wp_loop_rounds 3 ?_
  rw [rounds_succ]
  go_wp2_with fail
  refine wp_loop_rounds 5 ?_
  rw [rounds_succ]
  go_wp2_with fail
  rw [rounds_succ]
  go_wp2_with fail
  rw [rounds_succ]
  go_wp2_with fail
  rw [rounds_succ]
  go_wp2_with fail
  rw [rounds_succ]
  go_wp2_with fail
  have Oa : Blk _ (w.heap.size + 1 + 1) #[.int .u64 E, .int .u64 r0, .int .u64 r1, .int .u64 r2, .int .u64 r3, .int .u64 0, .int .u64 0, .int .u64 0, .int .u64 0, .int .u64 0, .int .u64 0, .int .u64 0, .int .u64 0, .int .u64 0, .int .u64 0, .int .u64 0] 39 := ((((((O1).set 0 (.int .u64 E)).set 1 (.int .u64 r0)).set 2 (.int .u64 r1)).set 3 (.int .u64 r2)).set 4 (.int .u64 r3)).set 5 (.int .u64 0)
  have hcha := (((((((Below.refl (w.heap.size + 1 + 1) w1)).setCell (p := ⟨w.heap.size + 1 + 1, 0, none⟩) (Nat.le_refl _) (.int .u64 E)).setCell (p := ⟨w.heap.size + 1 + 1, 1, none⟩) (Nat.le_refl _) (.int .u64 r0)).setCell (p := ⟨w.heap.size + 1 + 1, 2, none⟩) (Nat.le_refl _) (.int .u64 r1)).setCell (p := ⟨w.heap.size + 1 + 1, 3, none⟩) (Nat.le_refl _) (.int .u64 r2)).setCell (p := ⟨w.heap.size + 1 + 1, 4, none⟩) (Nat.le_refl _) (.int .u64 r3)).setCell (p := ⟨w.heap.size + 1 + 1, 5, none⟩) (Nat.le_refl _) (.int .u64 0)
  refine (crcWords_any _ 7 _ [E, r0, r1, r2, r3, 0, 0] _ _ (RowAt.of_blk_at Oa 0 7 (by simp)) W0.out (by omega) (Nat.le_refl _)).mono ?_
  rintro e w2 ⟨rfl, hba⟩
  rw [show Cr.more 0 (By.bytes [E, r0, r1, r2, r3, 0, 0]) = St.sum0 E r0 r1 r2 r3 from rfl]
  have Oa' := Oa.below hba Oa.lt
  have Xa' := (X1.below hcha (by omega)).below hba (X1.below hcha (by omega)).lt
  have Ra' := (R1.below hcha (by omega)).below hba (R1.below hcha (by omega)).lt
  have hBa' := (hB1.trans (hcha.mono (by omega))).trans (hba.mono (hB1.trans (hcha.mono (by omega))).size)
  clear hcha hba
  clear ac0 af0 ac1 af1 ac2 af2 ac3 af3 ac4 af4 ac5 af5 ac6 af6 ac7 af7 ac8 af8 ac9 af9 ac10 af10 ac11 af11 ac12 af12 ac13 af13 ac14 af14 ac15 af15 x0 x1 x2 x3 x4 x5 x6 x7 x8
  have bc0 := Oa'.cell 0 _ rfl
  have bf0 := Oa'.frozen 0
  have bc1 := Oa'.cell 1 _ rfl
  have bf1 := Oa'.frozen 1
  have bc2 := Oa'.cell 2 _ rfl
  have bf2 := Oa'.frozen 2
  have bc3 := Oa'.cell 3 _ rfl
  have bf3 := Oa'.frozen 3
  have bc4 := Oa'.cell 4 _ rfl
  have bf4 := Oa'.frozen 4
  have bc5 := Oa'.cell 5 _ rfl
  have bf5 := Oa'.frozen 5
  have bc6 := Oa'.cell 6 _ rfl
  have bf6 := Oa'.frozen 6
  have bc7 := Oa'.cell 7 _ rfl
  have bf7 := Oa'.frozen 7
  have bc8 := Oa'.cell 8 _ rfl
  have bf8 := Oa'.frozen 8
  have bc9 := Oa'.cell 9 _ rfl
  have bf9 := Oa'.frozen 9
  have bc10 := Oa'.cell 10 _ rfl
  have bf10 := Oa'.frozen 10
  have bc11 := Oa'.cell 11 _ rfl
  have bf11 := Oa'.frozen 11
  have bc12 := Oa'.cell 12 _ rfl
  have bf12 := Oa'.frozen 12
  have bc13 := Oa'.cell 13 _ rfl
  have bf13 := Oa'.frozen 13
  have bc14 := Oa'.cell 14 _ rfl
  have bf14 := Oa'.frozen 14
  have bc15 := Oa'.cell 15 _ rfl
  have bf15 := Oa'.frozen 15
  have y0 := Xa'.cell 0 _ rfl
  have y1 := Xa'.cell 1 _ rfl
  have y2 := Xa'.cell 2 _ rfl
  have y3 := Xa'.cell 3 _ rfl
  have y4 := Xa'.cell 4 _ rfl
  have y5 := Xa'.cell 5 _ rfl
  have y6 := Xa'.cell 6 _ rfl
  have y7 := Xa'.cell 7 _ rfl
  have y8 := Xa'.cell 8 _ rfl
  go_wp2_with fail
  rw [rounds_succ]
  go_wp2_with fail
  refine wp_loop_rounds 5 ?_
  rw [rounds_succ]
  go_wp2_with fail
  rw [rounds_succ]
  go_wp2_with fail
  rw [rounds_succ]
  go_wp2_with fail
  rw [rounds_succ]
  go_wp2_with fail
  rw [rounds_succ]
  go_wp2_with fail
  have Ob : Blk _ (w.heap.size + 1 + 1) #[.int .u64 E, .int .u64 r0, .int .u64 r1, .int .u64 r2, .int .u64 r3, .int .u64 0, .int .u64 0, .int .u64 (St.sum0 E r0 r1 r2 r3), .int .u64 E, .int .u64 r4, .int .u64 r5, .int .u64 r6, .int .u64 r7, .int .u64 1, .int .u64 0, .int .u64 0] 39 := (((((((Oa').set 7 (.int .u64 (St.sum0 E r0 r1 r2 r3))).set 8 (.int .u64 E)).set 9 (.int .u64 r4)).set 10 (.int .u64 r5)).set 11 (.int .u64 r6)).set 12 (.int .u64 r7)).set 13 (.int .u64 1)
  have hchb := ((((((((Below.refl (w.heap.size + 1 + 1) w2)).setCell (p := ⟨w.heap.size + 1 + 1, 7, none⟩) (Nat.le_refl _) (.int .u64 (St.sum0 E r0 r1 r2 r3))).setCell (p := ⟨w.heap.size + 1 + 1, 8, none⟩) (Nat.le_refl _) (.int .u64 E)).setCell (p := ⟨w.heap.size + 1 + 1, 9, none⟩) (Nat.le_refl _) (.int .u64 r4)).setCell (p := ⟨w.heap.size + 1 + 1, 10, none⟩) (Nat.le_refl _) (.int .u64 r5)).setCell (p := ⟨w.heap.size + 1 + 1, 11, none⟩) (Nat.le_refl _) (.int .u64 r6)).setCell (p := ⟨w.heap.size + 1 + 1, 12, none⟩) (Nat.le_refl _) (.int .u64 r7)).setCell (p := ⟨w.heap.size + 1 + 1, 13, none⟩) (Nat.le_refl _) (.int .u64 1)
  refine (crcWords_any _ 7 _ [E, r4, r5, r6, r7, 1, 0] _ _ (RowAt.of_blk_at Ob 8 7 (by simp)) W1.out (by omega) (Nat.le_refl _)).mono ?_
  rintro e w3 ⟨rfl, hbb⟩
  rw [show Cr.more 0 (By.bytes [E, r4, r5, r6, r7, 1, 0]) = St.sum1 E r4 r5 r6 r7 from rfl]
  have Ob' := Ob.below hbb Ob.lt
  have Xb' := (Xa'.below hchb (by omega)).below hbb (Xa'.below hchb (by omega)).lt
  have Rb' := (Ra'.below hchb (by omega)).below hbb (Ra'.below hchb (by omega)).lt
  have hBb' := (hBa'.trans (hchb.mono (by omega))).trans (hbb.mono (hBa'.trans (hchb.mono (by omega))).size)
  clear hchb hbb
  clear bc0 bf0 bc1 bf1 bc2 bf2 bc3 bf3 bc4 bf4 bc5 bf5 bc6 bf6 bc7 bf7 bc8 bf8 bc9 bf9 bc10 bf10 bc11 bf11 bc12 bf12 bc13 bf13 bc14 bf14 bc15 bf15 y0 y1 y2 y3 y4 y5 y6 y7 y8
  have zc := Ob'.cell 15 _ rfl
  have zf := Ob'.frozen 15
  have Oc : Blk _ (w.heap.size + 1 + 1) #[.int .u64 E, .int .u64 r0, .int .u64 r1, .int .u64 r2, .int .u64 r3, .int .u64 0, .int .u64 0, .int .u64 (St.sum0 E r0 r1 r2 r3), .int .u64 E, .int .u64 r4, .int .u64 r5, .int .u64 r6, .int .u64 r7, .int .u64 1, .int .u64 0, .int .u64 (St.sum1 E r4 r5 r6 r7)] 39 := Ob'.set 15 (.int .u64 (St.sum1 E r4 r5 r6 r7))
  have hchc := (Below.refl (w.heap.size + 1 + 1) w3).setCell (p := ⟨w.heap.size + 1 + 1, 15, none⟩) (Nat.le_refl _) (.int .u64 (St.sum1 E r4 r5 r6 r7))
  have Rc := Rb'.below hchc (by omega)
  have hBc := hBb'.trans (hchc.mono (by omega))
  go_wp2_with fail
  rw [rounds_succ]
  go_wp2_with (first
    | (refine wpList_load_row (P := Try.prog) rfl 39 (.tmp 3) rfl (w.heap.size + 1 + 1) rfl _ #[.int .u64 E, .int .u64 r0, .int .u64 r1, .int .u64 r2, .int .u64 r3, .int .u64 0, .int .u64 0, .int .u64 (St.sum0 E r0 r1 r2 r3), .int .u64 E, .int .u64 r4, .int .u64 r5, .int .u64 r6, .int .u64 r7, .int .u64 1, .int .u64 0, .int .u64 (St.sum1 E r4 r5 r6 r7)] (0, 0) _ Oc Try.underlying39 rfl (by kernel_rfl) ?_)
    | (refine wpList_store_row (P := Try.prog) rfl 39 (.tmp 2) (.tmp 51) rfl (w.heap.size + 1) _ #[.int .u64 E, .int .u64 r0, .int .u64 r1, .int .u64 r2, .int .u64 r3, .int .u64 0, .int .u64 0, .int .u64 (St.sum0 E r0 r1 r2 r3), .int .u64 E, .int .u64 r4, .int .u64 r5, .int .u64 r6, .int .u64 r7, .int .u64 1, .int .u64 0, .int .u64 (St.sum1 E r4 r5 r6 r7)] _ rfl rfl Rc rfl HI.out (by kernel_rfl) HONE.out ?_))
  exact bodyPost_ret (v := .agg #[.int .u64 E, .int .u64 r0, .int .u64 r1, .int .u64 r2, .int .u64 r3, .int .u64 0, .int .u64 0, .int .u64 (St.sum0 E r0 r1 r2 r3), .int .u64 E, .int .u64 r4, .int .u64 r5, .int .u64 r6, .int .u64 r7, .int .u64 1, .int .u64 0, .int .u64 (St.sum1 E r4 r5 r6 r7)]) (results_cell_row rfl _ _ (w.heap.size + 1) _ #[.int .u64 E, .int .u64 r0, .int .u64 r1, .int .u64 r2, .int .u64 r3, .int .u64 0, .int .u64 0, .int .u64 (St.sum0 E r0 r1 r2 r3), .int .u64 E, .int .u64 r4, .int .u64 r5, .int .u64 r6, .int .u64 r7, .int .u64 1, .int .u64 0, .int .u64 (St.sum1 E r4 r5 r6 r7)] (0, 0) _ rfl (setRow_heap _ _ _ _ _ _ Rc) Try.underlying39 rfl (by kernel_rfl)) rfl ⟨rfl, below_setRow hBc (by first | omega | (simp; done)) _⟩
end Go.Proofs.Ytgcjagffoeoldaa
