/- Whether a slot is right, and its lines: the reference's. -/
import Derived.Test.YtgcjagffoeoldaaSlot2
import Derived.Test.YtgcjagffoeoldaaOwn
namespace Go.Proofs.Ytgcjagffoeoldaa
open Go.RowKit
set_option linter.unusedVariables false
set_option linter.unusedSimpArgs false
set_option maxHeartbeats 8000000
set_option maxRecDepth 100000
theorem rslRight_any (E r0 r1 r2 r3 r4 r5 r6 r7 : Int) (w : World) (hE : 0 ≤ E ∧ E ≤ 18446744073709551615) (hR : ∀ r ∈ [r0, r1, r2, r3, r4, r5, r6, r7], I64 r) :
    Calls Try.prog 22 #[.agg #[.int .u64 E, .int .i64 r0, .int .i64 r1, .int .i64 r2, .int .i64 r3, .int .i64 r4, .int .i64 r5, .int .i64 r6, .int .i64 r7]] w fun e w' => e = .returned (.bool (St.rightB E [r0, r1, r2, r3, r4, r5, r6, r7])) ∧ Below w.heap.size w w' := by
  have HR := Lib.hid hR
  have hX : ∀ (k : Nat) (r : Int), [r0, r1, r2, r3, r4, r5, r6, r7][k]? = some r → (w.alloc (.cells #[.int .u64 E, .int .i64 r0, .int .i64 r1, .int .i64 r2, .int .i64 r3, .int .i64 r4, .int .i64 r5, .int .i64 r6, .int .i64 r7] 42)).cell? ⟨w.heap.size, 1 + k, none⟩ = some (.int .i64 r) := by
    intro k r hr
    refine (Blk.new w #[.int .u64 E, .int .i64 r0, .int .i64 r1, .int .i64 r2, .int .i64 r3, .int .i64 r4, .int .i64 r5, .int .i64 r6, .int .i64 r7] 42).cell (1 + k) _ ?_
    have e : (#[.int .u64 E, .int .i64 r0, .int .i64 r1, .int .i64 r2, .int .i64 r3, .int .i64 r4, .int .i64 r5, .int .i64 r6, .int .i64 r7] : Array Value) = (Value.int .u64 E :: [r0, r1, r2, r3, r4, r5, r6, r7].map (Value.int .i64)).toArray := rfl
    rw [e, List.getElem?_toArray, Nat.add_comm, List.getElem?_cons_succ, List.getElem?_map, hr]; rfl
  have HX := Lib.hid hX
  clear hR hX
  go_enter Try.func22, Try.ntmps22
  go_wp2_with fail
  go_loop [3] (fun t => ∃ k : Nat, k ≤ 8 ∧ t = .int .i64 k ∧ St.okR ([r0, r1, r2, r3, r4, r5, r6, r7].take k)) (fun t => 8 - (intOf t).toNat)
  case atStart => exact ⟨0, by omega, rfl, by intro x hx; simp at hx⟩
  case round =>
    obtain ⟨k, hk, rfl, hok⟩ := hrel
    have hok := Lib.hid hok
    by_cases hlt : k < 8
    · obtain ⟨r, hr⟩ : ∃ r, [r0, r1, r2, r3, r4, r5, r6, r7][k]? = some r := ⟨_, List.getElem?_eq_getElem hlt⟩
      have hc := HX.out k r hr
      have hc2 := hc
      rw [Nat.add_comm 1 k] at hc2
      have hb := i64_of _ _ _ _ _ _ _ _ HR.out k r hr
      unfold I64 at hb
      replace hr := Lib.hid hr
      by_cases h1 : 0 ≤ r ∧ r ≤ 131071
      · have hs := Lib.hid (St.okR_take_succ _ k r hr.out hok.out h1)
        go_wp2_with fail
        go_round
        case rel => exact ⟨k + 1, by omega, by go_num, hs.out⟩
        case measure => simp [intOf] <;> omega
      · have ev := Lib.hid (St.rightB_no E _ (fun h => St.okR_not _ k r hr.out h1 h.1))
        rcases (show r < 0 ∨ (0 ≤ r ∧ 131071 < r) from by omega) with g | ⟨g1, g2⟩
        all_goals
          clear h1
          go_wp2_with fail
          go_ret
          exact ⟨ret_bool ev.out.symm, (Below.refl _ _).alloc (Nat.le_refl _) _⟩
    · obtain rfl : k = 8 := by omega
      by_cases h1 : 0 < E
      · have ev := Lib.hid (St.rightB_yes E _ hok.out h1)
        go_wp2_with fail
        go_ret
        exact ⟨by first | exact ret_bool ev.out.symm | (apply ret_bool; rw [show ([r0, r1, r2, r3, r4, r5, r6, r7].take 8) = [r0, r1, r2, r3, r4, r5, r6, r7] from rfl] at ev; rw [ev.out]; simp; omega), (Below.refl _ _).alloc (Nat.le_refl _) _⟩
      · have ev := Lib.hid (St.rightB_no E [r0, r1, r2, r3, r4, r5, r6, r7] (fun h => h1 h.2))
        go_wp2_with fail
        go_ret
        exact ⟨by first | exact ret_bool ev.out.symm | (apply ret_bool; rw [ev.out]; simp; omega), (Below.refl _ _).alloc (Nat.le_refl _) _⟩
theorem rline0_any (E r0 r1 r2 r3 r4 r5 r6 r7 : Int) (w : World) (hE : 0 ≤ E ∧ E ≤ 18446744073709551615) (hr0 : 0 ≤ r0 ∧ r0 ≤ 131071) (hr1 : 0 ≤ r1 ∧ r1 ≤ 131071) (hr2 : 0 ≤ r2 ∧ r2 ≤ 131071) (hr3 : 0 ≤ r3 ∧ r3 ≤ 131071) (hr4 : 0 ≤ r4 ∧ r4 ≤ 131071) (hr5 : 0 ≤ r5 ∧ r5 ≤ 131071) (hr6 : 0 ≤ r6 ∧ r6 ≤ 131071) (hr7 : 0 ≤ r7 ∧ r7 ≤ 131071) :
    Calls Try.prog 54 #[.agg #[.int .u64 E, .int .i64 r0, .int .i64 r1, .int .i64 r2, .int .i64 r3, .int .i64 r4, .int .i64 r5, .int .i64 r6, .int .i64 r7], .int .i64 0] w fun e w' => ∃ v, e = .returned v ∧ w'.ownsRow w.heap.size 22 1 v 8 [.int .u64 E, .int .u64 r0, .int .u64 r1, .int .u64 r2, .int .u64 r3, .int .u64 0, .int .u64 0, .int .u64 (St.sum0 E r0 r1 r2 r3)] ∧ Below w.heap.size w w' := by
  obtain ⟨i0, hi0, hz0, hz1, hz2⟩ := info_parts info_u64
  have S0 := St.sum0_bd E r0 r1 r2 r3
  have W0 := Lib.hid (slrow_wf E r0 r1 r2 r3 0 hE hr0 hr1 hr2 hr3 (by omega))
  have X := Lib.hid (Blk.new w #[.int .u64 E, .int .i64 r0, .int .i64 r1, .int .i64 r2, .int .i64 r3, .int .i64 r4, .int .i64 r5, .int .i64 r6, .int .i64 r7] 42)
  have hB : Below w.heap.size w (w.alloc (.cells #[.int .u64 E, .int .i64 r0, .int .i64 r1, .int .i64 r2, .int .i64 r3, .int .i64 r4, .int .i64 r5, .int .i64 r6, .int .i64 r7] 42)) := (Below.refl _ _).alloc (Nat.le_refl _) _
  have hs0 : (w.alloc (.cells #[.int .u64 E, .int .i64 r0, .int .i64 r1, .int .i64 r2, .int .i64 r3, .int .i64 r4, .int .i64 r5, .int .i64 r6, .int .i64 r7] 42)).heap.size = w.heap.size + 1 := World.size_alloc ..
  have own0 := World.ownsRow_lit (base := w.heap.size + 1) (e := 22) (size := 1) (w.alloc (.cells #[.int .u64 E, .int .i64 r0, .int .i64 r1, .int .i64 r2, .int .i64 r3, .int .i64 r4, .int .i64 r5, .int .i64 r6, .int .i64 r7] 42)) #[.int .u64 E] 1 (by rw [hs0]; exact Nat.le_refl _) (by unfold maxLen; omega) rfl
  have be0 : Below (w.heap.size + 1) (w.alloc (.cells #[.int .u64 E, .int .i64 r0, .int .i64 r1, .int .i64 r2, .int .i64 r3, .int .i64 r4, .int .i64 r5, .int .i64 r6, .int .i64 r7] 42)) ((w.alloc (.cells #[.int .u64 E, .int .i64 r0, .int .i64 r1, .int .i64 r2, .int .i64 r3, .int .i64 r4, .int .i64 r5, .int .i64 r6, .int .i64 r7] 42)).alloc (.cells #[.int .u64 E] 22)) := (Below.refl _ _).alloc (by rw [hs0]; exact Nat.le_refl _) _
  rw [hs0] at own0
  have sz0 := be0.size
  rw [hs0] at sz0
  clear hs0
  have hW1 : ∃ W1, W1 = ((w.alloc (.cells #[.int .u64 E, .int .i64 r0, .int .i64 r1, .int .i64 r2, .int .i64 r3, .int .i64 r4, .int .i64 r5, .int .i64 r6, .int .i64 r7] 42)).alloc (.cells #[.int .u64 E] 22)) := ⟨_, rfl⟩
  obtain ⟨W1, hW1⟩ := hW1
  rw [← hW1] at own0 be0 sz0
  replace hW1 := Lib.hid hW1
  have X0 := X.out.below be0 (by omega)
  have x0 := X0.cell 0 _ rfl
  have x1 := X0.cell 1 _ rfl
  have x2 := X0.cell 2 _ rfl
  have x3 := X0.cell 3 _ rfl
  have x4 := X0.cell 4 _ rfl
  have x5 := X0.cell 5 _ rfl
  have x6 := X0.cell 6 _ rfl
  have x7 := X0.cell 7 _ rfl
  have x8 := X0.cell 8 _ rfl
  go_enter Try.func54, Try.ntmps54
  go_wp2_with fail
  rw [← hW1.out]
  refine wp_loop_rounds 5 ?_
  rw [rounds_succ]
  go_wp2_with (first
    | (at_builtin; refine wpList_app1 (P := Try.prog) rfl (.tmp 14) (.tmp 23) 55 rfl (w.heap.size + 1) 22 i0 (.int .u64 0) 8 Try.underlying55 hi0 hz0 hz1 hz2 rfl _ _ _ rfl own0 _ _ rfl rfl (by unfold maxLen; omega) (by omega) sz0 (w.heap.size + 1) _ be0 (Nat.le_refl _) ?_; intro v1 w1 own1 be1 _ _; have sz1 : w.heap.size + 1 ≤ w1.heap.size := Nat.le_trans sz0 (by first | omega | (have := be1.size; simp at this; omega)); have X1 := X.out.below be1 (by omega); have x1_0 := X1.cell 0 _ rfl; have x1_1 := X1.cell 1 _ rfl; have x1_2 := X1.cell 2 _ rfl; have x1_3 := X1.cell 3 _ rfl; have x1_4 := X1.cell 4 _ rfl; have x1_5 := X1.cell 5 _ rfl; have x1_6 := X1.cell 6 _ rfl; have x1_7 := X1.cell 7 _ rfl; have x1_8 := X1.cell 8 _ rfl))
  rw [rounds_succ]
  go_wp2_with (first
    | (at_builtin; refine wpList_app1 (P := Try.prog) rfl (.tmp 14) (.tmp 23) 55 rfl (w.heap.size + 1) 22 i0 (.int .u64 0) 8 Try.underlying55 hi0 hz0 hz1 hz2 rfl _ _ _ rfl own1 _ _ rfl rfl (by unfold maxLen; omega) (by omega) sz1 (w.heap.size + 1) _ be1 (Nat.le_refl _) ?_; intro v2 w2 own2 be2 _ _; have sz2 : w.heap.size + 1 ≤ w2.heap.size := Nat.le_trans sz1 (by first | omega | (have := be2.size; simp at this; omega)); have X2 := X.out.below be2 (by omega); have x2_0 := X2.cell 0 _ rfl; have x2_1 := X2.cell 1 _ rfl; have x2_2 := X2.cell 2 _ rfl; have x2_3 := X2.cell 3 _ rfl; have x2_4 := X2.cell 4 _ rfl; have x2_5 := X2.cell 5 _ rfl; have x2_6 := X2.cell 6 _ rfl; have x2_7 := X2.cell 7 _ rfl; have x2_8 := X2.cell 8 _ rfl))
  rw [rounds_succ]
  go_wp2_with (first
    | (at_builtin; refine wpList_app1 (P := Try.prog) rfl (.tmp 14) (.tmp 23) 55 rfl (w.heap.size + 1) 22 i0 (.int .u64 0) 8 Try.underlying55 hi0 hz0 hz1 hz2 rfl _ _ _ rfl own2 _ _ rfl rfl (by unfold maxLen; omega) (by omega) sz2 (w.heap.size + 1) _ be2 (Nat.le_refl _) ?_; intro v3 w3 own3 be3 _ _; have sz3 : w.heap.size + 1 ≤ w3.heap.size := Nat.le_trans sz2 (by first | omega | (have := be3.size; simp at this; omega)); have X3 := X.out.below be3 (by omega); have x3_0 := X3.cell 0 _ rfl; have x3_1 := X3.cell 1 _ rfl; have x3_2 := X3.cell 2 _ rfl; have x3_3 := X3.cell 3 _ rfl; have x3_4 := X3.cell 4 _ rfl; have x3_5 := X3.cell 5 _ rfl; have x3_6 := X3.cell 6 _ rfl; have x3_7 := X3.cell 7 _ rfl; have x3_8 := X3.cell 8 _ rfl))
  rw [rounds_succ]
  go_wp2_with (first
    | (at_builtin; refine wpList_app1 (P := Try.prog) rfl (.tmp 14) (.tmp 23) 55 rfl (w.heap.size + 1) 22 i0 (.int .u64 0) 8 Try.underlying55 hi0 hz0 hz1 hz2 rfl _ _ _ rfl own3 _ _ rfl rfl (by unfold maxLen; omega) (by omega) sz3 (w.heap.size + 1) _ be3 (Nat.le_refl _) ?_; intro v4 w4 own4 be4 _ _; have sz4 : w.heap.size + 1 ≤ w4.heap.size := Nat.le_trans sz3 (by first | omega | (have := be4.size; simp at this; omega)); have X4 := X.out.below be4 (by omega); have x4_0 := X4.cell 0 _ rfl; have x4_1 := X4.cell 1 _ rfl; have x4_2 := X4.cell 2 _ rfl; have x4_3 := X4.cell 3 _ rfl; have x4_4 := X4.cell 4 _ rfl; have x4_5 := X4.cell 5 _ rfl; have x4_6 := X4.cell 6 _ rfl; have x4_7 := X4.cell 7 _ rfl; have x4_8 := X4.cell 8 _ rfl))
  rw [rounds_succ]
  go_wp2_with (first
    | (at_builtin; refine wpList_app2 (P := Try.prog) rfl (.tmp 25) (.tmp 28) 55 rfl (w.heap.size + 1) 22 i0 (.int .u64 0) 8 Try.underlying55 hi0 hz0 hz1 hz2 rfl _ _ _ rfl own4 _ _ _ rfl rfl rfl (by unfold maxLen; omega) (by omega) sz4 (w.heap.size + 1) _ be4 (Nat.le_refl _) ?_; intro v5 w5 own5 be5 hl5 _; have sz5 : w.heap.size + 1 ≤ w5.heap.size := Nat.le_trans sz4 (by omega); obtain ⟨A5, c5, rfl, hn5, hm5, _⟩ := own_shape own5))
  refine (rCrcWords_any A5 _ c5 [E, r0, r1, r2, r3, 0, 0] _ _ (RowAt.of_own own5) W0.out (by omega) (Nat.le_refl _)).mono ?_
  rintro e w6 ⟨rfl, hb6⟩
  rw [show Cr.more 0 (By.bytes [E, r0, r1, r2, r3, 0, 0]) = St.sum0 E r0 r1 r2 r3 from rfl]
  have own6 := own_below own5 hb6
  have be6 := be5.trans (hb6.mono sz5)
  have sz6 : w.heap.size + 1 ≤ w6.heap.size := Nat.le_trans sz5 hb6.size
  go_wp2_with (first
    | (at_builtin; refine wpList_app1 (P := Try.prog) rfl (.tmp 30) (.tmp 34) 55 rfl (w.heap.size + 1) 22 i0 (.int .u64 0) 8 Try.underlying55 hi0 hz0 hz1 hz2 rfl _ _ _ rfl own6 _ _ rfl rfl (by unfold maxLen; omega) (by omega) sz6 (w.heap.size + 1) _ be6 (Nat.le_refl _) ?_; intro v7 w7 own7 be7 _ _))
  go_ret
  exact ⟨_, rfl, own_mono own7 (by omega), hB.trans (be7.mono (by omega))⟩
theorem rline1_any (E r0 r1 r2 r3 r4 r5 r6 r7 : Int) (w : World) (hE : 0 ≤ E ∧ E ≤ 18446744073709551615) (hr0 : 0 ≤ r0 ∧ r0 ≤ 131071) (hr1 : 0 ≤ r1 ∧ r1 ≤ 131071) (hr2 : 0 ≤ r2 ∧ r2 ≤ 131071) (hr3 : 0 ≤ r3 ∧ r3 ≤ 131071) (hr4 : 0 ≤ r4 ∧ r4 ≤ 131071) (hr5 : 0 ≤ r5 ∧ r5 ≤ 131071) (hr6 : 0 ≤ r6 ∧ r6 ≤ 131071) (hr7 : 0 ≤ r7 ∧ r7 ≤ 131071) :
    Calls Try.prog 54 #[.agg #[.int .u64 E, .int .i64 r0, .int .i64 r1, .int .i64 r2, .int .i64 r3, .int .i64 r4, .int .i64 r5, .int .i64 r6, .int .i64 r7], .int .i64 1] w fun e w' => ∃ v, e = .returned v ∧ w'.ownsRow w.heap.size 22 1 v 8 [.int .u64 E, .int .u64 r4, .int .u64 r5, .int .u64 r6, .int .u64 r7, .int .u64 1, .int .u64 0, .int .u64 (St.sum1 E r4 r5 r6 r7)] ∧ Below w.heap.size w w' := by
  obtain ⟨i0, hi0, hz0, hz1, hz2⟩ := info_parts info_u64
  have S0 := St.sum1_bd E r4 r5 r6 r7
  have W0 := Lib.hid (slrow_wf E r4 r5 r6 r7 1 hE hr4 hr5 hr6 hr7 (by omega))
  have X := Lib.hid (Blk.new w #[.int .u64 E, .int .i64 r0, .int .i64 r1, .int .i64 r2, .int .i64 r3, .int .i64 r4, .int .i64 r5, .int .i64 r6, .int .i64 r7] 42)
  have hB : Below w.heap.size w (w.alloc (.cells #[.int .u64 E, .int .i64 r0, .int .i64 r1, .int .i64 r2, .int .i64 r3, .int .i64 r4, .int .i64 r5, .int .i64 r6, .int .i64 r7] 42)) := (Below.refl _ _).alloc (Nat.le_refl _) _
  have hs0 : (w.alloc (.cells #[.int .u64 E, .int .i64 r0, .int .i64 r1, .int .i64 r2, .int .i64 r3, .int .i64 r4, .int .i64 r5, .int .i64 r6, .int .i64 r7] 42)).heap.size = w.heap.size + 1 := World.size_alloc ..
  have own0 := World.ownsRow_lit (base := w.heap.size + 1) (e := 22) (size := 1) (w.alloc (.cells #[.int .u64 E, .int .i64 r0, .int .i64 r1, .int .i64 r2, .int .i64 r3, .int .i64 r4, .int .i64 r5, .int .i64 r6, .int .i64 r7] 42)) #[.int .u64 E] 1 (by rw [hs0]; exact Nat.le_refl _) (by unfold maxLen; omega) rfl
  have be0 : Below (w.heap.size + 1) (w.alloc (.cells #[.int .u64 E, .int .i64 r0, .int .i64 r1, .int .i64 r2, .int .i64 r3, .int .i64 r4, .int .i64 r5, .int .i64 r6, .int .i64 r7] 42)) ((w.alloc (.cells #[.int .u64 E, .int .i64 r0, .int .i64 r1, .int .i64 r2, .int .i64 r3, .int .i64 r4, .int .i64 r5, .int .i64 r6, .int .i64 r7] 42)).alloc (.cells #[.int .u64 E] 22)) := (Below.refl _ _).alloc (by rw [hs0]; exact Nat.le_refl _) _
  rw [hs0] at own0
  have sz0 := be0.size
  rw [hs0] at sz0
  clear hs0
  have hW1 : ∃ W1, W1 = ((w.alloc (.cells #[.int .u64 E, .int .i64 r0, .int .i64 r1, .int .i64 r2, .int .i64 r3, .int .i64 r4, .int .i64 r5, .int .i64 r6, .int .i64 r7] 42)).alloc (.cells #[.int .u64 E] 22)) := ⟨_, rfl⟩
  obtain ⟨W1, hW1⟩ := hW1
  rw [← hW1] at own0 be0 sz0
  replace hW1 := Lib.hid hW1
  have X0 := X.out.below be0 (by omega)
  have x0 := X0.cell 0 _ rfl
  have x1 := X0.cell 1 _ rfl
  have x2 := X0.cell 2 _ rfl
  have x3 := X0.cell 3 _ rfl
  have x4 := X0.cell 4 _ rfl
  have x5 := X0.cell 5 _ rfl
  have x6 := X0.cell 6 _ rfl
  have x7 := X0.cell 7 _ rfl
  have x8 := X0.cell 8 _ rfl
  go_enter Try.func54, Try.ntmps54
  go_wp2_with fail
  rw [← hW1.out]
  refine wp_loop_rounds 5 ?_
  rw [rounds_succ]
  go_wp2_with (first
    | (at_builtin; refine wpList_app1 (P := Try.prog) rfl (.tmp 14) (.tmp 23) 55 rfl (w.heap.size + 1) 22 i0 (.int .u64 0) 8 Try.underlying55 hi0 hz0 hz1 hz2 rfl _ _ _ rfl own0 _ _ rfl rfl (by unfold maxLen; omega) (by omega) sz0 (w.heap.size + 1) _ be0 (Nat.le_refl _) ?_; intro v1 w1 own1 be1 _ _; have sz1 : w.heap.size + 1 ≤ w1.heap.size := Nat.le_trans sz0 (by first | omega | (have := be1.size; simp at this; omega)); have X1 := X.out.below be1 (by omega); have x1_0 := X1.cell 0 _ rfl; have x1_1 := X1.cell 1 _ rfl; have x1_2 := X1.cell 2 _ rfl; have x1_3 := X1.cell 3 _ rfl; have x1_4 := X1.cell 4 _ rfl; have x1_5 := X1.cell 5 _ rfl; have x1_6 := X1.cell 6 _ rfl; have x1_7 := X1.cell 7 _ rfl; have x1_8 := X1.cell 8 _ rfl))
  rw [rounds_succ]
  go_wp2_with (first
    | (at_builtin; refine wpList_app1 (P := Try.prog) rfl (.tmp 14) (.tmp 23) 55 rfl (w.heap.size + 1) 22 i0 (.int .u64 0) 8 Try.underlying55 hi0 hz0 hz1 hz2 rfl _ _ _ rfl own1 _ _ rfl rfl (by unfold maxLen; omega) (by omega) sz1 (w.heap.size + 1) _ be1 (Nat.le_refl _) ?_; intro v2 w2 own2 be2 _ _; have sz2 : w.heap.size + 1 ≤ w2.heap.size := Nat.le_trans sz1 (by first | omega | (have := be2.size; simp at this; omega)); have X2 := X.out.below be2 (by omega); have x2_0 := X2.cell 0 _ rfl; have x2_1 := X2.cell 1 _ rfl; have x2_2 := X2.cell 2 _ rfl; have x2_3 := X2.cell 3 _ rfl; have x2_4 := X2.cell 4 _ rfl; have x2_5 := X2.cell 5 _ rfl; have x2_6 := X2.cell 6 _ rfl; have x2_7 := X2.cell 7 _ rfl; have x2_8 := X2.cell 8 _ rfl))
  rw [rounds_succ]
  go_wp2_with (first
    | (at_builtin; refine wpList_app1 (P := Try.prog) rfl (.tmp 14) (.tmp 23) 55 rfl (w.heap.size + 1) 22 i0 (.int .u64 0) 8 Try.underlying55 hi0 hz0 hz1 hz2 rfl _ _ _ rfl own2 _ _ rfl rfl (by unfold maxLen; omega) (by omega) sz2 (w.heap.size + 1) _ be2 (Nat.le_refl _) ?_; intro v3 w3 own3 be3 _ _; have sz3 : w.heap.size + 1 ≤ w3.heap.size := Nat.le_trans sz2 (by first | omega | (have := be3.size; simp at this; omega)); have X3 := X.out.below be3 (by omega); have x3_0 := X3.cell 0 _ rfl; have x3_1 := X3.cell 1 _ rfl; have x3_2 := X3.cell 2 _ rfl; have x3_3 := X3.cell 3 _ rfl; have x3_4 := X3.cell 4 _ rfl; have x3_5 := X3.cell 5 _ rfl; have x3_6 := X3.cell 6 _ rfl; have x3_7 := X3.cell 7 _ rfl; have x3_8 := X3.cell 8 _ rfl))
  rw [rounds_succ]
  go_wp2_with (first
    | (at_builtin; refine wpList_app1 (P := Try.prog) rfl (.tmp 14) (.tmp 23) 55 rfl (w.heap.size + 1) 22 i0 (.int .u64 0) 8 Try.underlying55 hi0 hz0 hz1 hz2 rfl _ _ _ rfl own3 _ _ rfl rfl (by unfold maxLen; omega) (by omega) sz3 (w.heap.size + 1) _ be3 (Nat.le_refl _) ?_; intro v4 w4 own4 be4 _ _; have sz4 : w.heap.size + 1 ≤ w4.heap.size := Nat.le_trans sz3 (by first | omega | (have := be4.size; simp at this; omega)); have X4 := X.out.below be4 (by omega); have x4_0 := X4.cell 0 _ rfl; have x4_1 := X4.cell 1 _ rfl; have x4_2 := X4.cell 2 _ rfl; have x4_3 := X4.cell 3 _ rfl; have x4_4 := X4.cell 4 _ rfl; have x4_5 := X4.cell 5 _ rfl; have x4_6 := X4.cell 6 _ rfl; have x4_7 := X4.cell 7 _ rfl; have x4_8 := X4.cell 8 _ rfl))
  rw [rounds_succ]
  go_wp2_with (first
    | (at_builtin; refine wpList_app2 (P := Try.prog) rfl (.tmp 25) (.tmp 28) 55 rfl (w.heap.size + 1) 22 i0 (.int .u64 0) 8 Try.underlying55 hi0 hz0 hz1 hz2 rfl _ _ _ rfl own4 _ _ _ rfl rfl rfl (by unfold maxLen; omega) (by omega) sz4 (w.heap.size + 1) _ be4 (Nat.le_refl _) ?_; intro v5 w5 own5 be5 hl5 _; have sz5 : w.heap.size + 1 ≤ w5.heap.size := Nat.le_trans sz4 (by omega); obtain ⟨A5, c5, rfl, hn5, hm5, _⟩ := own_shape own5))
  refine (rCrcWords_any A5 _ c5 [E, r4, r5, r6, r7, 1, 0] _ _ (RowAt.of_own own5) W0.out (by omega) (Nat.le_refl _)).mono ?_
  rintro e w6 ⟨rfl, hb6⟩
  rw [show Cr.more 0 (By.bytes [E, r4, r5, r6, r7, 1, 0]) = St.sum1 E r4 r5 r6 r7 from rfl]
  have own6 := own_below own5 hb6
  have be6 := be5.trans (hb6.mono sz5)
  have sz6 : w.heap.size + 1 ≤ w6.heap.size := Nat.le_trans sz5 hb6.size
  go_wp2_with (first
    | (at_builtin; refine wpList_app1 (P := Try.prog) rfl (.tmp 30) (.tmp 34) 55 rfl (w.heap.size + 1) 22 i0 (.int .u64 0) 8 Try.underlying55 hi0 hz0 hz1 hz2 rfl _ _ _ rfl own6 _ _ rfl rfl (by unfold maxLen; omega) (by omega) sz6 (w.heap.size + 1) _ be6 (Nat.le_refl _) ?_; intro v7 w7 own7 be7 _ _))
  go_ret
  exact ⟨_, rfl, own_mono own7 (by omega), hB.trans (be7.mono (by omega))⟩
end Go.Proofs.Ytgcjagffoeoldaa
