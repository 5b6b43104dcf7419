/- BitsBytes walked. -/
import Derived.Test.YtchobkabndnhoaaBytes3
import Derived.Test.YtchobkabndnhoaaBytes1
import Derived.Test.YtchobkabndnhoaaInts
import Derived.Test.YtchobkabndnhoaaStr
namespace Go.Proofs.Ytchobkabndnhoaa
open Go.RowKit
set_option linter.unusedVariables false
set_option linter.unusedSimpArgs false
set_option maxHeartbeats 2000000
set_option maxRecDepth 100000
theorem walk_BitsBytes (A1 : Option Addr) (n1 cap1 : Nat) (z1 : List Int) (A2 : Option Addr) (n2 cap2 : Nat) (z2 : List Int) (w : World) (hrow1 : IsRow .u64 w A1 n1 cap1 z1) (hrow2 : IsRow .u8 w A2 n2 cap2 z2) :
    Calls Try.prog 3 #[.slice A1 n1 cap1, .slice A2 n2 cap2] w fun e w' => e = .returned (.bool true) ∧ Below w.heap.size w w' := by
  obtain ⟨xs, hr1, hi1, hlen1, hcap1, hmax1⟩ := row_of_arg hrow1
  obtain ⟨ys, hr2, hi2, hlen2, hcap2, hmax2⟩ := row_of_arg hrow2
  unfold maxLen at hmax1 hmax2
  have HR1 := Lib.hid hr1
  have HI1 := Lib.hid hi1
  have HR2 := Lib.hid hr2
  have HI2 := Lib.hid hi2
  have HL1 := Lib.hid hlen1
  have HL2 := Lib.hid hlen2
  clear hrow1 hrow2 hr1 hi1 hr2 hi2 hlen1 hlen2
  rcases (show 300 < n1 ∨ (n1 ≤ 300 ∧ 300 < n2) ∨ (n1 ≤ 300 ∧ n2 ≤ 300) from by omega) with g | ⟨g1, g2⟩ | ⟨g1, g2⟩
  · go_enter Try.func3, Try.ntmps3
    go_wp2_with (first
      | (go_at_call 11; refine (awake1_any _).mono ?_; rintro e w' ⟨rfl, rfl⟩))
    go_ret
    exact ⟨by first | rfl | exact ret_bool rfl, Below.refl _ _⟩
  · go_enter Try.func3, Try.ntmps3
    go_wp2_with (first
      | (go_at_call 11; refine (awake1_any _).mono ?_; rintro e w' ⟨rfl, rfl⟩))
    go_ret
    exact ⟨by first | rfl | exact ret_bool rfl, Below.refl _ _⟩
  · have hbb : Ints .u8 (By.bytes xs) := fun b hb => wf_u8 (By.bytes_bd xs b hb)
    have hww : Ints .u64 (By.words ys) := fun x hx => wf_u64 (By.words_wf ys (isBytes_of HI2.out) x hx)
    have hback : By.words (By.bytes xs) = xs := By.words_bytes xs (fun x hx => bounds_u64 (HI1.out x hx))
    have HBB := Lib.hid hbb
    have HWW := Lib.hid hww
    have HBK := Lib.hid hback
    have HBL := Lib.hid (By.bytes_len xs)
    have HWL := Lib.hid (By.words_len ys)
    clear hbb hww hback
    go_enter Try.func3, Try.ntmps3
    go_wp2_with (first
      | (go_at_call 11; refine (awake1_any _).mono ?_; rintro e w' ⟨rfl, rfl⟩))
    refine (bytes_any A1 n1 cap1 xs _ _ HR1.out HI1.out (by omega) (Nat.le_refl _)).mono ?_
    rintro e w2 ⟨v, rfl, ho, hb⟩
    obtain ⟨AB, cB, rfl, hcB, hmB, _⟩ := own_shape ho
    have RB := Lib.hid (RowAt.of_own ho)
    have TB := Txt.of_own ho
    unfold Txt at TB
    have R1 := Lib.hid ((HR1.out.below hb).more hb.size)
    have R2 := Lib.hid ((HR2.out.below hb).more hb.size)
    clear ho
    have hz2 := hb.size
    go_wp2_with fail
    refine wp_region_held_drew (S := fun W => Below w2.heap.size w2 W) (by kernel_rfl) ?_ (fun hHeld => ?_)
    · (try dsimp only)
      (first | assumption | exact (Below.refl _ _).drew | (exact hbe))
    first | (refine wpAnyH_take (i := 0) (v := ?_) rfl (by kernel_rfl) (by kernel_rfl) (by kernel_rfl) (fun _ _ _ h => h) (Or.inl ⟨by rfl, ?_⟩) (by assumption) ?_; rotate_left; (focus (intro w hSw; (try dsimp only at hSw); go_simp; first | done | with_reducible rfl))) | (refine wpAnyH_take (i := 0) rfl (by kernel_rfl) (by kernel_rfl) (by kernel_rfl) (fun _ _ _ h => h) (Or.inr ⟨by rfl, rfl⟩) (by assumption) ?_) | fail
    try simp only [Act.put, List.getElem_toArray, List.getElem_cons_zero, List.getElem_cons_succ, List.setIfInBounds_toArray, List.set_cons_zero, List.set_cons_succ]
    first | (refine wpAnyH_take (i := 1) (v := ?_) rfl (by kernel_rfl) (by kernel_rfl) (by kernel_rfl) (fun _ _ _ h => h) (Or.inl ⟨by rfl, ?_⟩) (by assumption) ?_; rotate_left; (focus (intro w hSw; (try dsimp only at hSw); go_simp; first | done | with_reducible rfl))) | (refine wpAnyH_take (i := 1) rfl (by kernel_rfl) (by kernel_rfl) (by kernel_rfl) (fun _ _ _ h => h) (Or.inr ⟨by rfl, rfl⟩) (by assumption) ?_) | fail
    try simp only [Act.put, List.getElem_toArray, List.getElem_cons_zero, List.getElem_cons_succ, List.setIfInBounds_toArray, List.set_cons_zero, List.set_cons_succ]
    first | (refine wpAnyH_take (i := 2) (v := ?_) rfl (by kernel_rfl) (by kernel_rfl) (by kernel_rfl) (fun _ _ _ h => h) (Or.inl ⟨by rfl, ?_⟩) (by assumption) ?_; rotate_left; (focus (intro w hSw; (try dsimp only at hSw); go_simp; first | done | with_reducible rfl))) | (refine wpAnyH_take (i := 2) rfl (by kernel_rfl) (by kernel_rfl) (by kernel_rfl) (fun _ _ _ h => h) (Or.inr ⟨by rfl, rfl⟩) (by assumption) ?_) | fail
    try simp only [Act.put, List.getElem_toArray, List.getElem_cons_zero, List.getElem_cons_succ, List.setIfInBounds_toArray, List.set_cons_zero, List.set_cons_succ]
    refine wpAnyH_ready (rs := [3]) (by kernel_rfl) (by simp) (AllReadyH.cons rfl (fun K hK => ?_) AllReadyH.nil)
    (try go_simp)
    have hS := (by assumption : Below w2.heap.size w2 _)
    refine (rBytes_any A1 n1 cap1 xs _ _ (R1.out.below hS) HI1.out (by omega) hS.size).mono ?_
    rintro e w3 ⟨v3, rfl, ho3, hb3⟩
    have T1 := Txt.of_own ho3
    have N1 := T1.now
    clear ho3 T1
    have hbe := hS.trans (hb3.mono hS.size)
    refine hK.out _ _ ?_ (fun hHeld => ?_)
    · (try dsimp only)
      (first | assumption | exact (Below.refl _ _).drew | (exact hbe))
    clear hK K
    try simp only [Act.put, List.getElem_toArray, List.getElem_cons_zero, List.getElem_cons_succ, List.setIfInBounds_toArray, List.set_cons_zero, List.set_cons_succ]
    refine wpAnyH_ready (rs := [4]) (by kernel_rfl) (by simp) (AllReadyH.cons rfl (fun K hK => ?_) AllReadyH.nil)
    (try go_simp)
    refine hK.out _ _ ?_ (fun hHeld => ?_)
    · (try dsimp only)
      (first | assumption | exact (Below.refl _ _).drew | (exact hbe))
    clear hK K
    try simp only [Act.put, List.getElem_toArray, List.getElem_cons_zero, List.getElem_cons_succ, List.setIfInBounds_toArray, List.set_cons_zero, List.set_cons_succ]
    first | (refine wpAnyH_take (i := 5) (v := ?_) rfl (by kernel_rfl) (by kernel_rfl) (by kernel_rfl) (fun _ _ _ h => h) (Or.inl ⟨by rfl, ?_⟩) (by assumption) ?_; rotate_left; (focus (intro w hSw; (try dsimp only at hSw); go_simp; first | done | with_reducible rfl))) | (refine wpAnyH_take (i := 5) rfl (by kernel_rfl) (by kernel_rfl) (by kernel_rfl) (fun _ _ _ h => h) (Or.inr ⟨by rfl, rfl⟩) (by assumption) ?_) | fail
    try simp only [Act.put, List.getElem_toArray, List.getElem_cons_zero, List.getElem_cons_succ, List.setIfInBounds_toArray, List.set_cons_zero, List.set_cons_succ]
    first | (refine wpAnyH_take (i := 6) (v := ?_) rfl (by kernel_rfl) (by kernel_rfl) (by kernel_rfl) (fun _ _ _ h => h) (Or.inl ⟨by rfl, ?_⟩) (by assumption) ?_; rotate_left; (focus (intro w hSw; (try dsimp only at hSw); go_simp; first | done | with_reducible rfl))) | (refine wpAnyH_take (i := 6) rfl (by kernel_rfl) (by kernel_rfl) (by kernel_rfl) (fun _ _ _ h => h) (Or.inr ⟨by rfl, rfl⟩) (by assumption) ?_) | fail
    try simp only [Act.put, List.getElem_toArray, List.getElem_cons_zero, List.getElem_cons_succ, List.setIfInBounds_toArray, List.set_cons_zero, List.set_cons_succ]
    first | (refine wpAnyH_take (i := 7) (v := ?_) rfl (by kernel_rfl) (by kernel_rfl) (by kernel_rfl) (fun _ _ _ h => h) (Or.inl ⟨by rfl, ?_⟩) (by assumption) ?_; rotate_left; (focus (intro w hSw; (try dsimp only at hSw); go_simp; first | done | with_reducible rfl))) | (refine wpAnyH_take (i := 7) rfl (by kernel_rfl) (by kernel_rfl) (by kernel_rfl) (fun _ _ _ h => h) (Or.inr ⟨by rfl, rfl⟩) (by assumption) ?_) | fail
    try simp only [Act.put, List.getElem_toArray, List.getElem_cons_zero, List.getElem_cons_succ, List.setIfInBounds_toArray, List.set_cons_zero, List.set_cons_succ]
    first | (refine wpAnyH_take (i := 9) (v := ?_) rfl (by kernel_rfl) (by kernel_rfl) (by kernel_rfl) (fun _ _ _ h => h) (Or.inl ⟨by rfl, ?_⟩) (by assumption) ?_; rotate_left; (focus (intro w hSw; (try dsimp only at hSw); go_simp; first | done | with_reducible rfl))) | (refine wpAnyH_take (i := 9) rfl (by kernel_rfl) (by kernel_rfl) (by kernel_rfl) (fun _ _ _ h => h) (Or.inr ⟨by rfl, rfl⟩) (by assumption) ?_) | fail
    try simp only [Act.put, List.getElem_toArray, List.getElem_cons_zero, List.getElem_cons_succ, List.setIfInBounds_toArray, List.set_cons_zero, List.set_cons_succ]
    refine wpAnyH_ready (rs := [8]) (by kernel_rfl) (by simp) (AllReadyH.cons rfl (fun K hK => ?_) AllReadyH.nil)
    (try go_simp)
    clear hbe
    have hS := (by assumption : Below w2.heap.size w2 _)
    refine (words_any8 A2 n2 cap2 ys _ _ (R2.out.below hS) HI2.out (by omega) hS.size).mono ?_
    rintro e w4 ⟨v4, rfl, ho4, hb4⟩
    obtain ⟨A4, c4, rfl, hc4, hm4, _⟩ := own_shape ho4
    have R4 := Lib.hid (RowAt.of_own ho4)
    clear ho4
    have hbe := hS.trans (hb4.mono hS.size)
    refine hK.out _ _ ?_ (fun hHeld => ?_)
    · (try dsimp only)
      (first | assumption | exact (Below.refl _ _).drew | (exact hbe))
    clear hK K
    try simp only [Act.put, List.getElem_toArray, List.getElem_cons_zero, List.getElem_cons_succ, List.setIfInBounds_toArray, List.set_cons_zero, List.set_cons_succ]
    refine wpAnyH_ready (rs := [10]) (by kernel_rfl) (by simp) (AllReadyH.cons rfl (fun K hK => ?_) AllReadyH.nil)
    (try go_simp)
    clear hbe
    have hS := (by assumption : Below w2.heap.size w2 w4)
    refine (rwords_any8 A2 n2 cap2 ys _ _ (R2.out.below hS) HI2.out (by omega) hS.size).mono ?_
    rintro e w5 ⟨v5, rfl, ho5, hb5⟩
    obtain ⟨A5, c5, rfl, hc5, hm5, _⟩ := own_shape ho5
    have R5 := Lib.hid (RowAt.of_own ho5)
    have R4' := Lib.hid (R4.out.below hb5)
    clear ho5
    have hbe := hS.trans (hb5.mono hS.size)
    refine hK.out _ _ ?_ (fun hHeld => ?_)
    · (try dsimp only)
      (first | assumption | exact (Below.refl _ _).drew | (exact hbe))
    clear hK K
    try simp only [Act.put, List.getElem_toArray, List.getElem_cons_zero, List.getElem_cons_succ, List.setIfInBounds_toArray, List.set_cons_zero, List.set_cons_succ]
    refine wpAnyH_ready (rs := [11]) (by kernel_rfl) (by simp) (AllReadyH.cons rfl (fun K hK => ?_) AllReadyH.nil)
    (try go_simp)
    clear hbe
    have hS := (by assumption : Below w2.heap.size w2 w5)
    refine (same_any A4 A5 _ _ _ _ (By.words ys) (By.words ys) _ _ _ R4'.out R5.out HWW.out HWW.out (by rw [HWL.out, HL2.out]; unfold maxLen; omega) (by rw [HWL.out, HL2.out]; unfold maxLen; omega)).mono ?_
    rintro e w6 ⟨rfl, q6, rfl⟩
    rw [eqB_yes _ _ rfl]
    have hbe := below_drewN hS q6
    refine hK.out _ _ ?_ (fun hHeld => ?_)
    · (try dsimp only)
      (first | assumption | exact (Below.refl _ _).drew | (exact hbe))
    clear hK K
    try simp only [Act.put, List.getElem_toArray, List.getElem_cons_zero, List.getElem_cons_succ, List.setIfInBounds_toArray, List.set_cons_zero, List.set_cons_succ]
    first | (refine wpAnyH_take (i := 12) (v := ?_) rfl (by kernel_rfl) (by kernel_rfl) (by kernel_rfl) (fun _ _ _ h => h) (Or.inl ⟨by rfl, ?_⟩) (by assumption) ?_; rotate_left; (focus (intro w hSw; (try dsimp only at hSw); go_simp; first | done | with_reducible rfl))) | (refine wpAnyH_take (i := 12) rfl (by kernel_rfl) (by kernel_rfl) (by kernel_rfl) (fun _ _ _ h => h) (Or.inr ⟨by rfl, rfl⟩) (by assumption) ?_) | fail
    try simp only [Act.put, List.getElem_toArray, List.getElem_cons_zero, List.getElem_cons_succ, List.setIfInBounds_toArray, List.set_cons_zero, List.set_cons_succ]
    first | (refine wpAnyH_take (i := 13) (v := ?_) rfl (by kernel_rfl) (by kernel_rfl) (by kernel_rfl) (fun _ _ _ h => h) (Or.inl ⟨by rfl, ?_⟩) (by assumption) ?_; rotate_left; (focus (intro w hSw; (try dsimp only at hSw); go_simp; first | done | with_reducible rfl))) | (refine wpAnyH_take (i := 13) rfl (by kernel_rfl) (by kernel_rfl) (by kernel_rfl) (fun _ _ _ h => h) (Or.inr ⟨by rfl, rfl⟩) (by assumption) ?_) | fail
    try simp only [Act.put, List.getElem_toArray, List.getElem_cons_zero, List.getElem_cons_succ, List.setIfInBounds_toArray, List.set_cons_zero, List.set_cons_succ]
    first | (refine wpAnyH_take (i := 14) (v := ?_) rfl (by kernel_rfl) (by kernel_rfl) (by kernel_rfl) (fun _ _ _ h => h) (Or.inl ⟨by rfl, ?_⟩) (by assumption) ?_; rotate_left; (focus (intro w hSw; (try dsimp only at hSw); go_simp; first | done | with_reducible rfl))) | (refine wpAnyH_take (i := 14) rfl (by kernel_rfl) (by kernel_rfl) (by kernel_rfl) (fun _ _ _ h => h) (Or.inr ⟨by rfl, rfl⟩) (by assumption) ?_) | fail
    try simp only [Act.put, List.getElem_toArray, List.getElem_cons_zero, List.getElem_cons_succ, List.setIfInBounds_toArray, List.set_cons_zero, List.set_cons_succ]
    first | (refine wpAnyH_take (i := 16) (v := ?_) rfl (by kernel_rfl) (by kernel_rfl) (by kernel_rfl) (fun _ _ _ h => h) (Or.inl ⟨by rfl, ?_⟩) (by assumption) ?_; rotate_left; (focus (intro w hSw; (try dsimp only at hSw); go_simp; first | done | with_reducible rfl))) | (refine wpAnyH_take (i := 16) rfl (by kernel_rfl) (by kernel_rfl) (by kernel_rfl) (fun _ _ _ h => h) (Or.inr ⟨by rfl, rfl⟩) (by assumption) ?_) | fail
    try simp only [Act.put, List.getElem_toArray, List.getElem_cons_zero, List.getElem_cons_succ, List.setIfInBounds_toArray, List.set_cons_zero, List.set_cons_succ]
    refine wpAnyH_ready (rs := [15]) (by kernel_rfl) (by simp) (AllReadyH.cons rfl (fun K hK => ?_) AllReadyH.nil)
    (try go_simp)
    clear hbe
    have hS := (by assumption : Below w2.heap.size w2 (w5.drewN q6))
    refine (words_any8 AB (8 * n1) cB (By.bytes xs) _ _ (RB.out.below hS) HBB.out (by omega) hS.size).mono ?_
    rintro e w7 ⟨v7, rfl, ho7, hb7⟩
    rw [HBK.out] at ho7
    obtain ⟨A7, c7, rfl, hc7, hm7, _⟩ := own_shape ho7
    have R7 := Lib.hid (RowAt.of_own ho7)
    clear ho7
    have hbe := hS.trans (hb7.mono hS.size)
    refine hK.out _ _ ?_ (fun hHeld => ?_)
    · (try dsimp only)
      (first | assumption | exact (Below.refl _ _).drew | (exact hbe))
    clear hK K
    try simp only [Act.put, List.getElem_toArray, List.getElem_cons_zero, List.getElem_cons_succ, List.setIfInBounds_toArray, List.set_cons_zero, List.set_cons_succ]
    refine wpAnyH_ready (rs := [17]) (by kernel_rfl) (by simp) (AllReadyH.cons rfl (fun K hK => ?_) AllReadyH.nil)
    (try go_simp)
    clear hbe
    have hS := (by assumption : Below w2.heap.size w2 w7)
    refine (same_any A7 A1 _ _ _ _ xs xs _ _ _ R7.out (R1.out.below hS) HI1.out HI1.out (by rw [HL1.out]; unfold maxLen; omega) (by unfold maxLen; omega)).mono ?_
    rintro e w8 ⟨rfl, q8, rfl⟩
    rw [eqB_yes _ _ rfl]
    have hbe := below_drewN hS q8
    refine hK.out _ _ ?_ (fun hHeld => ?_)
    · (try dsimp only)
      (first | assumption | exact (Below.refl _ _).drew | (exact hbe))
    clear hK K
    try simp only [Act.put, List.getElem_toArray, List.getElem_cons_zero, List.getElem_cons_succ, List.setIfInBounds_toArray, List.set_cons_zero, List.set_cons_succ]
    first | (refine wpAnyH_take (i := 18) (v := ?_) rfl (by kernel_rfl) (by kernel_rfl) (by kernel_rfl) (fun _ _ _ h => h) (Or.inl ⟨by rfl, ?_⟩) (by assumption) ?_; rotate_left; (focus (intro w hSw; (try dsimp only at hSw); go_simp; first | done | with_reducible rfl))) | (refine wpAnyH_take (i := 18) rfl (by kernel_rfl) (by kernel_rfl) (by kernel_rfl) (fun _ _ _ h => h) (Or.inr ⟨by rfl, rfl⟩) (by assumption) ?_) | fail
    try simp only [Act.put, List.getElem_toArray, List.getElem_cons_zero, List.getElem_cons_succ, List.setIfInBounds_toArray, List.set_cons_zero, List.set_cons_succ]
    first | (refine wpAnyH_take (i := 19) (v := ?_) rfl (by kernel_rfl) (by kernel_rfl) (by kernel_rfl) (fun _ _ _ h => h) (Or.inl ⟨by rfl, ?_⟩) (by assumption) ?_; rotate_left; (focus (intro w hSw; (try dsimp only at hSw); go_simp; first | done | with_reducible rfl))) | (refine wpAnyH_take (i := 19) rfl (by kernel_rfl) (by kernel_rfl) (by kernel_rfl) (fun _ _ _ h => h) (Or.inr ⟨by rfl, rfl⟩) (by assumption) ?_) | fail
    try simp only [Act.put, List.getElem_toArray, List.getElem_cons_zero, List.getElem_cons_succ, List.setIfInBounds_toArray, List.set_cons_zero, List.set_cons_succ]
    refine wpAnyH_done (by kernel_rfl) ?_ _
    have hbe := (by assumption : Below w2.heap.size w2 _)
    go_wp2_with fail
    go_ret
    exact ⟨by first | rfl | exact ret_bool rfl | exact ret_bool (by simp), hb.trans (hbe.mono hb.size)⟩
end Go.Proofs.Ytchobkabndnhoaa
