/- What cells.At makes where it may. -/
import Derived.Test.YtchobkabndnhoaaCells3
namespace Go.Proofs.Ytchobkabndnhoaa
open Go.RowKit
set_option linter.unusedVariables false
set_option linter.unusedSimpArgs false
set_option maxHeartbeats 2000000
set_option maxRecDepth 100000
theorem cAt_keep (W w : World) (n x y : Int) (c : Nat) (hz : w.heap.size + 1 < c) (h : W.cell? ⟨w.heap.size, 0, none⟩ = some (.int .i64 n) ∧ W.cell? ⟨c, 0, none⟩ = some (.int .i64 x) ∧ W.cell? ⟨c, 1, none⟩ = some (.int .i64 y) ∧ Below w.heap.size w W) :
    ((W.setCell ⟨w.heap.size + 1, 0, none⟩ (.int .i64 x)).setCell ⟨w.heap.size + 1, 1, none⟩ (.int .i64 y)).cell? ⟨w.heap.size, 0, none⟩ = some (.int .i64 n) ∧ ((W.setCell ⟨w.heap.size + 1, 0, none⟩ (.int .i64 x)).setCell ⟨w.heap.size + 1, 1, none⟩ (.int .i64 y)).cell? ⟨c, 0, none⟩ = some (.int .i64 x) ∧ ((W.setCell ⟨w.heap.size + 1, 0, none⟩ (.int .i64 x)).setCell ⟨w.heap.size + 1, 1, none⟩ (.int .i64 y)).cell? ⟨c, 1, none⟩ = some (.int .i64 y) ∧ Below w.heap.size w ((W.setCell ⟨w.heap.size + 1, 0, none⟩ (.int .i64 x)).setCell ⟨w.heap.size + 1, 1, none⟩ (.int .i64 y)) := by
  obtain ⟨h1, h2, h3, h4⟩ := h
  refine ⟨?_, ?_, ?_, (h4.setCell (by simp) _).setCell (by simp) _⟩
  · rw [World.cell?_setCell_far _ _ _ _ (by simp), World.cell?_setCell_far _ _ _ _ (by simp)]; exact h1
  · rw [World.cell?_setCell_far _ _ _ _ (by simp; omega), World.cell?_setCell_far _ _ _ _ (by simp; omega)]; exact h2
  · rw [World.cell?_setCell_far _ _ _ _ (by simp; omega), World.cell?_setCell_far _ _ _ _ (by simp; omega)]; exact h3
theorem cAt_in (n k a : Int) (w : World) (h1 : 0 ≤ n) (h3 : n ≤ 1000000) (a1 : 512 ≤ a) (a2 : a < 512 * n) (k1 : 0 ≤ k) (k2 : k < 32) :
    Calls Try.prog 25 #[.agg #[.int .i64 n], .int .i64 k, .int .i64 a] w fun e w' => e = .returned (.tuple #[.agg #[.int .i64 (a / 512), .int .i64 (a % 512 / Cl.words k)], .bool (Ce.address n k (a / 512) (a % 512 / Cl.words k) == a)]) ∧ Below w.heap.size w w' := by
  obtain ⟨d1, d2⟩ := dataB_in n a a1 a2
  have d3 := Cl.rightB_yes k k1 k2
  have hw := Cl.words_bd k
  have hwp := Cl.words_pos k k1 k2
  have hq : 0 ≤ a % 512 / Cl.words k ∧ a % 512 / Cl.words k ≤ 512 := ⟨Int.ediv_nonneg (by omega) (by omega), by have := Int.ediv_le_self (a := a % 512) (Cl.words k) (by omega); omega⟩
  have D2 := Lib.hid d2
  clear d2
  have G := Lib.hid ((Blk.new w #[.int .i64 n] 35).alloc (.cells #[.int .i64 0, .int .i64 0] 43))
  have R := Lib.hid (Blk.new1 w (.cells #[.int .i64 n] 35) #[.int .i64 0, .int .i64 0] 43)
  have hB : Below w.heap.size w ((w.alloc (.cells #[.int .i64 n] 35)).alloc (.cells #[.int .i64 0, .int .i64 0] 43)) := ((Below.refl _ _).alloc (Nat.le_refl _) _).alloc (by simp) _
  go_enter Try.func25, Try.ntmps25
  go_wp2_with (first
    | (go_at_call 43; refine (right_any _ _ (by omega) (by omega)).mono ?_; rintro e w' ⟨rfl, rfl⟩)
    | (go_at_call 45; refine (gData_any _ _ _ (by omega) (by omega) (by omega) (by omega)).mono ?_; rintro e w1 ⟨rfl, hb1⟩; have G1 := G.out.below hb1 G.out.lt; have R1 := R.out.below hb1 R.out.lt; have hB1 := hB.trans (hb1.mono hB.size); have g0 := G1.cell 0 _ rfl)
    | (go_at_call 46; refine (gBlockOf_any _ _ _ (by omega) (by omega) (by omega) (by omega)).mono ?_; rintro e w2 ⟨rfl, hb2⟩; rw [D2.out]; have R2 := R1.below hb2 R1.lt; have hB2 := hB1.trans (hb2.mono hB1.size))
    | (go_at_call 21; refine (words_any _ _ (by omega) (by omega)).mono ?_; rintro e w3 ⟨rfl, hb3⟩; have R3 := R2.below hb3 R2.lt; have hB3 := hB2.trans (hb3.mono hB2.size)))
  have R4 := R3.alloc (.cells #[.int .i64 (a / 512), .int .i64 (a % 512 / Cl.words k)] 43)
  have C4 := Blk.new w3 #[.int .i64 (a / 512), .int .i64 (a % 512 / Cl.words k)] 43
  have hB4 := hB3.alloc hB3.size (.cells #[.int .i64 (a / 512), .int .i64 (a % 512 / Cl.words k)] 43)
  have hz : w.heap.size + 1 < w3.heap.size := R3.lt
  have G4 := ((G1.below hb2 G1.lt).below hb3 (G1.below hb2 G1.lt).lt).alloc (.cells #[.int .i64 (a / 512), .int .i64 (a % 512 / Cl.words k)] 43)
  refine wp_region_held_drew (S := fun W => W.cell? ⟨w.heap.size, 0, none⟩ = some (.int .i64 n) ∧ W.cell? ⟨w3.heap.size, 0, none⟩ = some (.int .i64 (a / 512)) ∧ W.cell? ⟨w3.heap.size, 1, none⟩ = some (.int .i64 (a % 512 / Cl.words k)) ∧ Below w.heap.size w W) (by kernel_rfl) ?_ (fun hHeld => ?_)
  · (try dsimp only)
    (first | assumption | exact ⟨G4.cell 0 _ rfl, C4.cell 0 _ rfl, C4.cell 1 _ rfl, hB4.drew⟩ | exact hS7)
  first | (refine wpAnyH_take (i := 0) (v := ?_) rfl (by kernel_rfl) (by kernel_rfl) (by kernel_rfl) (fun _ _ _ h => h) (Or.inl ⟨by rfl, ?_⟩) (by assumption) ?_; rotate_left; (focus (intro w hSw; (try dsimp only at hSw); go_simp; first | done | with_reducible rfl))) | (refine wpAnyH_take (i := 0) rfl (by kernel_rfl) (by kernel_rfl) (by kernel_rfl) (fun _ _ _ h => h) (Or.inr ⟨by rfl, rfl⟩) (by assumption) ?_) | fail
  try simp only [Act.put, List.getElem_toArray, List.getElem_cons_zero, List.getElem_cons_succ, List.setIfInBounds_toArray, List.set_cons_zero, List.set_cons_succ]
  first | (refine wpAnyH_take (i := 1) (v := ?_) rfl (by kernel_rfl) (by kernel_rfl) (by kernel_rfl) (fun _ _ _ h => h) (Or.inl ⟨by rfl, ?_⟩) (by assumption) ?_; rotate_left; (focus (intro w hSw; (try dsimp only at hSw); go_simp; first | done | with_reducible rfl))) | (refine wpAnyH_take (i := 1) rfl (by kernel_rfl) (by kernel_rfl) (by kernel_rfl) (fun _ _ _ h => h) (Or.inr ⟨by rfl, rfl⟩) (by assumption) ?_) | fail
  try simp only [Act.put, List.getElem_toArray, List.getElem_cons_zero, List.getElem_cons_succ, List.setIfInBounds_toArray, List.set_cons_zero, List.set_cons_succ]
  first | (refine wpAnyH_take (i := 2) (v := ?_) rfl (by kernel_rfl) (by kernel_rfl) (by kernel_rfl) (fun _ _ _ h => h) (Or.inl ⟨by rfl, ?_⟩) (by assumption) ?_; rotate_left; (focus (intro w hSw; (try dsimp only at hSw); go_simp; first | done | with_reducible rfl))) | (refine wpAnyH_take (i := 2) rfl (by kernel_rfl) (by kernel_rfl) (by kernel_rfl) (fun _ _ _ h => h) (Or.inr ⟨by rfl, rfl⟩) (by assumption) ?_) | fail
  try simp only [Act.put, List.getElem_toArray, List.getElem_cons_zero, List.getElem_cons_succ, List.setIfInBounds_toArray, List.set_cons_zero, List.set_cons_succ]
  first | (refine wpAnyH_take (i := 3) (v := ?_) rfl (by kernel_rfl) (by kernel_rfl) (by kernel_rfl) (fun _ _ _ h => h) (Or.inl ⟨by rfl, ?_⟩) (by assumption) ?_; rotate_left; (focus (intro w hSw; (try dsimp only at hSw); go_simp; first | done | with_reducible rfl))) | (refine wpAnyH_take (i := 3) rfl (by kernel_rfl) (by kernel_rfl) (by kernel_rfl) (fun _ _ _ h => h) (Or.inr ⟨by rfl, rfl⟩) (by assumption) ?_) | fail
  try simp only [Act.put, List.getElem_toArray, List.getElem_cons_zero, List.getElem_cons_succ, List.setIfInBounds_toArray, List.set_cons_zero, List.set_cons_succ]
  first | (refine wpAnyH_take (i := 5) (v := ?_) rfl (by kernel_rfl) (by kernel_rfl) (by kernel_rfl) (fun _ _ _ h => h) (Or.inl ⟨by rfl, ?_⟩) (by assumption) ?_; rotate_left; (focus (intro w hSw; (try dsimp only at hSw); go_simp; first | done | with_reducible rfl))) | (refine wpAnyH_take (i := 5) rfl (by kernel_rfl) (by kernel_rfl) (by kernel_rfl) (fun _ _ _ h => h) (Or.inr ⟨by rfl, rfl⟩) (by assumption) ?_) | fail
  try simp only [Act.put, List.getElem_toArray, List.getElem_cons_zero, List.getElem_cons_succ, List.setIfInBounds_toArray, List.set_cons_zero, List.set_cons_succ]
  refine wpAnyH_ready (rs := [4]) (by kernel_rfl) (by simp) (AllReadyH.cons rfl (fun K hK => ?_) AllReadyH.nil)
  (try go_simp)
  refine (address_any _ _ _ _ _ (by omega) (by omega) (by omega) (by omega) (by omega) (by omega) (by omega) (by omega)).mono ?_
  rintro e w5 ⟨rfl, hb5⟩
  have hS' := keep3 hb5 (by assumption)
  have R5 := R4.drew.below hb5 R4.lt
  have r0 := R5.cell 0 _ rfl
  have r1 := R5.cell 1 _ rfl
  have f0 := R5.frozen 0
  have f1 := R5.frozen 1
  refine hK.out _ _ ?_ (fun hHeld => ?_)
  · (try dsimp only)
    (first | assumption | exact ⟨G4.cell 0 _ rfl, C4.cell 0 _ rfl, C4.cell 1 _ rfl, hB4.drew⟩ | exact hS7)
  clear hK K
  try simp only [Act.put, List.getElem_toArray, List.getElem_cons_zero, List.getElem_cons_succ, List.setIfInBounds_toArray, List.set_cons_zero, List.set_cons_succ]
  first | (refine wpAnyH_take (i := 6) (v := ?_) rfl (by kernel_rfl) (by kernel_rfl) (by kernel_rfl) (fun _ _ _ h => h) (Or.inl ⟨by rfl, ?_⟩) (by assumption) ?_; rotate_left; (focus (intro w hSw; (try dsimp only at hSw); go_simp; first | done | with_reducible rfl))) | (refine wpAnyH_take (i := 6) rfl (by kernel_rfl) (by kernel_rfl) (by kernel_rfl) (fun _ _ _ h => h) (Or.inr ⟨by rfl, rfl⟩) (by assumption) ?_) | fail
  try simp only [Act.put, List.getElem_toArray, List.getElem_cons_zero, List.getElem_cons_succ, List.setIfInBounds_toArray, List.set_cons_zero, List.set_cons_succ]
  refine wpAnyH_ready (rs := [7]) (by kernel_rfl) (by simp) (AllReadyH.cons rfl (fun K hK => ?_) AllReadyH.nil)
  (try go_simp)
  have hS7 := cAt_keep w5 w n (a / 512) (a % 512 / Cl.words k) w3.heap.size hz hS'
  refine hK.out _ _ ?_ (fun hHeld => ?_)
  · (try dsimp only)
    (first | assumption | exact ⟨G4.cell 0 _ rfl, C4.cell 0 _ rfl, C4.cell 1 _ rfl, hB4.drew⟩ | exact hS7)
  clear hK K
  try simp only [Act.put, List.getElem_toArray, List.getElem_cons_zero, List.getElem_cons_succ, List.setIfInBounds_toArray, List.set_cons_zero, List.set_cons_succ]
  first | (refine wpAnyH_take (i := 8) (v := ?_) rfl (by kernel_rfl) (by kernel_rfl) (by kernel_rfl) (fun _ _ _ h => h) (Or.inl ⟨by rfl, ?_⟩) (by assumption) ?_; rotate_left; (focus (intro w hSw; (try dsimp only at hSw); go_simp; first | done | with_reducible rfl))) | (refine wpAnyH_take (i := 8) rfl (by kernel_rfl) (by kernel_rfl) (by kernel_rfl) (fun _ _ _ h => h) (Or.inr ⟨by rfl, rfl⟩) (by assumption) ?_) | fail
  try simp only [Act.put, List.getElem_toArray, List.getElem_cons_zero, List.getElem_cons_succ, List.setIfInBounds_toArray, List.set_cons_zero, List.set_cons_succ]
  refine wpAnyH_done (by kernel_rfl) ?_ _
  go_wp2_with fail
  exact bodyPost_ret (v := .tuple #[.agg #[.int .i64 (a / 512), .int .i64 (a % 512 / Cl.words k)], .bool (Ce.address n k (a / 512) (a % 512 / Cl.words k) == a)]) (by simp [results, go_sem, Try.results25, r0, r1]) rfl ⟨rfl, hS7.2.2.2⟩
end Go.Proofs.Ytchobkabndnhoaa
