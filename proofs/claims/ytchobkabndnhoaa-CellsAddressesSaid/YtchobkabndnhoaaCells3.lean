/- What cells.Holding and cells.At make. -/
import Derived.Test.YtchobkabndnhoaaCells2
import Derived.Test.YtchobkabndnhoaaBlk
namespace Go.Proofs.Ytchobkabndnhoaa
open Go.RowKit
set_option linter.unusedVariables false
set_option linter.unusedSimpArgs false
set_option maxHeartbeats 2000000
set_option maxRecDepth 100000
theorem dataB_in (n a : Int) (h1 : 512 ≤ a) (h2 : a < 512 * n) : dataB n a = true ∧ blockOf n a = a / 512 := by
  have e : blockOf n a = a / 512 := by unfold blockOf; rw [if_pos (by omega)]
  exact ⟨by unfold dataB; rw [e]; simp; omega, e⟩
theorem dataB_out (n a : Int) (h : ¬ (512 ≤ a ∧ a < 512 * n)) : dataB n a = false := by
  unfold dataB blockOf
  split <;> simp <;> omega
theorem cHold_yes (n k a : Int) (w : World) (h1 : 0 ≤ n) (h3 : n ≤ 1000000) (a1 : 512 ≤ a) (a2 : a < 512 * n) (k1 : 0 ≤ k) (k2 : k < 32) (hc : a % 512 / Cl.words k < Cl.cells k) :
    Calls Try.prog 24 #[.agg #[.int .i64 n], .int .i64 k, .int .i64 a] w fun e w' => e = .returned (.tuple #[.agg #[.int .i64 (a / 512), .int .i64 (a % 512 / Cl.words k)], .bool true]) ∧ Below w.heap.size w w' := by
  obtain ⟨d1, d2⟩ := dataB_in n a a1 a2
  have d3 := Cl.rightB_yes k k1 k2
  have hw := Cl.words_bd k
  have hwp := Cl.words_pos k k1 k2
  have hq : 0 ≤ a % 512 / Cl.words k ∧ a % 512 / Cl.words k ≤ 512 := ⟨Int.ediv_nonneg (by omega) (by omega), by have := Int.ediv_le_self (a := a % 512) (Cl.words k) (by omega); omega⟩
  have dc : decide (Cl.cells k ≤ a % 512 / Cl.words k) = false := by simp; omega
  have D2 := Lib.hid d2
  clear d2
  have G := Lib.hid ((Blk.new w #[.int .i64 n] 35).alloc (.cells #[.int .i64 0, .int .i64 0] 43))
  have R := Lib.hid (Blk.new1 w (.cells #[.int .i64 n] 35) #[.int .i64 0, .int .i64 0] 43)
  have hB : Below w.heap.size w ((w.alloc (.cells #[.int .i64 n] 35)).alloc (.cells #[.int .i64 0, .int .i64 0] 43)) := ((Below.refl _ _).alloc (Nat.le_refl _) _).alloc (by simp) _
  go_enter Try.func24, Try.ntmps24
  go_wp2_with (first
    | (go_at_call 43; refine (right_any _ _ (by omega) (by omega)).mono ?_; rintro e w' ⟨rfl, rfl⟩)
    | (go_at_call 45; refine (gData_any _ _ _ (by omega) (by omega) (by omega) (by omega)).mono ?_; rintro e w1 ⟨rfl, hb1⟩; have G1 := G.out.below hb1 G.out.lt; have R1 := R.out.below hb1 R.out.lt; have hB1 := hB.trans (hb1.mono hB.size); have g0 := G1.cell 0 _ rfl)
    | (go_at_call 46; refine (gBlockOf_any _ _ _ (by omega) (by omega) (by omega) (by omega)).mono ?_; rintro e w2 ⟨rfl, hb2⟩; rw [D2.out]; have R2 := R1.below hb2 R1.lt; have hB2 := hB1.trans (hb2.mono hB1.size))
    | (go_at_call 21; refine (words_any _ _ (by omega) (by omega)).mono ?_; rintro e w3 ⟨rfl, hb3⟩; have R3 := R2.below hb3 R2.lt; have hB3 := hB2.trans (hb3.mono hB2.size)))
  have R4 := R3.alloc (.cells #[.int .i64 (a / 512), .int .i64 (a % 512 / Cl.words k)] 43)
  have C4 := Blk.new w3 #[.int .i64 (a / 512), .int .i64 (a % 512 / Cl.words k)] 43
  have hB4 := hB3.alloc hB3.size (.cells #[.int .i64 (a / 512), .int .i64 (a % 512 / Cl.words k)] 43)
  go_region_held3 (fun W => W.cell? ⟨w3.heap.size, 1, none⟩ = some (.int .i64 (a % 512 / Cl.words k)) ∧ Below (w3.alloc (.cells #[.int .i64 (a / 512), .int .i64 (a % 512 / Cl.words k)] 43)).heap.size (w3.alloc (.cells #[.int .i64 (a / 512), .int .i64 (a % 512 / Cl.words k)] 43)) W)
    (first | assumption | exact ⟨C4.cell 1 _ rfl, (Below.refl _ _).drew⟩)
    (first
      | (go_at_call 22; refine (cells_any _ _ (by omega) (by omega)).mono ?_; rintro e w5 ⟨rfl, hb5⟩; have hS := (by assumption : _ ∧ Below _ _ _); have hS' := And.intro ((hb5.cell (cell_lt hS.1)).trans hS.1) (hS.2.trans (hb5.mono hS.2.size))))
  have hS' := (by assumption : _ ∧ Below _ _ _)
  have R5 := R4.below hS'.2 R4.lt
  have C5 := C4.below hS'.2 C4.lt
  have hB5 := hB4.trans (hS'.2.mono hB4.size)
  have c0 := C5.cell 0 _ rfl
  have c1 := C5.cell 1 _ rfl
  have r0 := R5.cell 0 _ rfl
  have r1 := R5.cell 1 _ rfl
  have f0 := R5.frozen 0
  have f1 := R5.frozen 1
  go_wp2_with fail
  exact bodyPost_ret (v := .tuple #[.agg #[.int .i64 (a / 512), .int .i64 (a % 512 / Cl.words k)], .bool true]) (by simp [results, go_sem, Try.results24, r0, r1]) rfl ⟨rfl, (hB5.setCell (by simp) _).setCell (by simp) _⟩
theorem cHold_none (n k a : Int) (w : World) (h1 : 0 ≤ n) (h3 : n ≤ 1000000) (a1 : 512 ≤ a) (a2 : a < 512 * n) (k1 : 0 ≤ k) (k2 : k < 32) (hc : Cl.cells k ≤ a % 512 / Cl.words k) :
    Calls Try.prog 24 #[.agg #[.int .i64 n], .int .i64 k, .int .i64 a] w fun e w' => e = .returned (.tuple #[.agg #[.int .i64 0, .int .i64 0], .bool false]) ∧ Below w.heap.size w w' := by
  obtain ⟨d1, d2⟩ := dataB_in n a a1 a2
  have d3 := Cl.rightB_yes k k1 k2
  have hw := Cl.words_bd k
  have hwp := Cl.words_pos k k1 k2
  have hq : 0 ≤ a % 512 / Cl.words k ∧ a % 512 / Cl.words k ≤ 512 := ⟨Int.ediv_nonneg (by omega) (by omega), by have := Int.ediv_le_self (a := a % 512) (Cl.words k) (by omega); omega⟩
  have dc : decide (Cl.cells k ≤ a % 512 / Cl.words k) = true := by simpa using hc
  have D2 := Lib.hid d2
  clear d2
  have G := Lib.hid ((Blk.new w #[.int .i64 n] 35).alloc (.cells #[.int .i64 0, .int .i64 0] 43))
  have R := Lib.hid (Blk.new1 w (.cells #[.int .i64 n] 35) #[.int .i64 0, .int .i64 0] 43)
  have hB : Below w.heap.size w ((w.alloc (.cells #[.int .i64 n] 35)).alloc (.cells #[.int .i64 0, .int .i64 0] 43)) := ((Below.refl _ _).alloc (Nat.le_refl _) _).alloc (by simp) _
  go_enter Try.func24, Try.ntmps24
  go_wp2_with (first
    | (go_at_call 43; refine (right_any _ _ (by omega) (by omega)).mono ?_; rintro e w' ⟨rfl, rfl⟩)
    | (go_at_call 45; refine (gData_any _ _ _ (by omega) (by omega) (by omega) (by omega)).mono ?_; rintro e w1 ⟨rfl, hb1⟩; have G1 := G.out.below hb1 G.out.lt; have R1 := R.out.below hb1 R.out.lt; have hB1 := hB.trans (hb1.mono hB.size); have g0 := G1.cell 0 _ rfl)
    | (go_at_call 46; refine (gBlockOf_any _ _ _ (by omega) (by omega) (by omega) (by omega)).mono ?_; rintro e w2 ⟨rfl, hb2⟩; rw [D2.out]; have R2 := R1.below hb2 R1.lt; have hB2 := hB1.trans (hb2.mono hB1.size))
    | (go_at_call 21; refine (words_any _ _ (by omega) (by omega)).mono ?_; rintro e w3 ⟨rfl, hb3⟩; have R3 := R2.below hb3 R2.lt; have hB3 := hB2.trans (hb3.mono hB2.size)))
  have R4 := R3.alloc (.cells #[.int .i64 (a / 512), .int .i64 (a % 512 / Cl.words k)] 43)
  have C4 := Blk.new w3 #[.int .i64 (a / 512), .int .i64 (a % 512 / Cl.words k)] 43
  have hB4 := hB3.alloc hB3.size (.cells #[.int .i64 (a / 512), .int .i64 (a % 512 / Cl.words k)] 43)
  go_region_held3 (fun W => W.cell? ⟨w3.heap.size, 1, none⟩ = some (.int .i64 (a % 512 / Cl.words k)) ∧ Below (w3.alloc (.cells #[.int .i64 (a / 512), .int .i64 (a % 512 / Cl.words k)] 43)).heap.size (w3.alloc (.cells #[.int .i64 (a / 512), .int .i64 (a % 512 / Cl.words k)] 43)) W)
    (first | assumption | exact ⟨C4.cell 1 _ rfl, (Below.refl _ _).drew⟩)
    (first
      | (go_at_call 22; refine (cells_any _ _ (by omega) (by omega)).mono ?_; rintro e w5 ⟨rfl, hb5⟩; have hS := (by assumption : _ ∧ Below _ _ _); have hS' := And.intro ((hb5.cell (cell_lt hS.1)).trans hS.1) (hS.2.trans (hb5.mono hS.2.size))))
  have hS' := (by assumption : _ ∧ Below _ _ _)
  have R5 := R4.below hS'.2 R4.lt
  have C5 := C4.below hS'.2 C4.lt
  have hB5 := hB4.trans (hS'.2.mono hB4.size)
  have c0 := C5.cell 0 _ rfl
  have c1 := C5.cell 1 _ rfl
  have r0 := R5.cell 0 _ rfl
  have r1 := R5.cell 1 _ rfl
  have f0 := R5.frozen 0
  have f1 := R5.frozen 1
  go_wp2_with fail
  exact bodyPost_ret (v := .tuple #[.agg #[.int .i64 0, .int .i64 0], .bool false]) (by simp [results, go_sem, Try.results24, r0, r1]) rfl ⟨rfl, (hB5.setCell (by simp) _).setCell (by simp) _⟩
theorem cHold_wrong (n k a : Int) (w : World) (h1 : 0 ≤ n) (h3 : n ≤ 1000000) (a1 : -9223372036854775808 ≤ a) (a2 : a ≤ 9223372036854775807) (k1 : -9223372036854775808 ≤ k) (k2 : k ≤ 9223372036854775807) (h : k < 0 ∨ 32 ≤ k) :
    Calls Try.prog 24 #[.agg #[.int .i64 n], .int .i64 k, .int .i64 a] w fun e w' => e = .returned (.tuple #[.agg #[.int .i64 0, .int .i64 0], .bool false]) ∧ Below w.heap.size w w' := by
  have d3 := Cl.rightB_no k h
  have G := Lib.hid ((Blk.new w #[.int .i64 n] 35).alloc (.cells #[.int .i64 0, .int .i64 0] 43))
  have R := Lib.hid (Blk.new1 w (.cells #[.int .i64 n] 35) #[.int .i64 0, .int .i64 0] 43)
  have hB : Below w.heap.size w ((w.alloc (.cells #[.int .i64 n] 35)).alloc (.cells #[.int .i64 0, .int .i64 0] 43)) := ((Below.refl _ _).alloc (Nat.le_refl _) _).alloc (by simp) _
  go_enter Try.func24, Try.ntmps24
  go_wp2_with (first
    | (go_at_call 43; refine (right_any _ _ (by omega) (by omega)).mono ?_; rintro e w' ⟨rfl, rfl⟩))
  exact bodyPost_ret (v := .tuple #[.agg #[.int .i64 0, .int .i64 0], .bool false]) (by simp [results, go_sem, Try.results24]) rfl ⟨rfl, by first | exact (hB.setCell (by simp) _).setCell (by simp) _ | exact hB | exact ((Below.refl _ _).alloc (Nat.le_refl _) _).alloc (by simp) _⟩
theorem cHold_far (n k a : Int) (w : World) (h1 : 0 ≤ n) (h3 : n ≤ 1000000) (a1 : -9223372036854775808 ≤ a) (a2 : a ≤ 9223372036854775807) (k1 : 0 ≤ k) (k2 : k < 32) (h : ¬ (512 ≤ a ∧ a < 512 * n)) :
    Calls Try.prog 24 #[.agg #[.int .i64 n], .int .i64 k, .int .i64 a] w fun e w' => e = .returned (.tuple #[.agg #[.int .i64 0, .int .i64 0], .bool false]) ∧ Below w.heap.size w w' := by
  have d3 := Cl.rightB_yes k k1 k2
  have d1 := dataB_out n a h
  have G := Lib.hid ((Blk.new w #[.int .i64 n] 35).alloc (.cells #[.int .i64 0, .int .i64 0] 43))
  have R := Lib.hid (Blk.new1 w (.cells #[.int .i64 n] 35) #[.int .i64 0, .int .i64 0] 43)
  have hB : Below w.heap.size w ((w.alloc (.cells #[.int .i64 n] 35)).alloc (.cells #[.int .i64 0, .int .i64 0] 43)) := ((Below.refl _ _).alloc (Nat.le_refl _) _).alloc (by simp) _
  go_enter Try.func24, Try.ntmps24
  go_wp2_with (first
    | (go_at_call 43; refine (right_any _ _ (by omega) (by omega)).mono ?_; rintro e w' ⟨rfl, rfl⟩)
    | (go_at_call 45; refine (gData_any _ _ _ (by omega) (by omega) (by omega) (by omega)).mono ?_; rintro e w1 ⟨rfl, hb1⟩; have R1 := R.out.below hb1 R.out.lt; have hB1 := hB.trans (hb1.mono hB.size); have r0 := R1.cell 0 _ rfl; have r1 := R1.cell 1 _ rfl; have f0 := R1.frozen 0; have f1 := R1.frozen 1))
  exact bodyPost_ret (v := .tuple #[.agg #[.int .i64 0, .int .i64 0], .bool false]) (by simp [results, go_sem, Try.results24, r0, r1]) rfl ⟨rfl, (hB1.setCell (by simp) _).setCell (by simp) _⟩
theorem cAt_wrong (n k a : Int) (w : World) (h1 : 0 ≤ n) (h3 : n ≤ 1000000) (a1 : -9223372036854775808 ≤ a) (a2 : a ≤ 9223372036854775807) (k1 : -9223372036854775808 ≤ k) (k2 : k ≤ 9223372036854775807) (h : k < 0 ∨ 32 ≤ k) :
    Calls Try.prog 25 #[.agg #[.int .i64 n], .int .i64 k, .int .i64 a] w fun e w' => e = .returned (.tuple #[.agg #[.int .i64 0, .int .i64 0], .bool false]) ∧ Below w.heap.size w w' := by
  have d3 := Cl.rightB_no k h
  have G := Lib.hid ((Blk.new w #[.int .i64 n] 35).alloc (.cells #[.int .i64 0, .int .i64 0] 43))
  have R := Lib.hid (Blk.new1 w (.cells #[.int .i64 n] 35) #[.int .i64 0, .int .i64 0] 43)
  have hB : Below w.heap.size w ((w.alloc (.cells #[.int .i64 n] 35)).alloc (.cells #[.int .i64 0, .int .i64 0] 43)) := ((Below.refl _ _).alloc (Nat.le_refl _) _).alloc (by simp) _
  go_enter Try.func25, Try.ntmps25
  go_wp2_with (first
    | (go_at_call 43; refine (right_any _ _ (by omega) (by omega)).mono ?_; rintro e w' ⟨rfl, rfl⟩))
  exact bodyPost_ret (v := .tuple #[.agg #[.int .i64 0, .int .i64 0], .bool false]) (by simp [results, go_sem, Try.results25]) rfl ⟨rfl, by first | exact (hB.setCell (by simp) _).setCell (by simp) _ | exact hB | exact ((Below.refl _ _).alloc (Nat.le_refl _) _).alloc (by simp) _⟩
theorem cAt_far (n k a : Int) (w : World) (h1 : 0 ≤ n) (h3 : n ≤ 1000000) (a1 : -9223372036854775808 ≤ a) (a2 : a ≤ 9223372036854775807) (k1 : 0 ≤ k) (k2 : k < 32) (h : ¬ (512 ≤ a ∧ a < 512 * n)) :
    Calls Try.prog 25 #[.agg #[.int .i64 n], .int .i64 k, .int .i64 a] w fun e w' => e = .returned (.tuple #[.agg #[.int .i64 0, .int .i64 0], .bool false]) ∧ Below w.heap.size w w' := by
  have d3 := Cl.rightB_yes k k1 k2
  have d1 := dataB_out n a h
  have G := Lib.hid ((Blk.new w #[.int .i64 n] 35).alloc (.cells #[.int .i64 0, .int .i64 0] 43))
  have R := Lib.hid (Blk.new1 w (.cells #[.int .i64 n] 35) #[.int .i64 0, .int .i64 0] 43)
  have hB : Below w.heap.size w ((w.alloc (.cells #[.int .i64 n] 35)).alloc (.cells #[.int .i64 0, .int .i64 0] 43)) := ((Below.refl _ _).alloc (Nat.le_refl _) _).alloc (by simp) _
  go_enter Try.func25, Try.ntmps25
  go_wp2_with (first
    | (go_at_call 43; refine (right_any _ _ (by omega) (by omega)).mono ?_; rintro e w' ⟨rfl, rfl⟩)
    | (go_at_call 45; refine (gData_any _ _ _ (by omega) (by omega) (by omega) (by omega)).mono ?_; rintro e w1 ⟨rfl, hb1⟩; have R1 := R.out.below hb1 R.out.lt; have hB1 := hB.trans (hb1.mono hB.size); have r0 := R1.cell 0 _ rfl; have r1 := R1.cell 1 _ rfl; have f0 := R1.frozen 0; have f1 := R1.frozen 1))
  exact bodyPost_ret (v := .tuple #[.agg #[.int .i64 0, .int .i64 0], .bool false]) (by simp [results, go_sem, Try.results25, r0, r1]) rfl ⟨rfl, (hB1.setCell (by simp) _).setCell (by simp) _⟩
end Go.Proofs.Ytchobkabndnhoaa
