/- Decoding of blocks' headers: one contract a function. -/
import Derived.Test.YthbkfgafdjcicaaBhead2
namespace Go.Proofs.Ythbkfgafdjcicaa
open Go.RowKit
set_option linter.unusedVariables false
set_option maxHeartbeats 1000000
set_option maxRecDepth 100000
theorem bDec_any (b x : Int) (w : World) (a1 : -9223372036854775808 ≤ b) (a2 : b ≤ 9223372036854775807) (h1 : 0 ≤ x) (h2 : x ≤ 18446744073709551615) :
    Calls Try.prog 49 #[.int .i64 b, .int .u64 x] w fun e w' => e = .returned (.tuple #[.agg #[.int .i64 (Bh.decK x (Bh.atB b)), .int .i64 (Bh.decC x (Bh.atB b)), .int .i64 (Bh.decL x (Bh.atB b))], .int .i64 (Bh.decE x (Bh.atB b))]) ∧ Below w.heap.size w w' := by
  have hr := Bh.raw_bd x
  have ha := Bh.atB_bd b
  have hat := Bh.atB_out b
  have hg := Bh.raw_get x
  obtain ⟨hg1, hg2, hg3⟩ := hg
  cases ho : Sl.openB x (Bh.atB b)
  · obtain ⟨e1, e2, e3, e4⟩ := Bh.dec_closed x (Bh.atB b) ho
    rw [e1, e2, e3, e4]
    clear e1 e2 e3 e4
    have on := Sl.openN_no x (Bh.atB b) ho
    go_enter Try.func49, Try.ntmps49
    go_wp2_with fail
    refine (open_any _ _ _ (by omega) (by omega) (by omega) (by omega)).mono ?_
    rintro e w1 ⟨rfl, hb⟩
    obtain ⟨hc, hf⟩ := bcell hb
    have hz : w.heap.size < w1.heap.size := by have := hb.size; simp at this; omega
    have hB : Below w.heap.size w w1 := ((Below.refl _ _).alloc (Nat.le_refl _) _).trans (hb.mono (by simp))
    go_wp2_with (first
      | (go_at_call 66; refine (get_any _ _ _ _ (by omega) (by omega) (by omega) (by omega) (by omega) (by omega)).mono ?_; rintro e w' ⟨rfl, rfl⟩))
    exact bodyPost_ret (v := .tuple #[.agg #[.int .i64 0, .int .i64 0, .int .i64 0], .int .i64 25]) (by simp [results, go_sem, Try.results49, hc]) rfl ⟨rfl, ((hB.setCell (Nat.le_refl _) _).setCell (Nat.le_refl _) _).setCell (Nat.le_refl _) _⟩
  · have on := Sl.openN_yes x (Bh.atB b) ho
    by_cases hq : Bh.enc (Bh.rawK x) (Bh.rawC x) (Bh.rawL x) (Bh.atB b) = x
    · have hq2 : (Bh.enc (Bh.rawK x) (Bh.rawC x) (Bh.rawL x) (Bh.atB b) != x) = false := by simpa using hq
      obtain ⟨e1, e2, e3, e4⟩ := Bh.dec_right x (Bh.atB b) ho hq
      rw [e1, e2, e3, e4]
      clear e1 e2 e3 e4
      clear hq
      go_enter Try.func49, Try.ntmps49
      go_wp2_with fail
      refine (open_any _ _ _ (by omega) (by omega) (by omega) (by omega)).mono ?_
      rintro e w1 ⟨rfl, hb⟩
      obtain ⟨hc, hf⟩ := bcell hb
      have hz : w.heap.size < w1.heap.size := by have := hb.size; simp at this; omega
      have hB : Below w.heap.size w w1 := ((Below.refl _ _).alloc (Nat.le_refl _) _).trans (hb.mono (by simp))
      go_wp2_with (first
      | (go_at_call 66; refine (get_any _ _ _ _ (by omega) (by omega) (by omega) (by omega) (by omega) (by omega)).mono ?_; rintro e w' ⟨rfl, rfl⟩))
      refine (bEnc_any _ _ _ _ _ (by omega) (by omega) (by omega) (by omega) (by omega) (by omega) (by omega) (by omega)).mono ?_
      rintro e w2 ⟨rfl, hb2⟩
      obtain ⟨hc2, hf2⟩ := bcell hb2
      have hz2 : w1.heap.size < w2.heap.size := by have := hb2.size; first | omega | (simp at this; omega)
      have q0 : w2.cell? ⟨w.heap.size, 0, none⟩ = some (.int .i64 0) := by rw [hc2 _ _ (by simp; omega), World.cell?_alloc_lt _ _ _ (by simpa using hz), hc _ _ (by simp)]; simp
      have q1 : w2.cell? ⟨w.heap.size, 1, none⟩ = some (.int .i64 0) := by rw [hc2 _ _ (by simp; omega), World.cell?_alloc_lt _ _ _ (by simpa using hz), hc _ _ (by simp)]; simp
      have q2 : w2.cell? ⟨w.heap.size, 2, none⟩ = some (.int .i64 0) := by rw [hc2 _ _ (by simp; omega), World.cell?_alloc_lt _ _ _ (by simpa using hz), hc _ _ (by simp)]; simp
      have r0 : w2.cell? ⟨w1.heap.size, 0, none⟩ = some (.int .i64 (Bh.rawK x)) := by rw [hc2 _ _ (by simp)]; simp
      have r1 : w2.cell? ⟨w1.heap.size, 1, none⟩ = some (.int .i64 (Bh.rawC x)) := by rw [hc2 _ _ (by simp)]; simp
      have r2 : w2.cell? ⟨w1.heap.size, 2, none⟩ = some (.int .i64 (Bh.rawL x)) := by rw [hc2 _ _ (by simp)]; simp
      have f0 : ∀ o, w2.frozen? ⟨w.heap.size, o, none⟩ = false := fun o => by rw [hf2 _ _ (by simp; omega), frozen_alloc_lt _ _ _ (by simpa using hz), hf _ _ (by simp)]; simp
      have hB2 : Below w.heap.size w w2 := (hB.alloc (by omega) _).trans (hb2.mono (by simp; omega))
      clear hc hf hc2 hf2
      go_wp2_with fail
      exact bodyPost_ret (v := .tuple #[.agg #[.int .i64 (Bh.rawK x), .int .i64 (Bh.rawC x), .int .i64 (Bh.rawL x)], .int .i64 0]) (by simp [results, go_sem, Try.results49, q0, q1, q2]) rfl ⟨rfl, ((hB2.setCell (Nat.le_refl _) _).setCell (Nat.le_refl _) _).setCell (Nat.le_refl _) _⟩
    · have hq2 : (Bh.enc (Bh.rawK x) (Bh.rawC x) (Bh.rawL x) (Bh.atB b) != x) = true := by simpa using hq
      obtain ⟨e1, e2, e3, e4⟩ := Bh.dec_other x (Bh.atB b) ho hq
      rw [e1, e2, e3, e4]
      clear e1 e2 e3 e4
      clear hq
      go_enter Try.func49, Try.ntmps49
      go_wp2_with fail
      refine (open_any _ _ _ (by omega) (by omega) (by omega) (by omega)).mono ?_
      rintro e w1 ⟨rfl, hb⟩
      obtain ⟨hc, hf⟩ := bcell hb
      have hz : w.heap.size < w1.heap.size := by have := hb.size; simp at this; omega
      have hB : Below w.heap.size w w1 := ((Below.refl _ _).alloc (Nat.le_refl _) _).trans (hb.mono (by simp))
      go_wp2_with (first
      | (go_at_call 66; refine (get_any _ _ _ _ (by omega) (by omega) (by omega) (by omega) (by omega) (by omega)).mono ?_; rintro e w' ⟨rfl, rfl⟩))
      refine (bEnc_any _ _ _ _ _ (by omega) (by omega) (by omega) (by omega) (by omega) (by omega) (by omega) (by omega)).mono ?_
      rintro e w2 ⟨rfl, hb2⟩
      obtain ⟨hc2, hf2⟩ := bcell hb2
      have hz2 : w1.heap.size < w2.heap.size := by have := hb2.size; first | omega | (simp at this; omega)
      have q0 : w2.cell? ⟨w.heap.size, 0, none⟩ = some (.int .i64 0) := by rw [hc2 _ _ (by simp; omega), World.cell?_alloc_lt _ _ _ (by simpa using hz), hc _ _ (by simp)]; simp
      have q1 : w2.cell? ⟨w.heap.size, 1, none⟩ = some (.int .i64 0) := by rw [hc2 _ _ (by simp; omega), World.cell?_alloc_lt _ _ _ (by simpa using hz), hc _ _ (by simp)]; simp
      have q2 : w2.cell? ⟨w.heap.size, 2, none⟩ = some (.int .i64 0) := by rw [hc2 _ _ (by simp; omega), World.cell?_alloc_lt _ _ _ (by simpa using hz), hc _ _ (by simp)]; simp
      have r0 : w2.cell? ⟨w1.heap.size, 0, none⟩ = some (.int .i64 (Bh.rawK x)) := by rw [hc2 _ _ (by simp)]; simp
      have r1 : w2.cell? ⟨w1.heap.size, 1, none⟩ = some (.int .i64 (Bh.rawC x)) := by rw [hc2 _ _ (by simp)]; simp
      have r2 : w2.cell? ⟨w1.heap.size, 2, none⟩ = some (.int .i64 (Bh.rawL x)) := by rw [hc2 _ _ (by simp)]; simp
      have f0 : ∀ o, w2.frozen? ⟨w.heap.size, o, none⟩ = false := fun o => by rw [hf2 _ _ (by simp; omega), frozen_alloc_lt _ _ _ (by simpa using hz), hf _ _ (by simp)]; simp
      have hB2 : Below w.heap.size w w2 := (hB.alloc (by omega) _).trans (hb2.mono (by simp; omega))
      clear hc hf hc2 hf2
      go_wp2_with fail
      exact bodyPost_ret (v := .tuple #[.agg #[.int .i64 0, .int .i64 0, .int .i64 0], .int .i64 26]) (by simp [results, go_sem, Try.results49, q0, q1, q2]) rfl ⟨rfl, ((hB2.setCell (Nat.le_refl _) _).setCell (Nat.le_refl _) _).setCell (Nat.le_refl _) _⟩
theorem rBDec_any (b x : Int) (w : World) (a1 : -9223372036854775808 ≤ b) (a2 : b ≤ 9223372036854775807) (h1 : 0 ≤ x) (h2 : x ≤ 18446744073709551615) :
    Calls Try.prog 50 #[.int .i64 b, .int .u64 x] w fun e w' => e = .returned (.tuple #[.agg #[.int .i64 (Bh.decK x (Bh.atB b)), .int .i64 (Bh.decC x (Bh.atB b)), .int .i64 (Bh.decL x (Bh.atB b))], .int .i64 (Bh.decE x (Bh.atB b))]) ∧ Below w.heap.size w w' := by
  have hr := Bh.raw_bd x
  have ha := Bh.atB_bd b
  have hat := Bh.atB_out b
  have hg1 : x % 4294967296 % 4 = Bh.rawK x := rfl
  have hg2 : x % 4294967296 / 4 % 64 = Bh.rawC x := rfl
  have hg3 : x % 4294967296 / 256 % 65536 = Bh.rawL x := rfl
  cases ho : Sl.openB x (Bh.atB b)
  · obtain ⟨e1, e2, e3, e4⟩ := Bh.dec_closed x (Bh.atB b) ho
    rw [e1, e2, e3, e4]
    clear e1 e2 e3 e4
    have on := Sl.openN_no x (Bh.atB b) ho
    go_enter Try.func50, Try.ntmps50
    go_wp2_with fail
    refine (rOpen_any _ _ _ (by omega) (by omega) (by omega) (by omega)).mono ?_
    rintro e w1 ⟨rfl, hb⟩
    obtain ⟨hc, hf⟩ := bcell hb
    have hz : w.heap.size < w1.heap.size := by have := hb.size; simp at this; omega
    have hB : Below w.heap.size w w1 := ((Below.refl _ _).alloc (Nat.le_refl _) _).trans (hb.mono (by simp))
    go_wp2_with fail
    exact bodyPost_ret (v := .tuple #[.agg #[.int .i64 0, .int .i64 0, .int .i64 0], .int .i64 25]) (by simp [results, go_sem, Try.results50, hc]) rfl ⟨rfl, ((hB.setCell (Nat.le_refl _) _).setCell (Nat.le_refl _) _).setCell (Nat.le_refl _) _⟩
  · have on := Sl.openN_yes x (Bh.atB b) ho
    by_cases hq : Bh.enc (Bh.rawK x) (Bh.rawC x) (Bh.rawL x) (Bh.atB b) = x
    · have hq2 : (Bh.enc (Bh.rawK x) (Bh.rawC x) (Bh.rawL x) (Bh.atB b) != x) = false := by simpa using hq
      obtain ⟨e1, e2, e3, e4⟩ := Bh.dec_right x (Bh.atB b) ho hq
      rw [e1, e2, e3, e4]
      clear e1 e2 e3 e4
      have hri : Bh.right (Bh.rawK x) (Bh.rawC x) (Bh.rawL x) = true := by
        cases h : Bh.right (Bh.rawK x) (Bh.rawC x) (Bh.rawL x)
        · exact absurd hq (Bh.dec_none x (Bh.atB b) h)
        · rfl
      clear hq
      go_enter Try.func50, Try.ntmps50
      go_wp2_with fail
      refine (rOpen_any _ _ _ (by omega) (by omega) (by omega) (by omega)).mono ?_
      rintro e w1 ⟨rfl, hb⟩
      obtain ⟨hc, hf⟩ := bcell hb
      have hz : w.heap.size < w1.heap.size := by have := hb.size; simp at this; omega
      have hB : Below w.heap.size w w1 := ((Below.refl _ _).alloc (Nat.le_refl _) _).trans (hb.mono (by simp))
      go_wp2_with fail
      refine (rBEnc_any _ _ _ _ _ (by omega) (by omega) (by omega) (by omega) (by omega) (by omega) (by omega) (by omega)).mono ?_
      rintro e w2 ⟨rfl, hb2⟩
      obtain ⟨hc2, hf2⟩ := bcell hb2
      have hz2 : w1.heap.size < w2.heap.size := by have := hb2.size; first | omega | (simp at this; omega)
      have q0 : w2.cell? ⟨w.heap.size, 0, none⟩ = some (.int .i64 0) := by rw [hc2 _ _ (by simp; omega), World.cell?_alloc_lt _ _ _ (by simpa using hz), hc _ _ (by simp)]; simp
      have q1 : w2.cell? ⟨w.heap.size, 1, none⟩ = some (.int .i64 0) := by rw [hc2 _ _ (by simp; omega), World.cell?_alloc_lt _ _ _ (by simpa using hz), hc _ _ (by simp)]; simp
      have q2 : w2.cell? ⟨w.heap.size, 2, none⟩ = some (.int .i64 0) := by rw [hc2 _ _ (by simp; omega), World.cell?_alloc_lt _ _ _ (by simpa using hz), hc _ _ (by simp)]; simp
      have r0 : w2.cell? ⟨w1.heap.size, 0, none⟩ = some (.int .i64 (Bh.rawK x)) := by rw [hc2 _ _ (by simp)]; simp
      have r1 : w2.cell? ⟨w1.heap.size, 1, none⟩ = some (.int .i64 (Bh.rawC x)) := by rw [hc2 _ _ (by simp)]; simp
      have r2 : w2.cell? ⟨w1.heap.size, 2, none⟩ = some (.int .i64 (Bh.rawL x)) := by rw [hc2 _ _ (by simp)]; simp
      have f0 : ∀ o, w2.frozen? ⟨w.heap.size, o, none⟩ = false := fun o => by rw [hf2 _ _ (by simp; omega), frozen_alloc_lt _ _ _ (by simpa using hz), hf _ _ (by simp)]; simp
      have hB2 : Below w.heap.size w w2 := (hB.alloc (by omega) _).trans (hb2.mono (by simp; omega))
      clear hc hf hc2 hf2
      go_wp2_with fail
      refine (rBRight_any _ _ _ _ (by omega) (by omega) (by omega) (by omega) (by omega) (by omega)).mono ?_
      rintro e w3 ⟨rfl, hb3⟩
      obtain ⟨hc3, hf3⟩ := bcell hb3
      have hz3 : w1.heap.size < w3.heap.size := by have := hb3.size; first | omega | (simp at this; omega)
      have q30 := (hc3 w.heap.size 0 (by omega)).trans q0
      have q31 := (hc3 w.heap.size 1 (by omega)).trans q1
      have q32 := (hc3 w.heap.size 2 (by omega)).trans q2
      have r30 := (hc3 w1.heap.size 0 (by omega)).trans r0
      have r31 := (hc3 w1.heap.size 1 (by omega)).trans r1
      have r32 := (hc3 w1.heap.size 2 (by omega)).trans r2
      have f30 : ∀ o, w3.frozen? ⟨w.heap.size, o, none⟩ = false := fun o => (hf3 w.heap.size o (by omega)).trans (f0 o)
      have hB3 : Below w.heap.size w w3 := hB2.trans (hb3.mono (by have := hB2.size; omega))
      clear hc3 hf3
      go_wp2_with fail
      exact bodyPost_ret (v := .tuple #[.agg #[.int .i64 (Bh.rawK x), .int .i64 (Bh.rawC x), .int .i64 (Bh.rawL x)], .int .i64 0]) (by simp [results, go_sem, Try.results50, q30, q31, q32]) rfl ⟨rfl, ((hB3.setCell (Nat.le_refl _) _).setCell (Nat.le_refl _) _).setCell (Nat.le_refl _) _⟩
    · have hq2 : (Bh.enc (Bh.rawK x) (Bh.rawC x) (Bh.rawL x) (Bh.atB b) != x) = true := by simpa using hq
      obtain ⟨e1, e2, e3, e4⟩ := Bh.dec_other x (Bh.atB b) ho hq
      rw [e1, e2, e3, e4]
      clear e1 e2 e3 e4
      clear hq
      go_enter Try.func50, Try.ntmps50
      go_wp2_with fail
      refine (rOpen_any _ _ _ (by omega) (by omega) (by omega) (by omega)).mono ?_
      rintro e w1 ⟨rfl, hb⟩
      obtain ⟨hc, hf⟩ := bcell hb
      have hz : w.heap.size < w1.heap.size := by have := hb.size; simp at this; omega
      have hB : Below w.heap.size w w1 := ((Below.refl _ _).alloc (Nat.le_refl _) _).trans (hb.mono (by simp))
      go_wp2_with fail
      refine (rBEnc_any _ _ _ _ _ (by omega) (by omega) (by omega) (by omega) (by omega) (by omega) (by omega) (by omega)).mono ?_
      rintro e w2 ⟨rfl, hb2⟩
      obtain ⟨hc2, hf2⟩ := bcell hb2
      have hz2 : w1.heap.size < w2.heap.size := by have := hb2.size; first | omega | (simp at this; omega)
      have q0 : w2.cell? ⟨w.heap.size, 0, none⟩ = some (.int .i64 0) := by rw [hc2 _ _ (by simp; omega), World.cell?_alloc_lt _ _ _ (by simpa using hz), hc _ _ (by simp)]; simp
      have q1 : w2.cell? ⟨w.heap.size, 1, none⟩ = some (.int .i64 0) := by rw [hc2 _ _ (by simp; omega), World.cell?_alloc_lt _ _ _ (by simpa using hz), hc _ _ (by simp)]; simp
      have q2 : w2.cell? ⟨w.heap.size, 2, none⟩ = some (.int .i64 0) := by rw [hc2 _ _ (by simp; omega), World.cell?_alloc_lt _ _ _ (by simpa using hz), hc _ _ (by simp)]; simp
      have r0 : w2.cell? ⟨w1.heap.size, 0, none⟩ = some (.int .i64 (Bh.rawK x)) := by rw [hc2 _ _ (by simp)]; simp
      have r1 : w2.cell? ⟨w1.heap.size, 1, none⟩ = some (.int .i64 (Bh.rawC x)) := by rw [hc2 _ _ (by simp)]; simp
      have r2 : w2.cell? ⟨w1.heap.size, 2, none⟩ = some (.int .i64 (Bh.rawL x)) := by rw [hc2 _ _ (by simp)]; simp
      have f0 : ∀ o, w2.frozen? ⟨w.heap.size, o, none⟩ = false := fun o => by rw [hf2 _ _ (by simp; omega), frozen_alloc_lt _ _ _ (by simpa using hz), hf _ _ (by simp)]; simp
      have hB2 : Below w.heap.size w w2 := (hB.alloc (by omega) _).trans (hb2.mono (by simp; omega))
      clear hc hf hc2 hf2
      go_wp2_with fail
      exact bodyPost_ret (v := .tuple #[.agg #[.int .i64 0, .int .i64 0, .int .i64 0], .int .i64 26]) (by simp [results, go_sem, Try.results50, q0, q1, q2]) rfl ⟨rfl, ((hB2.setCell (Nat.le_refl _) _).setCell (Nat.le_refl _) _).setCell (Nat.le_refl _) _⟩
end Go.Proofs.Ythbkfgafdjcicaa
