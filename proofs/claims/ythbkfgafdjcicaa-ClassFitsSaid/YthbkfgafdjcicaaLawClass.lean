/- The statements of package class: the Go functions answer true. -/
import Derived.Test.YthbkfgafdjcicaaClass2
namespace Go.Proofs.Ythbkfgafdjcicaa
open Go.RowKit
set_option linter.unusedVariables false
set_option maxHeartbeats 400000
set_option maxRecDepth 100000
theorem walk_ClassTells (k : Int) (w : World) (w0 : (Lit.int .i64 k).wf = true) :
    Calls Try.prog 4 #[.int .i64 k] w fun e w' => e = .returned (.bool true) ∧ Below w.heap.size w w' := by
  have b0 := bounds_i64 w0
  clear w0
  have hb1 := Cl.words_bd k
  have hb2 := Cl.cells_bd k
  have hB := Below.refl w.heap.size w
  by_cases c : 0 ≤ k ∧ k < 32
  · obtain ⟨c1, c2⟩ := c
    have hr := Cl.rightB_yes k c1 c2
    have hm := Cl.cells_mul k c1 c2
    have e := Cl.waste_in k c1 c2
    go_enter Try.func4, Try.ntmps4
    go_wp2_with (first
      | (go_at_call 17; refine (awake6_any _).mono ?_; rintro e w' ⟨rfl, hb'⟩; first | (replace hB := hB.trans (hb'.mono hB.size)) | (replace hB := (hB.alloc hB.size _).trans (hb'.mono (by have := hB.size; simp; omega))) | (replace hB := ((hB.alloc hB.size _).alloc (by have := hB.size; simp; omega) _).trans (hb'.mono (by have := hB.size; simp; omega))); clear hb')
      | (go_at_call 20; refine (right_any _ _ (by omega) (by omega)).mono ?_; rintro e w' ⟨rfl, rfl⟩)
      | (go_at_call 21; refine (words_any _ _ (by omega) (by omega)).mono ?_; rintro e w' ⟨rfl, hb'⟩; first | (replace hB := hB.trans (hb'.mono hB.size)) | (replace hB := (hB.alloc hB.size _).trans (hb'.mono (by have := hB.size; simp; omega))) | (replace hB := ((hB.alloc hB.size _).alloc (by have := hB.size; simp; omega) _).trans (hb'.mono (by have := hB.size; simp; omega))); clear hb')
      | (go_at_call 19; refine (rWords_any _ _ (by omega) (by omega)).mono ?_; rintro e w' ⟨rfl, hb'⟩; first | (replace hB := hB.trans (hb'.mono hB.size)) | (replace hB := (hB.alloc hB.size _).trans (hb'.mono (by have := hB.size; simp; omega))) | (replace hB := ((hB.alloc hB.size _).alloc (by have := hB.size; simp; omega) _).trans (hb'.mono (by have := hB.size; simp; omega))); clear hb')
      | (go_at_call 22; refine (cells_any _ _ (by omega) (by omega)).mono ?_; rintro e w' ⟨rfl, hb'⟩; first | (replace hB := hB.trans (hb'.mono hB.size)) | (replace hB := (hB.alloc hB.size _).trans (hb'.mono (by have := hB.size; simp; omega))) | (replace hB := ((hB.alloc hB.size _).alloc (by have := hB.size; simp; omega) _).trans (hb'.mono (by have := hB.size; simp; omega))); clear hb')
      | (go_at_call 18; refine (rCells_any _ _ (by omega) (by omega)).mono ?_; rintro e w' ⟨rfl, hb'⟩; first | (replace hB := hB.trans (hb'.mono hB.size)) | (replace hB := (hB.alloc hB.size _).trans (hb'.mono (by have := hB.size; simp; omega))) | (replace hB := ((hB.alloc hB.size _).alloc (by have := hB.size; simp; omega) _).trans (hb'.mono (by have := hB.size; simp; omega))); clear hb')
      | (go_at_call 23; refine (waste_any _ _ (by omega) (by omega)).mono ?_; rintro e w' ⟨rfl, hb'⟩; first | (replace hB := hB.trans (hb'.mono hB.size)) | (replace hB := (hB.alloc hB.size _).trans (hb'.mono (by have := hB.size; simp; omega))) | (replace hB := ((hB.alloc hB.size _).alloc (by have := hB.size; simp; omega) _).trans (hb'.mono (by have := hB.size; simp; omega))); clear hb'))
    go_ret
    exact ⟨rfl, hB⟩
  · have hr := Cl.rightB_no k (by omega)
    have e := Cl.waste_out k (by omega)
    by_cases c1 : k < 0
    · go_enter Try.func4, Try.ntmps4
      go_wp2_with (first
      | (go_at_call 17; refine (awake6_any _).mono ?_; rintro e w' ⟨rfl, hb'⟩; first | (replace hB := hB.trans (hb'.mono hB.size)) | (replace hB := (hB.alloc hB.size _).trans (hb'.mono (by have := hB.size; simp; omega))) | (replace hB := ((hB.alloc hB.size _).alloc (by have := hB.size; simp; omega) _).trans (hb'.mono (by have := hB.size; simp; omega))); clear hb')
      | (go_at_call 20; refine (right_any _ _ (by omega) (by omega)).mono ?_; rintro e w' ⟨rfl, rfl⟩)
      | (go_at_call 21; refine (words_any _ _ (by omega) (by omega)).mono ?_; rintro e w' ⟨rfl, hb'⟩; first | (replace hB := hB.trans (hb'.mono hB.size)) | (replace hB := (hB.alloc hB.size _).trans (hb'.mono (by have := hB.size; simp; omega))) | (replace hB := ((hB.alloc hB.size _).alloc (by have := hB.size; simp; omega) _).trans (hb'.mono (by have := hB.size; simp; omega))); clear hb')
      | (go_at_call 19; refine (rWords_any _ _ (by omega) (by omega)).mono ?_; rintro e w' ⟨rfl, hb'⟩; first | (replace hB := hB.trans (hb'.mono hB.size)) | (replace hB := (hB.alloc hB.size _).trans (hb'.mono (by have := hB.size; simp; omega))) | (replace hB := ((hB.alloc hB.size _).alloc (by have := hB.size; simp; omega) _).trans (hb'.mono (by have := hB.size; simp; omega))); clear hb')
      | (go_at_call 22; refine (cells_any _ _ (by omega) (by omega)).mono ?_; rintro e w' ⟨rfl, hb'⟩; first | (replace hB := hB.trans (hb'.mono hB.size)) | (replace hB := (hB.alloc hB.size _).trans (hb'.mono (by have := hB.size; simp; omega))) | (replace hB := ((hB.alloc hB.size _).alloc (by have := hB.size; simp; omega) _).trans (hb'.mono (by have := hB.size; simp; omega))); clear hb')
      | (go_at_call 18; refine (rCells_any _ _ (by omega) (by omega)).mono ?_; rintro e w' ⟨rfl, hb'⟩; first | (replace hB := hB.trans (hb'.mono hB.size)) | (replace hB := (hB.alloc hB.size _).trans (hb'.mono (by have := hB.size; simp; omega))) | (replace hB := ((hB.alloc hB.size _).alloc (by have := hB.size; simp; omega) _).trans (hb'.mono (by have := hB.size; simp; omega))); clear hb')
      | (go_at_call 23; refine (waste_any _ _ (by omega) (by omega)).mono ?_; rintro e w' ⟨rfl, hb'⟩; first | (replace hB := hB.trans (hb'.mono hB.size)) | (replace hB := (hB.alloc hB.size _).trans (hb'.mono (by have := hB.size; simp; omega))) | (replace hB := ((hB.alloc hB.size _).alloc (by have := hB.size; simp; omega) _).trans (hb'.mono (by have := hB.size; simp; omega))); clear hb'))
      go_ret
      exact ⟨rfl, hB⟩
    · have c2 : 32 ≤ k := by omega
      have c3 : decide (k < 32) = false := by simp; omega
      go_enter Try.func4, Try.ntmps4
      go_wp2_with (first
      | (go_at_call 17; refine (awake6_any _).mono ?_; rintro e w' ⟨rfl, hb'⟩; first | (replace hB := hB.trans (hb'.mono hB.size)) | (replace hB := (hB.alloc hB.size _).trans (hb'.mono (by have := hB.size; simp; omega))) | (replace hB := ((hB.alloc hB.size _).alloc (by have := hB.size; simp; omega) _).trans (hb'.mono (by have := hB.size; simp; omega))); clear hb')
      | (go_at_call 20; refine (right_any _ _ (by omega) (by omega)).mono ?_; rintro e w' ⟨rfl, rfl⟩)
      | (go_at_call 21; refine (words_any _ _ (by omega) (by omega)).mono ?_; rintro e w' ⟨rfl, hb'⟩; first | (replace hB := hB.trans (hb'.mono hB.size)) | (replace hB := (hB.alloc hB.size _).trans (hb'.mono (by have := hB.size; simp; omega))) | (replace hB := ((hB.alloc hB.size _).alloc (by have := hB.size; simp; omega) _).trans (hb'.mono (by have := hB.size; simp; omega))); clear hb')
      | (go_at_call 19; refine (rWords_any _ _ (by omega) (by omega)).mono ?_; rintro e w' ⟨rfl, hb'⟩; first | (replace hB := hB.trans (hb'.mono hB.size)) | (replace hB := (hB.alloc hB.size _).trans (hb'.mono (by have := hB.size; simp; omega))) | (replace hB := ((hB.alloc hB.size _).alloc (by have := hB.size; simp; omega) _).trans (hb'.mono (by have := hB.size; simp; omega))); clear hb')
      | (go_at_call 22; refine (cells_any _ _ (by omega) (by omega)).mono ?_; rintro e w' ⟨rfl, hb'⟩; first | (replace hB := hB.trans (hb'.mono hB.size)) | (replace hB := (hB.alloc hB.size _).trans (hb'.mono (by have := hB.size; simp; omega))) | (replace hB := ((hB.alloc hB.size _).alloc (by have := hB.size; simp; omega) _).trans (hb'.mono (by have := hB.size; simp; omega))); clear hb')
      | (go_at_call 18; refine (rCells_any _ _ (by omega) (by omega)).mono ?_; rintro e w' ⟨rfl, hb'⟩; first | (replace hB := hB.trans (hb'.mono hB.size)) | (replace hB := (hB.alloc hB.size _).trans (hb'.mono (by have := hB.size; simp; omega))) | (replace hB := ((hB.alloc hB.size _).alloc (by have := hB.size; simp; omega) _).trans (hb'.mono (by have := hB.size; simp; omega))); clear hb')
      | (go_at_call 23; refine (waste_any _ _ (by omega) (by omega)).mono ?_; rintro e w' ⟨rfl, hb'⟩; first | (replace hB := hB.trans (hb'.mono hB.size)) | (replace hB := (hB.alloc hB.size _).trans (hb'.mono (by have := hB.size; simp; omega))) | (replace hB := ((hB.alloc hB.size _).alloc (by have := hB.size; simp; omega) _).trans (hb'.mono (by have := hB.size; simp; omega))); clear hb'))
      go_ret
      exact ⟨rfl, hB⟩
theorem walk_ClassFits (x : Int) (w : World) (w0 : (Lit.int .u16 x).wf = true) :
    Calls Try.prog 6 #[.int .u16 x] w fun e w' => e = .returned (.bool true) ∧ Below w.heap.size w w' := by
  have b0 := bounds_u16 w0
  clear w0
  obtain ⟨n, hn⟩ : ∃ n, 1 + x % 256 = n := ⟨_, rfl⟩
  have n1 : 1 ≤ n := by omega
  have n2 : n ≤ 256 := by omega
  have hl := Cl.ofK_least n n1 n2
  have hb := Cl.ofK_bd n
  have e1 := Cl.ofB_yes n n1 n2
  have l1 := hl.le
  have l2 : ∀ h : 0 < Cl.ofK n, Cl.words (Cl.ofK n - 1) < n := fun h => hl.lt _ (by omega) (by omega)
  obtain ⟨k, hk⟩ : ∃ k, Cl.ofK n = k := ⟨_, rfl⟩
  rw [hk] at hb l1 l2
  clear hl
  have hr := Cl.rightB_yes k hb.1 hb.2
  have hb1 := Cl.words_bd k
  have hb2 := Cl.cells_bd k
  have hm := Cl.cells_mul k hb.1 hb.2
  have e := Cl.waste_in k hb.1 hb.2
  have hB := Below.refl w.heap.size w
  by_cases c : k = 0
  · subst c
    clear l2
    go_enter Try.func6, Try.ntmps6
    go_wp2_with (first
      | (go_at_call 17; refine (awake6_any _).mono ?_; rintro e w' ⟨rfl, hb'⟩; first | (replace hB := hB.trans (hb'.mono hB.size)) | (replace hB := (hB.alloc hB.size _).trans (hb'.mono (by have := hB.size; simp; omega))) | (replace hB := ((hB.alloc hB.size _).alloc (by have := hB.size; simp; omega) _).trans (hb'.mono (by have := hB.size; simp; omega))); clear hb')
      | (go_at_call 24; refine (of_any _ _ (by omega) (by omega)).mono ?_; rintro e w' ⟨rfl, hb'⟩; first | (replace hB := hB.trans (hb'.mono hB.size)) | (replace hB := (hB.alloc hB.size _).trans (hb'.mono (by have := hB.size; simp; omega))) | (replace hB := ((hB.alloc hB.size _).alloc (by have := hB.size; simp; omega) _).trans (hb'.mono (by have := hB.size; simp; omega))); clear hb')
      | (go_at_call 20; refine (right_any _ _ (by omega) (by omega)).mono ?_; rintro e w' ⟨rfl, rfl⟩)
      | (go_at_call 21; refine (words_any _ _ (by omega) (by omega)).mono ?_; rintro e w' ⟨rfl, hb'⟩; first | (replace hB := hB.trans (hb'.mono hB.size)) | (replace hB := (hB.alloc hB.size _).trans (hb'.mono (by have := hB.size; simp; omega))) | (replace hB := ((hB.alloc hB.size _).alloc (by have := hB.size; simp; omega) _).trans (hb'.mono (by have := hB.size; simp; omega))); clear hb')
      | (go_at_call 22; refine (cells_any _ _ (by omega) (by omega)).mono ?_; rintro e w' ⟨rfl, hb'⟩; first | (replace hB := hB.trans (hb'.mono hB.size)) | (replace hB := (hB.alloc hB.size _).trans (hb'.mono (by have := hB.size; simp; omega))) | (replace hB := ((hB.alloc hB.size _).alloc (by have := hB.size; simp; omega) _).trans (hb'.mono (by have := hB.size; simp; omega))); clear hb')
      | (go_at_call 23; refine (waste_any _ _ (by omega) (by omega)).mono ?_; rintro e w' ⟨rfl, hb'⟩; first | (replace hB := hB.trans (hb'.mono hB.size)) | (replace hB := (hB.alloc hB.size _).trans (hb'.mono (by have := hB.size; simp; omega))) | (replace hB := ((hB.alloc hB.size _).alloc (by have := hB.size; simp; omega) _).trans (hb'.mono (by have := hB.size; simp; omega))); clear hb'))
    go_ret
    exact ⟨ret_bool (by first | rfl | (simp; done) | (simp; omega)), hB⟩
  · have l3 := l2 (by omega)
    have c0 : (k == 0) = false := by simpa using c
    clear l2
    go_enter Try.func6, Try.ntmps6
    go_wp2_with (first
      | (go_at_call 17; refine (awake6_any _).mono ?_; rintro e w' ⟨rfl, hb'⟩; first | (replace hB := hB.trans (hb'.mono hB.size)) | (replace hB := (hB.alloc hB.size _).trans (hb'.mono (by have := hB.size; simp; omega))) | (replace hB := ((hB.alloc hB.size _).alloc (by have := hB.size; simp; omega) _).trans (hb'.mono (by have := hB.size; simp; omega))); clear hb')
      | (go_at_call 24; refine (of_any _ _ (by omega) (by omega)).mono ?_; rintro e w' ⟨rfl, hb'⟩; first | (replace hB := hB.trans (hb'.mono hB.size)) | (replace hB := (hB.alloc hB.size _).trans (hb'.mono (by have := hB.size; simp; omega))) | (replace hB := ((hB.alloc hB.size _).alloc (by have := hB.size; simp; omega) _).trans (hb'.mono (by have := hB.size; simp; omega))); clear hb')
      | (go_at_call 20; refine (right_any _ _ (by omega) (by omega)).mono ?_; rintro e w' ⟨rfl, rfl⟩)
      | (go_at_call 21; refine (words_any _ _ (by omega) (by omega)).mono ?_; rintro e w' ⟨rfl, hb'⟩; first | (replace hB := hB.trans (hb'.mono hB.size)) | (replace hB := (hB.alloc hB.size _).trans (hb'.mono (by have := hB.size; simp; omega))) | (replace hB := ((hB.alloc hB.size _).alloc (by have := hB.size; simp; omega) _).trans (hb'.mono (by have := hB.size; simp; omega))); clear hb')
      | (go_at_call 22; refine (cells_any _ _ (by omega) (by omega)).mono ?_; rintro e w' ⟨rfl, hb'⟩; first | (replace hB := hB.trans (hb'.mono hB.size)) | (replace hB := (hB.alloc hB.size _).trans (hb'.mono (by have := hB.size; simp; omega))) | (replace hB := ((hB.alloc hB.size _).alloc (by have := hB.size; simp; omega) _).trans (hb'.mono (by have := hB.size; simp; omega))); clear hb')
      | (go_at_call 23; refine (waste_any _ _ (by omega) (by omega)).mono ?_; rintro e w' ⟨rfl, hb'⟩; first | (replace hB := hB.trans (hb'.mono hB.size)) | (replace hB := (hB.alloc hB.size _).trans (hb'.mono (by have := hB.size; simp; omega))) | (replace hB := ((hB.alloc hB.size _).alloc (by have := hB.size; simp; omega) _).trans (hb'.mono (by have := hB.size; simp; omega))); clear hb'))
    go_ret
    exact ⟨ret_bool (by first | rfl | (simp; done) | (simp; omega)), hB⟩
theorem walk_ClassOf (n p d : Int) (w : World) (w0 : (Lit.int .i64 n).wf = true) (w1 : (Lit.int .i64 p).wf = true) (w2 : (Lit.int .i64 d).wf = true) :
    Calls Try.prog 5 #[.int .i64 n, .int .i64 p, .int .i64 d] w fun e w' => e = .returned (.bool true) ∧ Below w.heap.size w w' := by
  have b0 := bounds_i64 w0
  have b1 := bounds_i64 w1
  have b2 := bounds_i64 w2
  clear w0 w1 w2
  have hB := Below.refl w.heap.size w
  have hn : (1 ≤ n ∧ n ≤ 256 ∧ Cl.ofB n = true ∧ Cl.ofR n = Cl.ofK n ∧ 0 ≤ Cl.ofK n) ∨ (Cl.ofB n = false ∧ Cl.ofR n = -1 ∧ Cl.ofK n = 0) := by
    by_cases c : 1 ≤ n ∧ n ≤ 256
    · exact .inl ⟨c.1, c.2, Cl.ofB_yes n c.1 c.2, Cl.ofR_in n c.1 c.2, (Cl.ofK_bd n).1⟩
    · exact .inr ⟨Cl.ofB_no n (by omega), Cl.ofR_out n (by omega), Cl.ofK_out n (by omega)⟩
  have hs : (0 ≤ p ∧ p ≤ 63 ∧ 0 ≤ d ∧ d ≤ 16384 ∧ Cl.size p d = 1 + p + d ∧ Cl.szCode p d = 0) ∨ ((p < 0 ∨ p > 63 ∨ d < 0 ∨ d > 16384) ∧ Cl.size p d = 0 ∧ Cl.szCode p d = 5) := by
    by_cases c : 0 ≤ p ∧ p ≤ 63 ∧ 0 ≤ d ∧ d ≤ 16384
    · exact .inl ⟨c.1, c.2.1, c.2.2.1, c.2.2.2, Cl.size_good p d c.1 c.2.1 c.2.2.1 c.2.2.2⟩
    · exact .inr ⟨by omega, Cl.size_bad p d (by omega)⟩
  rcases hn with ⟨c1, c2, e1, e2, e3⟩ | ⟨e1, e2, e3⟩ <;> rcases hs with ⟨d1, d2, d3, d4, d5, d6⟩ | ⟨d1, d2, d3⟩
  all_goals
    go_enter Try.func5, Try.ntmps5
    go_wp2_with (first
      | (go_at_call 17; refine (awake6_any _).mono ?_; rintro e w' ⟨rfl, hb'⟩; first | (replace hB := hB.trans (hb'.mono hB.size)) | (replace hB := (hB.alloc hB.size _).trans (hb'.mono (by have := hB.size; simp; omega))) | (replace hB := ((hB.alloc hB.size _).alloc (by have := hB.size; simp; omega) _).trans (hb'.mono (by have := hB.size; simp; omega))); clear hb')
      | (go_at_call 24; refine (of_any _ _ (by omega) (by omega)).mono ?_; rintro e w' ⟨rfl, hb'⟩; first | (replace hB := hB.trans (hb'.mono hB.size)) | (replace hB := (hB.alloc hB.size _).trans (hb'.mono (by have := hB.size; simp; omega))) | (replace hB := ((hB.alloc hB.size _).alloc (by have := hB.size; simp; omega) _).trans (hb'.mono (by have := hB.size; simp; omega))); clear hb')
      | (go_at_call 25; refine (rOf_any _ _ (by omega) (by omega)).mono ?_; rintro e w' ⟨rfl, hb'⟩; first | (replace hB := hB.trans (hb'.mono hB.size)) | (replace hB := (hB.alloc hB.size _).trans (hb'.mono (by have := hB.size; simp; omega))) | (replace hB := ((hB.alloc hB.size _).alloc (by have := hB.size; simp; omega) _).trans (hb'.mono (by have := hB.size; simp; omega))); clear hb')
      | (go_at_call 26; refine (size_any _ _ _ (by omega) (by omega) (by omega) (by omega)).mono ?_; rintro e w' ⟨rfl, rfl⟩))
    all_goals first
      | (exfalso; omega)
      | (go_ret
         exact ⟨rfl, hB⟩)
end Go.Proofs.Ythbkfgafdjcicaa
