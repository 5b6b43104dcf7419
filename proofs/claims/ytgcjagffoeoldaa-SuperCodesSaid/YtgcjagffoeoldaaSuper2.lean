/- What Decode makes of a line: the code's. -/
import Derived.Test.YtgcjagffoeoldaaSuper1
import Derived.Deep.RegionHeld3
namespace Go.Proofs.Ytgcjagffoeoldaa
open Go.RowKit
set_option linter.unusedVariables false
set_option linter.unusedSimpArgs false
set_option maxHeartbeats 4000000
set_option maxRecDepth 100000
theorem gRight_any (b : Int) (w : World) (b1 : -9223372036854775808 ≤ b) (b2 : b ≤ 9223372036854775807) :
    Calls Try.prog 52 #[.agg #[.int .i64 b]] w fun e w' => e = .returned (.bool (Su.rightB b)) ∧ Below w.heap.size w w' := by
  rcases (show b < 2 ∨ 256 < b ∨ (2 ≤ b ∧ b ≤ 256) from by omega) with h | h | ⟨h, h2⟩
  · have e := Lib.hid (Su.rightB_no b (.inl h))
    go_enter Try.func52, Try.ntmps52
    go_wp2
    go_ret
    exact ⟨by first | exact ret_bool e.out.symm | (apply ret_bool; rw [e.out]; simp; done) | (apply ret_bool; rw [e.out]; simp; omega), (Below.refl _ _).alloc (Nat.le_refl _) _⟩
  · have e := Lib.hid (Su.rightB_no b (.inr h))
    go_enter Try.func52, Try.ntmps52
    go_wp2
    go_ret
    exact ⟨by first | exact ret_bool e.out.symm | (apply ret_bool; rw [e.out]; simp; done) | (apply ret_bool; rw [e.out]; simp; omega), (Below.refl _ _).alloc (Nat.le_refl _) _⟩
  · have e := Lib.hid (Su.rightB_yes b h h2)
    go_enter Try.func52, Try.ntmps52
    go_wp2
    go_ret
    exact ⟨by first | exact ret_bool e.out.symm | (apply ret_bool; rw [e.out]; simp; done) | (apply ret_bool; rw [e.out]; simp; omega), (Below.refl _ _).alloc (Nat.le_refl _) _⟩
theorem row7_wf (l0 l1 l2 l3 l4 l5 l6 : Int) (h0 : 0 ≤ l0 ∧ l0 ≤ 18446744073709551615) (h1 : 0 ≤ l1 ∧ l1 ≤ 18446744073709551615) (h2 : 0 ≤ l2 ∧ l2 ≤ 18446744073709551615) (h3 : 0 ≤ l3 ∧ l3 ≤ 18446744073709551615) (h4 : 0 ≤ l4 ∧ l4 ≤ 18446744073709551615) (h5 : 0 ≤ l5 ∧ l5 ≤ 18446744073709551615) (h6 : 0 ≤ l6 ∧ l6 ≤ 18446744073709551615) : Ints .u64 [l0, l1, l2, l3, l4, l5, l6] := by
  intro x hx
  simp at hx
  apply wf_u64
  rcases hx with rfl | rfl | rfl | rfl | rfl | rfl | rfl <;> assumption
theorem sDec_magic (l0 l1 l2 l3 l4 l5 l6 l7 : Int) (w : World) (h : l0 ≠ 8390047168116913201) :
    Calls Try.prog 14 #[.agg #[.int .u64 l0, .int .u64 l1, .int .u64 l2, .int .u64 l3, .int .u64 l4, .int .u64 l5, .int .u64 l6, .int .u64 l7]] w fun e w' => e = .returned (.tuple #[.agg #[.int .i64 0, .int .u64 0], .int .i64 24]) ∧ Below w.heap.size w w' := by
  have d0 : (l0 != 8390047168116913201) = true := by rw [bne_iff_ne]; exact h
  clear h
  go_enter Try.func14, Try.ntmps14
  go_wp2_with fail
  exact bodyPost_ret (v := .tuple #[.agg #[.int .i64 0, .int .u64 0], .int .i64 24]) (by simp [results, go_sem, Try.results14]) rfl ⟨rfl, by first | exact ((Below.refl _ _).alloc (Nat.le_refl _) _).alloc (by simp) _ | exact ((((Below.refl _ _).alloc (Nat.le_refl _) _).alloc (by simp) _).setCell (by simp) _).setCell (by simp) _⟩
theorem sDec_sum (l1 l2 l3 l4 l5 l6 l7 : Int) (w : World) (h1 : 0 ≤ l1 ∧ l1 ≤ 18446744073709551615) (h2 : 0 ≤ l2 ∧ l2 ≤ 18446744073709551615) (h3 : 0 ≤ l3 ∧ l3 ≤ 18446744073709551615) (h4 : 0 ≤ l4 ∧ l4 ≤ 18446744073709551615) (h5 : 0 ≤ l5 ∧ l5 ≤ 18446744073709551615) (h6 : 0 ≤ l6 ∧ l6 ≤ 18446744073709551615) (h : l7 ≠ Su.sum7 l1 l2 l3 l4 l5 l6) :
    Calls Try.prog 14 #[.agg #[.int .u64 8390047168116913201, .int .u64 l1, .int .u64 l2, .int .u64 l3, .int .u64 l4, .int .u64 l5, .int .u64 l6, .int .u64 l7]] w fun e w' => e = .returned (.tuple #[.agg #[.int .i64 0, .int .u64 0], .int .i64 25]) ∧ Below w.heap.size w w' := by
  have d0 : (l7 != Su.sum7 l1 l2 l3 l4 l5 l6) = true := by rw [bne_iff_ne]; exact h
  have hwf := Lib.hid (row7_wf 8390047168116913201 l1 l2 l3 l4 l5 l6 (by omega) h1 h2 h3 h4 h5 h6)
  have hsb := Su.sum7_bd l1 l2 l3 l4 l5 l6
  have hsw : IntKind.u64.wrap (Su.sum7 l1 l2 l3 l4 l5 l6) = Su.sum7 l1 l2 l3 l4 l5 l6 := by rw [IntKind.wrap_u64]; omega
  clear h
  have X := Lib.hid ((Blk.new w #[.int .u64 8390047168116913201, .int .u64 l1, .int .u64 l2, .int .u64 l3, .int .u64 l4, .int .u64 l5, .int .u64 l6, .int .u64 l7] 23).alloc (.cells #[.int .i64 0, .int .u64 0] 27))
  have R := Lib.hid (Blk.new1 w (.cells #[.int .u64 8390047168116913201, .int .u64 l1, .int .u64 l2, .int .u64 l3, .int .u64 l4, .int .u64 l5, .int .u64 l6, .int .u64 l7] 23) #[.int .i64 0, .int .u64 0] 27)
  have hB : Below w.heap.size w ((w.alloc (.cells #[.int .u64 8390047168116913201, .int .u64 l1, .int .u64 l2, .int .u64 l3, .int .u64 l4, .int .u64 l5, .int .u64 l6, .int .u64 l7] 23)).alloc (.cells #[.int .i64 0, .int .u64 0] 27)) := ((Below.refl _ _).alloc (Nat.le_refl _) _).alloc (by simp) _
  generalize hZ : ((w.alloc (.cells #[.int .u64 8390047168116913201, .int .u64 l1, .int .u64 l2, .int .u64 l3, .int .u64 l4, .int .u64 l5, .int .u64 l6, .int .u64 l7] 23)).alloc (.cells #[.int .i64 0, .int .u64 0] 27)) = Z at *
  have x0 := X.out.cell 0 _ rfl
  have x7 := X.out.cell 7 _ rfl
  go_enter Try.func14, Try.ntmps14
  go_wp2_with fail
  go_region_held3 (fun W => W.cell? ⟨w.heap.size, 7, none⟩ = some (.int .u64 l7) ∧ Below Z.heap.size Z W)
    (first | assumption | exact ⟨x7, (Below.refl _ _).drew⟩)
    (first
      | (go_at_call 51; refine (crcWords_any _ 7 8 [8390047168116913201, l1, l2, l3, l4, l5, l6] _ _ ((RowAt.of_blk X.out 7 (by simp)).below (by assumption : _ ∧ Below _ _ _).2) hwf.out (by omega) (by assumption : _ ∧ Below _ _ _).2.size).mono ?_; rintro e w5 ⟨rfl, hb5⟩; rw [show Cr.more 0 (By.bytes [8390047168116913201, l1, l2, l3, l4, l5, l6]) = Su.sum7 l1 l2 l3 l4 l5 l6 from rfl]; have hS := (by assumption : _ ∧ Below _ _ _); have hS' := And.intro ((hb5.cell (cell_lt hS.1)).trans hS.1) (hS.2.trans (hb5.mono hS.2.size))))
  have hS' := (by assumption : _ ∧ Below _ _ _)
  have R5 := R.out.below hS'.2 R.out.lt
  have r0 := R5.cell 0 _ rfl
  have r1 := R5.cell 1 _ rfl
  have f0 := R5.frozen 0
  have f1 := R5.frozen 1
  have hB5 := hB.trans (hS'.2.mono hB.size)
  go_wp2_with fail
  exact bodyPost_ret (v := .tuple #[.agg #[.int .i64 0, .int .u64 0], .int .i64 25]) (by simp [results, go_sem, Try.results14, r0, r1]) rfl ⟨rfl, (hB5.setCell (by simp) _).setCell (by simp) _⟩
end Go.Proofs.Ytgcjagffoeoldaa
