/- What Encode makes of a superblock: the code's and the reference's. -/
import Derived.Test.YtgcjagffoeoldaaCrc2
import Derived.Test.YtgcjagffoeoldaaBlk
import Derived.Test.YtgcjagffoeoldaaPSuper
namespace Go.Proofs.Ytgcjagffoeoldaa
open Go.RowKit
set_option linter.unusedVariables false
set_option linter.unusedSimpArgs false
set_option maxHeartbeats 2000000
set_option maxRecDepth 100000
theorem row_wf (b id : Int) (b1 : 0 ≤ b) (b2 : b ≤ 1073741824) (i1 : 0 ≤ id) (i2 : id ≤ 18446744073709551615) : Ints .u64 (Su.row b id) := by
  intro x hx
  unfold Su.row at hx
  simp at hx
  apply wf_u64
  rcases hx with rfl | rfl | rfl | rfl | rfl <;> omega
theorem isSome8 : (Try.prog.info? 23).isSome = true := by kernel_rfl
theorem rsEnc_any (b id : Int) (w : World) (b1 : 0 ≤ b) (b2 : b ≤ 1073741824) (i1 : 0 ≤ id) (i2 : id ≤ 18446744073709551615) :
    Calls Try.prog 17 #[.int .i64 b, .int .u64 id] w fun e w' => e = .returned (.agg #[.int .u64 8390047168116913201, .int .u64 1, .int .u64 b, .int .u64 id, .int .u64 0, .int .u64 0, .int .u64 0, .int .u64 (Su.crc b id)]) ∧ Below w.heap.size w w' := by
  have hwf := Lib.hid (row_wf b id b1 b2 i1 i2)
  have hcb := Su.crc_bd b id
  have hone : ∀ v ∈ (#[.int .u64 8390047168116913201, .int .u64 1, .int .u64 b, .int .u64 id, .int .u64 0, .int .u64 0, .int .u64 0, .int .u64 (Su.crc b id)] : Array Value).toList, v.oneCell' = true := by simp [Value.oneCell']
  have HONE := Lib.hid hone
  clear hone
  obtain ⟨i8, hi8⟩ := Option.isSome_iff_exists.1 isSome8
  have HI8 := Lib.hid hi8
  clear hi8
  have R := Lib.hid ((Blk.new w #[.int .u64 0, .int .u64 0, .int .u64 0, .int .u64 0, .int .u64 0, .int .u64 0, .int .u64 0, .int .u64 0] 23).alloc (.cells #[.int .u64 8390047168116913201, .int .u64 1, .int .u64 b, .int .u64 id, .int .u64 0, .int .u64 0, .int .u64 0, .int .u64 0] 23))
  have L := Lib.hid (Blk.new1 w (.cells #[.int .u64 0, .int .u64 0, .int .u64 0, .int .u64 0, .int .u64 0, .int .u64 0, .int .u64 0, .int .u64 0] 23) #[.int .u64 8390047168116913201, .int .u64 1, .int .u64 b, .int .u64 id, .int .u64 0, .int .u64 0, .int .u64 0, .int .u64 0] 23)
  have hB : Below w.heap.size w ((w.alloc (.cells #[.int .u64 0, .int .u64 0, .int .u64 0, .int .u64 0, .int .u64 0, .int .u64 0, .int .u64 0, .int .u64 0] 23)).alloc (.cells #[.int .u64 8390047168116913201, .int .u64 1, .int .u64 b, .int .u64 id, .int .u64 0, .int .u64 0, .int .u64 0, .int .u64 0] 23)) := ((Below.refl _ _).alloc (Nat.le_refl _) _).alloc (by simp) _
  go_enter Try.func17, Try.ntmps17
  go_wp2_with fail
  refine (rCrcWords_any _ 7 8 (Su.row b id) _ _ (RowAt.of_blk L.out 7 (by simp)) hwf.out (by omega) (Nat.le_refl _)).mono ?_
  rintro e w3 ⟨rfl, hb3⟩
  rw [show Cr.more 0 (By.bytes (Su.row b id)) = Su.crc b id from rfl]
  have L3 := L.out.below hb3 L.out.lt
  have R3 := R.out.below hb3 R.out.lt
  have hB3 := hB.trans (hb3.mono hB.size)
  have hc7 := L3.cell 7 _ rfl
  have hf7 := L3.frozen 7
  have L4 := Lib.hid (L3.set 7 (.int .u64 (Su.crc b id)))
  have R4 := Lib.hid (R3.other ⟨w.heap.size + 1, 7, none⟩ (.int .u64 (Su.crc b id)) (by simp))
  have hB4 := Lib.hid (hB3.setCell (p := ⟨w.heap.size + 1, 7, none⟩) (by first | (simp; done) | (simp; omega)) (.int .u64 (Su.crc b id)))
  go_wp2_with (first
    | (refine wpList_load_row (P := Try.prog) rfl 23 (.tmp 5) rfl (w.heap.size + 1) rfl _ #[.int .u64 8390047168116913201, .int .u64 1, .int .u64 b, .int .u64 id, .int .u64 0, .int .u64 0, .int .u64 0, .int .u64 (Su.crc b id)] (0, 0) _ L4.out Try.underlying23 rfl (by kernel_rfl) ?_)
    | (refine wpList_store_row (P := Try.prog) rfl 23 (.tmp 4) (.tmp 14) rfl (w.heap.size) _ #[.int .u64 8390047168116913201, .int .u64 1, .int .u64 b, .int .u64 id, .int .u64 0, .int .u64 0, .int .u64 0, .int .u64 (Su.crc b id)] _ rfl rfl R4.out rfl HI8.out (by kernel_rfl) HONE.out ?_))
  exact bodyPost_ret (v := .agg #[.int .u64 8390047168116913201, .int .u64 1, .int .u64 b, .int .u64 id, .int .u64 0, .int .u64 0, .int .u64 0, .int .u64 (Su.crc b id)]) (results_cell_row rfl _ _ (w.heap.size) _ #[.int .u64 8390047168116913201, .int .u64 1, .int .u64 b, .int .u64 id, .int .u64 0, .int .u64 0, .int .u64 0, .int .u64 (Su.crc b id)] (0, 0) _ rfl (setRow_heap _ _ _ _ _ _ R4.out) Try.underlying23 rfl (by kernel_rfl)) rfl ⟨rfl, below_setRow hB4.out (by first | omega | (simp; done) | (simp; omega)) _⟩
theorem sEnc_any (b id : Int) (w : World) (b1 : 0 ≤ b) (b2 : b ≤ 1073741824) (i1 : 0 ≤ id) (i2 : id ≤ 18446744073709551615) :
    Calls Try.prog 16 #[.agg #[.int .i64 b, .int .u64 id]] w fun e w' => e = .returned (.agg #[.int .u64 8390047168116913201, .int .u64 1, .int .u64 b, .int .u64 id, .int .u64 0, .int .u64 0, .int .u64 0, .int .u64 (Su.crc b id)]) ∧ Below w.heap.size w w' := by
  have hwf := Lib.hid (row_wf b id b1 b2 i1 i2)
  have hcb := Su.crc_bd b id
  have hone : ∀ v ∈ (#[.int .u64 8390047168116913201, .int .u64 1, .int .u64 b, .int .u64 id, .int .u64 0, .int .u64 0, .int .u64 0, .int .u64 (Su.crc b id)] : Array Value).toList, v.oneCell' = true := by simp [Value.oneCell']
  have HONE := Lib.hid hone
  clear hone
  obtain ⟨i8, hi8⟩ := Option.isSome_iff_exists.1 isSome8
  have HI8 := Lib.hid hi8
  clear hi8
  have R := Lib.hid ((Blk.new1 w (.cells #[.int .i64 b, .int .u64 id] 27) #[.int .u64 0, .int .u64 0, .int .u64 0, .int .u64 0, .int .u64 0, .int .u64 0, .int .u64 0, .int .u64 0] 23).alloc (.cells #[.int .u64 8390047168116913201, .int .u64 1, .int .u64 b, .int .u64 id, .int .u64 0, .int .u64 0, .int .u64 0, .int .u64 0] 23))
  have L := Lib.hid (Blk.new2 w (.cells #[.int .i64 b, .int .u64 id] 27) (.cells #[.int .u64 0, .int .u64 0, .int .u64 0, .int .u64 0, .int .u64 0, .int .u64 0, .int .u64 0, .int .u64 0] 23) #[.int .u64 8390047168116913201, .int .u64 1, .int .u64 b, .int .u64 id, .int .u64 0, .int .u64 0, .int .u64 0, .int .u64 0] 23)
  have hB : Below w.heap.size w (((w.alloc (.cells #[.int .i64 b, .int .u64 id] 27)).alloc (.cells #[.int .u64 0, .int .u64 0, .int .u64 0, .int .u64 0, .int .u64 0, .int .u64 0, .int .u64 0, .int .u64 0] 23)).alloc (.cells #[.int .u64 8390047168116913201, .int .u64 1, .int .u64 b, .int .u64 id, .int .u64 0, .int .u64 0, .int .u64 0, .int .u64 0] 23)) := (((Below.refl _ _).alloc (Nat.le_refl _) _).alloc (by simp) _).alloc (by simp; omega) _
  go_enter Try.func16, Try.ntmps16
  go_wp2_with fail
  refine (crcWords_any _ 7 8 (Su.row b id) _ _ (RowAt.of_blk L.out 7 (by simp)) hwf.out (by omega) (Nat.le_refl _)).mono ?_
  rintro e w3 ⟨rfl, hb3⟩
  rw [show Cr.more 0 (By.bytes (Su.row b id)) = Su.crc b id from rfl]
  have L3 := L.out.below hb3 L.out.lt
  have R3 := R.out.below hb3 R.out.lt
  have hB3 := hB.trans (hb3.mono hB.size)
  have hc7 := L3.cell 7 _ rfl
  have hf7 := L3.frozen 7
  have L4 := Lib.hid (L3.set 7 (.int .u64 (Su.crc b id)))
  have R4 := Lib.hid (R3.other ⟨w.heap.size + 1 + 1, 7, none⟩ (.int .u64 (Su.crc b id)) (by simp))
  have hB4 := Lib.hid (hB3.setCell (p := ⟨w.heap.size + 1 + 1, 7, none⟩) (by first | (simp; done) | (simp; omega)) (.int .u64 (Su.crc b id)))
  go_wp2_with (first
    | (refine wpList_load_row (P := Try.prog) rfl 23 (.tmp 3) rfl (w.heap.size + 1 + 1) rfl _ #[.int .u64 8390047168116913201, .int .u64 1, .int .u64 b, .int .u64 id, .int .u64 0, .int .u64 0, .int .u64 0, .int .u64 (Su.crc b id)] (0, 0) _ L4.out Try.underlying23 rfl (by kernel_rfl) ?_)
    | (refine wpList_store_row (P := Try.prog) rfl 23 (.tmp 2) (.tmp 14) rfl (w.heap.size + 1) _ #[.int .u64 8390047168116913201, .int .u64 1, .int .u64 b, .int .u64 id, .int .u64 0, .int .u64 0, .int .u64 0, .int .u64 (Su.crc b id)] _ rfl rfl R4.out rfl HI8.out (by kernel_rfl) HONE.out ?_))
  exact bodyPost_ret (v := .agg #[.int .u64 8390047168116913201, .int .u64 1, .int .u64 b, .int .u64 id, .int .u64 0, .int .u64 0, .int .u64 0, .int .u64 (Su.crc b id)]) (results_cell_row rfl _ _ (w.heap.size + 1) _ #[.int .u64 8390047168116913201, .int .u64 1, .int .u64 b, .int .u64 id, .int .u64 0, .int .u64 0, .int .u64 0, .int .u64 (Su.crc b id)] (0, 0) _ rfl (setRow_heap _ _ _ _ _ _ R4.out) Try.underlying23 rfl (by kernel_rfl)) rfl ⟨rfl, below_setRow hB4.out (by first | omega | (simp; done) | (simp; omega)) _⟩
end Go.Proofs.Ytgcjagffoeoldaa
