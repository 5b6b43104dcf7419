/- What the functions of package class, and those of its reference, compute: one contract each. -/
import Derived.Test.YtchobkabndnhoaaMem
import Derived.Test.YtchobkabndnhoaaPClass
namespace Go.Proofs.Ytchobkabndnhoaa
open Go.RowKit
set_option linter.unusedVariables false
set_option maxHeartbeats 400000
set_option maxRecDepth 100000
theorem SZ_one : ∀ v ∈ (Cl.szs.map (Value.int .i64)).toArray.toList, v.oneCell' = true := by
  intro v hv
  obtain ⟨z, _, rfl⟩ := List.mem_map.1 (by simpa using hv)
  rfl
theorem isSome32 : (Try.prog.info? 69).isSome = true := by kernel_rfl
theorem sizes_any (w : World) : Calls Try.prog 44 #[] w fun e w' => e = .returned Cl.SZ ∧ Below w.heap.size w w' := by
  obtain ⟨i32, info32⟩ := Option.isSome_iff_exists.1 isSome32
  go_enter Try.func44, Try.ntmps44
  go_wp2_with (refine wpList_store_row (P := Try.prog) rfl 69 (.tmp 0) (.tmp 1) rfl w.heap.size _ (Cl.szs.map (Value.int .i64)).toArray 69 rfl rfl (heap_alloc_new w _) rfl info32 (by kernel_rfl) SZ_one ?_)
  exact bodyPost_ret (v := Cl.SZ) (results_cell_row rfl _ _ w.heap.size 69 (Cl.szs.map (Value.int .i64)).toArray (0, 0) _ rfl (setRow_heap _ _ _ _ _ _ (heap_alloc_new w _)) Try.underlying69 rfl (by kernel_rfl)) rfl ⟨rfl, below_setRow ((Below.refl _ _).alloc (Nat.le_refl _) _) (Nat.le_refl _) _⟩
/-- a row of the sizes lies at block g -/
def SzAt (w : World) (g : Nat) : Prop := ∀ k : Int, 0 ≤ k → k < 32 → w.cell? ⟨g, k.toNat, none⟩ = some (.int .i64 (Cl.words k))
theorem SzAt_new (w : World) : SzAt (w.alloc (.cells (Cl.szs.map (Value.int .i64)).toArray 3)) w.heap.size := fun k h h2 => by
  rw [Joins.cell_of_block (heap_alloc_new w _)]; exact Cl.SZ_at k h h2
theorem rSizes_any (w : World) : Calls Try.prog 48 #[] w fun e w' => e = .returned (.slice (some ⟨w.heap.size, 0, none⟩) 32 32) ∧ Below w.heap.size w w' ∧ SzAt w' w.heap.size := by
  go_enter Try.func48, Try.ntmps48
  go_wp2_with fail
  go_ret
  exact ⟨rfl, (Below.refl _ _).alloc (Nat.le_refl _) _, SzAt_new w⟩
theorem right_any (k : Int) (w : World) (h1 : -9223372036854775808 ≤ k) (h2 : k ≤ 9223372036854775807) : Calls Try.prog 43 #[.int .i64 k] w fun e w' => e = .returned (.bool (Cl.rightB k)) ∧ w = w' := by
  by_cases c1 : k < 0
  · have e := Lib.hid (Cl.rightB_no k (.inl c1))
    go_enter Try.func43, Try.ntmps43
    go_wp2
    go_ret
    exact ⟨ret_bool e.out.symm, rfl⟩
  · by_cases c2 : k < 32
    · have e := Lib.hid (Cl.rightB_yes k (by omega) c2)
      go_enter Try.func43, Try.ntmps43
      go_wp2
      go_ret
      exact ⟨ret_bool (by rw [e.out]), rfl⟩
    · have e := Lib.hid (Cl.rightB_no k (.inr (by omega)))
      go_enter Try.func43, Try.ntmps43
      go_wp2
      go_ret
      exact ⟨ret_bool (by rw [e.out]), rfl⟩
theorem words_any (k : Int) (w : World) (h1 : -9223372036854775808 ≤ k) (h2 : k ≤ 9223372036854775807) : Calls Try.prog 21 #[.int .i64 k] w fun e w' => e = .returned (.int .i64 (Cl.words k)) ∧ Below w.heap.size w w' := by
  by_cases c : 0 ≤ k ∧ k < 32
  · obtain ⟨c1, c2⟩ := c
    have hr := Cl.rightB_yes k c1 c2
    obtain ⟨i0, hi0, _, _, _⟩ := info_parts info_int
    have hx : ∀ W, (Instr.index 69 Cl.SZ (.int .i64 k)).run Try.prog W = .ok (.int .i64 (Cl.words k)) W := fun W =>
      run_index_ints W Try.underlying69 Try.underlying3 (by kernel_rfl) hi0 _ _ _ _ c1 c2 (Cl.SZ_at k c1 c2)
    clear hi0
    go_enter Try.func21, Try.ntmps21
    go_wp2_with (first
      | (go_at_call 44; refine (sizes_any _).mono ?_; rintro e w1 ⟨rfl, hb⟩)
      | (go_at_call 43; refine (right_any _ _ (by omega) (by omega)).mono ?_; rintro e w' ⟨rfl, rfl⟩))
    go_ret
    exact ⟨rfl, hb⟩
  · have e := Lib.hid (Cl.words_out k (by omega))
    have hr := Cl.rightB_no k (by omega)
    go_enter Try.func21, Try.ntmps21
    go_wp2_with (first
      | (go_at_call 43; refine (right_any _ _ (by omega) (by omega)).mono ?_; rintro e w' ⟨rfl, rfl⟩))
    go_ret
    exact ⟨ret_int e.out.symm, Below.refl _ _⟩
theorem rWords_any (k : Int) (w : World) (h1 : -9223372036854775808 ≤ k) (h2 : k ≤ 9223372036854775807) : Calls Try.prog 27 #[.int .i64 k] w fun e w' => e = .returned (.int .i64 (Cl.words k)) ∧ Below w.heap.size w w' := by
  by_cases c : 0 ≤ k ∧ k < 32
  · obtain ⟨c1, c2⟩ := c
    go_enter Try.func27, Try.ntmps27
    go_wp2_with (first
      | (go_at_call 48; refine (rSizes_any _).mono ?_; rintro e w1 ⟨rfl, hb, hsz⟩; have hcw := hsz k c1 c2))
    go_ret
    exact ⟨rfl, hb⟩
  · have e := Lib.hid (Cl.words_out k (by omega))
    by_cases c1 : k < 0
    · go_enter Try.func27, Try.ntmps27
      go_wp2
      go_ret
      exact ⟨ret_int e.out.symm, Below.refl _ _⟩
    · have c2 : 32 ≤ k := by omega
      go_enter Try.func27, Try.ntmps27
      go_wp2
      go_ret
      exact ⟨ret_int e.out.symm, Below.refl _ _⟩
theorem cells_any (k : Int) (w : World) (h1 : -9223372036854775808 ≤ k) (h2 : k ≤ 9223372036854775807) : Calls Try.prog 22 #[.int .i64 k] w fun e w' => e = .returned (.int .i64 (Cl.cells k)) ∧ Below w.heap.size w w' := by
  by_cases c : 0 ≤ k ∧ k < 32
  · obtain ⟨c1, c2⟩ := c
    have hr := Cl.rightB_yes k c1 c2
    have hp := Cl.words_pos k c1 c2
    have hbd := Cl.words_bd k
    have e := Lib.hid (Cl.cells_in k c1 c2)
    go_enter Try.func22, Try.ntmps22
    go_wp2_with (first
      | (go_at_call 21; refine (words_any _ _ (by omega) (by omega)).mono ?_; rintro e w1 ⟨rfl, hb⟩)
      | (go_at_call 43; refine (right_any _ _ (by omega) (by omega)).mono ?_; rintro e w' ⟨rfl, rfl⟩))
    go_ret
    exact ⟨ret_int e.out.symm, hb⟩
  · have e := Lib.hid (Cl.cells_out k (by omega))
    have hr := Cl.rightB_no k (by omega)
    go_enter Try.func22, Try.ntmps22
    go_wp2_with (first
      | (go_at_call 43; refine (right_any _ _ (by omega) (by omega)).mono ?_; rintro e w' ⟨rfl, rfl⟩))
    go_ret
    exact ⟨ret_int e.out.symm, Below.refl _ _⟩
end Go.Proofs.Ytchobkabndnhoaa
