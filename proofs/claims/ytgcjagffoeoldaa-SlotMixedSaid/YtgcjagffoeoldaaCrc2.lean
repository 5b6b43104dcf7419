/- What the functions of package crc on words, and those of its reference, compute; two statements of the package. -/
import Derived.Test.YtgcjagffoeoldaaCrc1
import Derived.Test.YtgcjagffoeoldaaBytes1
import Derived.Test.YtgcjagffoeoldaaPSeal
namespace Go.Proofs.Ytgcjagffoeoldaa
open Go.RowKit
set_option linter.unusedVariables false
set_option maxHeartbeats 400000
theorem crcWords_any (A : Option Addr) (len cap : Nat) (xs : List Int) (B : Nat) (w : World) (hr : RowAt w B A len (xs.map (Value.int .u64))) (hi : Ints .u64 xs) (hl : len ≤ 1099511627776) (hB : B ≤ w.heap.size) :
    Calls Try.prog 51 #[.slice A len cap] w fun e w' => e = .returned (.int .u32 (Cr.more 0 (By.bytes xs))) ∧ Below w.heap.size w w' := by
  go_enter Try.func51, Try.ntmps51
  go_wp2_with fail
  refine (bytes_any A len cap xs B _ hr hi hl hB).mono ?_
  rintro e w1 ⟨v, rfl, hown, hb⟩
  obtain ⟨A', c', rfl, hc1, hc2, _⟩ := own_shape hown
  go_wp2_with fail
  refine (sum_any A' (8 * len) c' (By.bytes xs) _ _ (RowAt.of_own hown) (fun z hz => wf_u8 (By.bytes_bd xs z hz)) (by omega)).mono ?_
  rintro e w' ⟨rfl, rfl⟩
  go_wp2_with fail
  go_ret
  exact ⟨rfl, hb⟩
theorem rCrcWords_any (A : Option Addr) (len cap : Nat) (xs : List Int) (B : Nat) (w : World) (hr : RowAt w B A len (xs.map (Value.int .u64))) (hi : Ints .u64 xs) (hl : len ≤ 1099511627776) (hB : B ≤ w.heap.size) :
    Calls Try.prog 53 #[.slice A len cap] w fun e w' => e = .returned (.int .u32 (Cr.more 0 (By.bytes xs))) ∧ Below w.heap.size w w' := by
  go_enter Try.func53, Try.ntmps53
  go_wp2_with fail
  refine (rBytes_any A len cap xs B _ hr hi hl hB).mono ?_
  rintro e w1 ⟨v, rfl, hown, hb⟩
  obtain ⟨A', c', rfl, hc1, hc2, _⟩ := own_shape hown
  go_wp2_with fail
  refine (rMore_any 0 A' (8 * len) c' (By.bytes xs) _ _ (by omega) (by omega) (RowAt.of_own hown) (fun z hz => wf_u8 (By.bytes_bd xs z hz)) (by omega)).mono ?_
  rintro e w' ⟨rfl, rfl⟩
  go_wp2_with fail
  go_ret
  exact ⟨rfl, hb⟩
theorem two_row (w : World) (T : TypeId) (x y : Int) : RowAt (w.alloc (.cells #[.int .u64 x, .int .u64 y] T)) (w.heap.size + 1) (some ⟨w.heap.size, 0, none⟩) 2 ([x, y].map (Value.int .u64)) := by
  have h := RowAt.of_block (heap_alloc_new w (.cells #[.int .u64 x, .int .u64 y] T)) (by simp) (m := 2) rfl
  simpa using h
end Go.Proofs.Ytgcjagffoeoldaa
