/- The words of bytes: what the code and the reference make. -/
import Derived.Test.YtchobkabndnhoaaBits3
import Derived.Test.YtchobkabndnhoaaOwn
import Derived.Test.YtchobkabndnhoaaExp2
import Derived.Test.YtchobkabndnhoaaPBytes
namespace Go.Proofs.Ytchobkabndnhoaa
open Go.RowKit
set_option linter.unusedVariables false
set_option maxHeartbeats 1000000
set_option maxRecDepth 100000
theorem up8 (n : Nat) : Bt.up (n : Int) 8 = (((n + 7) / 8 : Nat) : Int) := by
  by_cases h : n = 0
  · subst h; rfl
  · unfold Bt.up; rw [if_neg (by omega)]; omega
theorem isBytes_of {xs : List Int} (h : Ints .u8 xs) : By.IsBytes xs := fun b hb => bounds_u8 (h b hb)
theorem words_any8 (A : Option Addr) (n cap : Nat) (xs : List Int) (B : Nat) (w : World) (hr : RowAt w B A n (xs.map (Value.int .u8))) (hi : Ints .u8 xs) (hl : n ≤ 1000000) (hB : B ≤ w.heap.size) :
    Calls Try.prog 15 #[.slice A n cap] w (OwnInts .u64 65 (By.words xs) w) := by
  obtain ⟨i0, hi0, hz0, hz1, hz2⟩ := info_parts info_u64
  have hlen : xs.length = n := by simpa using hr.1
  have HL := Lib.hid hlen
  have HR := Lib.hid hr
  have HI := Lib.hid hi
  have U := Lib.hid (up8 n)
  have hN : (n + 7) / 8 ≤ 200000 := by omega
  have hN8 : n ≤ 8 * ((n + 7) / 8) := by omega
  generalize hNe : (n + 7) / 8 = N at *
  have hNe := Lib.hid hNe
  clear hlen hr hi
  go_enter Try.func15, Try.ntmps15
  go_wp2_with fail
  refine (up_any _ _ _ (by omega) (by omega) (by omega) (by omega)).mono ?_
  rintro e w' ⟨rfl, rfl⟩
  rw [U.out]
  go_wp2_with (first | (at_make; refine wpList_make_full (P := Try.prog) _ rfl _ _ 22 rfl w.heap.size 65 i0 (.int .u64 0) 1 Try.underlying22 hi0 hz0 hz1 .i64 .i64 _ _ N rfl rfl rfl rfl (by rw [hz2]; omega) (by unfold maxLen; omega) (Nat.le_refl _) ?_; intro w1 hown0 hg0))
  have hb0 : Below w.heap.size w w1 := (Below.refl _ _).grown hg0 (Nat.le_refl _) (by intro k hk; cases hk)
  rw [mc_ints .u64 N, List.nil_append, Nat.sub_zero, ← By.fill_zero xs N] at hown0
  clear hg0
  go_loopw [12] (fun t wr => ∃ j : Nat, j ≤ n ∧ t = .int .i64 j ∧ wr.ownsRow w.heap.size 65 1 (.slice (some ⟨w.heap.size, 0, none⟩) N N) N ((By.fill xs N j).map (Value.int .u64)) ∧ Below w.heap.size w wr) (fun t _ => n - (intOf t).toNat)
  case atStart => exact ⟨0, by omega, rfl, hown0, hb0⟩
  case round =>
    clear hown0 hb0
    obtain ⟨j, hj, rfl, hown, hbe⟩ := hrel
    by_cases hlt : j < n
    · obtain ⟨b, off, d, rfl, hbl, hd, hwd, hc0⟩ := HR.out.int HI.out hlt
      have hcell := (hbe.cell (p := ⟨b, off + j, none⟩) (by simp; omega)).trans hc0
      have db := bounds_u8 hwd
      have hq : j / 8 < N := by omega
      have hc := hown.cellAt (j / 8) (by omega)
      have hf := hown.frozenAt (j / 8)
      rw [List.getElem?_map, By.fill_at xs N j hq] at hc
      have hc : wr.cell? ⟨w.heap.size, j / 8, none⟩ = some (.int .u64 (By.low xs (8 * (j / 8)) (j % 8))) := hc
      have hst := By.low_bd xs (isBytes_of HI.out) (8 * (j / 8)) (j % 8)
      have hor := Lib.hid (By.or_step (By.low xs (8 * (j / 8)) (j % 8)) d (j % 8) (by omega) hst.1 hst.2 db.1 db.2)
      have hset := (hown.stored (j / 8) (.int .u64 (By.low xs (8 * (j / 8)) (j % 8) + d * 256 ^ (j % 8)))).1
      rw [← List.map_set, ← By.fill_step xs N j d hd hq] at hset
      have hgr := Lib.hid (fun u => hbe.grown (hown.stored (j / 8) u).2 hbe.size (by intro q hq; cases hq; exact Nat.le_refl _))
      have hset := Lib.hid hset
      clear hc0 hst hd hwd hown
      go_wp2_with fail
      go_roundw
      case rel => exact ⟨j + 1, by omega, by go_num, by rw [hor.out]; exact hset.out, hgr.out _⟩
      case measure => simp [intOf] <;> omega
    · go_wp2_with fail
      go_ret
      obtain rfl : j = n := by omega
      have hw : By.fill xs N j = By.words xs := by
        rw [← hNe.out, ← HL.out]; exact By.fill_all xs _ (Nat.le_refl _)
      exact OwnInts.mk _ rfl N (by rw [By.words_len, HL.out]; exact hNe.out) (by rw [← hw]; exact hown) hbe
end Go.Proofs.Ytchobkabndnhoaa
