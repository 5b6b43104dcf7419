/- What Gray makes. -/
import Derived.Test.YtchobkabndnhoaaExp2
import Derived.Test.YtchobkabndnhoaaPExp2
namespace Go.Proofs.Ytchobkabndnhoaa
open Go.RowKit
set_option linter.unusedVariables false
set_option maxHeartbeats 1000000
set_option maxRecDepth 100000
theorem xGray_any (n k : Nat) (w : World) (h : n ≤ 60) (hk : k ≤ 65536) :
    Calls Try.prog 33 #[.int .i64 n, .int .i64 k] w (OwnInts .u8 5 (Xp.gray k n) w) := by
  obtain ⟨i0, hi0, hz0, hz1, hz2⟩ := info_parts info_u8
  go_enter Try.func33, Try.ntmps33
  go_wp2_with (first | (at_make; refine wpList_make_full (P := Try.prog) _ rfl _ _ 23 rfl w.heap.size 5 i0 (.int .u8 0) 1 Try.underlying23 hi0 hz0 hz1 .i64 .i64 _ _ n rfl rfl rfl rfl (by rw [hz2]; omega) (by unfold maxLen; omega) (Nat.le_refl _) ?_; intro w1 hown0 hg0))
  have hb0 : Below w.heap.size w w1 := (Below.refl _ _).grown hg0 (Nat.le_refl _) (by intro k hk; cases hk)
  rw [mc_ints .u8 n] at hown0
  clear hg0
  go_loopw [26] (fun t wr => ∃ j : Nat, j ≤ n ∧ t = .int .i64 j ∧ wr.ownsRow w.heap.size 5 1 (.slice (some ⟨w.heap.size, 0, none⟩) n n) n ((Xp.gray k j ++ List.replicate (n - j) 0).map (Value.int .u8)) ∧ Below w.heap.size w wr) (fun t _ => n - (intOf t).toNat)
  case atStart => exact ⟨0, by omega, rfl, hown0, hb0⟩
  case round =>
    clear hown0 hb0
    obtain ⟨j, hj, rfl, hown, hbe⟩ := hrel
    by_cases hlt : j < n
    · have hcode := Xp.gray_code k j hk
      have hset := Xp.set_fill (Xp.gray k j) 0 (if Xp.gb k j then 2 else 0) n j (Xp.gray_len k j) hlt
      have hl : ((Xp.gray k j ++ List.replicate (n - j) 0).map (Value.int .u8))[j]? = some (.int .u8 0) := by
        rw [List.getElem?_map, Xp.fill_get _ _ n j (Xp.gray_len k j) hlt]; rfl
      by_cases hg : Xp.gb k j = true
      · rw [hg] at hcode
        rw [hg, if_pos rfl] at hset
        have hset := Lib.hid hset
        have hgs := Lib.hid (Xp.gray_succ k j)
        have hg := Lib.hid hg
        have hc := hown.cellAt j (by omega)
        have hf := hown.frozenAt j
        rw [hl] at hc
        clear hl
        have hst := hown.stored j (.int .u8 2)
        have hgr := hbe.grown hst.2 hbe.size (by intro q hq; cases hq; exact Nat.le_refl _)
        have hown' := Lib.hid hst.1
        have hgr := Lib.hid hgr
        clear hst hown
        go_wp2
        go_roundw
        case rel =>
          refine ⟨j + 1, by omega, by go_num, ?_, hgr.out⟩
          have := hown'.out
          rw [← List.map_set] at this
          rw [hgs.out, hg.out, if_pos rfl, ← hset.out]
          exact this
        case measure => simp [intOf]; omega
      · have hg : Xp.gb k j = false := by simpa using hg
        rw [hg] at hcode
        have hsame : Xp.gray k j ++ List.replicate (n - j) 0 = Xp.gray k (j + 1) ++ List.replicate (n - (j + 1)) 0 := by
          rw [Xp.gray_succ, hg, show n - j = (n - (j + 1)) + 1 from by omega, List.replicate_succ]; simp
        rw [hsame] at hown
        have hown := Lib.hid hown
        clear hset hl hsame hg
        go_wp2
        go_roundw
        case rel => exact ⟨j + 1, by omega, by go_num, hown.out, hbe⟩
        case measure => simp [intOf]; omega
    · go_wp2
      go_ret
      obtain rfl : j = n := by omega
      rw [Nat.sub_self] at hown
      simp only [List.replicate_zero, List.append_nil] at hown
      exact OwnInts.mk _ rfl j (Xp.gray_len _ _) hown hbe
theorem xGray_out (n k : Int) (w : World) (n1 : 0 ≤ n) (n2 : n ≤ 70) (k1 : -9223372036854775808 ≤ k) (k2 : k ≤ 9223372036854775807) (h : 60 < n ∨ k < 0) :
    Calls Try.prog 33 #[.int .i64 n, .int .i64 k] w fun e w' => e = .returned (.slice none 0 0) ∧ w = w' := by
  rcases (show 60 < n ∨ (n ≤ 60 ∧ k < 0) from by omega) with g | ⟨g1, g2⟩
  all_goals
    clear h
    go_enter Try.func33, Try.ntmps33
    go_wp2
    go_ret
    exact ⟨rfl, rfl⟩
end Go.Proofs.Ytchobkabndnhoaa
