/- What the functions of package explore, and those of its reference, compute: a choice as digits. -/
import Derived.Test.YtchobkabndnhoaaExp1
namespace Go.Proofs.Ytchobkabndnhoaa
open Go.RowKit
set_option linter.unusedVariables false
set_option maxHeartbeats 400000
set_option maxRecDepth 100000
/-- the call returns a row of its own, these integers -/
def OwnInts (k : IntKind) (T : TypeId) (xs : List Int) (w : World) (e : Ending) (w' : World) : Prop :=
  ∃ v, e = .returned v ∧ w'.ownsRow w.heap.size T 1 v xs.length (xs.map (Value.int k)) ∧ Below w.heap.size w w'
theorem OwnInts.mk {k : IntKind} {T : TypeId} {xs : List Int} {w : World} {e : Ending} {w' : World} (v : Value) (he : e = .returned v) (n : Nat) (hn : xs.length = n) (ho : w'.ownsRow w.heap.size T 1 v n (xs.map (Value.int k))) (hb : Below w.heap.size w w') : OwnInts k T xs w e w' :=
  ⟨v, he, by rw [hn]; exact ho, hb⟩
theorem OwnInts.nil {k : IntKind} {T : TypeId} {xs : List Int} {w : World} {w' : World} (hx : xs = []) (hb : Below w.heap.size w w') : OwnInts k T xs w (.returned (.slice none 0 0)) w' := by
  subst hx; exact ⟨_, rfl, World.ownsRow_nil _ _ _ _, hb⟩
theorem mc_ints (k : IntKind) (n : Nat) : (madeCells (Value.int k 0).cells (n * 1)).toList = ([] ++ List.replicate (n - 0) (0 : Int)).map (Value.int k) := by
  have : (Value.int k 0).cells = #[.int k 0] := rfl
  rw [this, toList_madeCells_one]; simp
theorem xChoice_any (l c k : Int) (w : World) (l1 : -9223372036854775808 ≤ l) (l2 : l ≤ 9223372036854775807) (c1 : -9223372036854775808 ≤ c) (c2 : c ≤ 9223372036854775807) (k1 : -9223372036854775808 ≤ k) (k2 : k ≤ 9223372036854775807) :
    Calls Try.prog 31 #[.int .i64 l, .int .i64 c, .int .i64 k] w (OwnInts .u8 5 (Xp.choice l c k) w) := by
  by_cases h : Xp.okC l c k
  · obtain ⟨i0, hi0, hz0, hz1, hz2⟩ := info_parts info_u8
    have e := Lib.hid (Xp.choice_in l c k h)
    obtain ⟨a1, a2, a3, a4, a5⟩ := h
    obtain ⟨n, rfl⟩ := Int.eq_ofNat_of_zero_le a1
    go_enter Try.func31, Try.ntmps31
    go_wp2_with (first | (at_make; refine wpList_make_full (P := Try.prog) _ rfl _ _ 23 rfl w.heap.size 5 i0 (.int .u8 0) 1 Try.underlying23 hi0 hz0 hz1 .i64 .i64 _ _ n rfl rfl rfl rfl (by rw [hz2]; omega) (by unfold maxLen; omega) (Nat.le_refl _) ?_; intro w1 hown0 hg0))
    have hb0 : Below w.heap.size w w1 := (Below.refl _ _).grown hg0 (Nat.le_refl _) (by intro k hk; cases hk)
    rw [mc_ints .u8 n] at hown0
    clear hg0
    go_loopw [2, 31] (fun kk t wr => ∃ j : Nat, j ≤ n ∧ t = .int .i64 j ∧ kk = .int .i64 (Xp.kd c k j) ∧ wr.ownsRow w.heap.size 5 1 (.slice (some ⟨w.heap.size, 0, none⟩) n n) n ((Xp.digs c k j ++ List.replicate (n - j) 0).map (Value.int .u8)) ∧ Below w.heap.size w wr) (fun _ t _ => n - (intOf t).toNat)
    case atStart => exact ⟨0, by omega, rfl, rfl, hown0, hb0⟩
    case round =>
      clear hown0 hb0
      obtain ⟨j, hj, rfl, rfl, hown, hbe⟩ := hrel
      have hkb := Xp.kd_bd c k a3 a5 j
      have hd := Xp.dig_bd c k a3 j
      unfold Xp.dig at hd
      have hq := Xp.kd_bd c k a3 a5 (j + 1)
      rw [Xp.kd_succ] at hq
      by_cases hlt : j < n
      · have hc := hown.cellAt j (by omega)
        have hf := hown.frozenAt j
        have hl : ((Xp.digs c k j ++ List.replicate (n - j) 0).map (Value.int .u8))[j]? = some (.int .u8 0) := by
          rw [List.getElem?_map, Xp.fill_get _ _ n j (Xp.digs_len c k j) hlt]; rfl
        rw [hl] at hc
        clear hl
        have hset := Lib.hid (Xp.set_fill (Xp.digs c k j) 0 (Xp.dig c k j) n j (Xp.digs_len c k j) hlt)
        have hst := hown.stored j (.int .u8 (Xp.kd c k j % c))
        have hgr := hbe.grown hst.2 hbe.size (by intro q hq; cases hq; exact Nat.le_refl _)
        have hown' := Lib.hid hst.1
        have hgr := Lib.hid hgr
        clear hst hown
        go_wp2
        go_roundw
        case rel =>
          refine ⟨j + 1, by omega, by go_num, rfl, ?_, hgr.out⟩
          have := hown'.out
          rw [← List.map_set] at this
          rw [Xp.digs_succ, ← hset.out]
          exact this
        case measure => simp [intOf]; omega
      · go_wp2
        go_ret
        obtain rfl : j = n := by omega
        rw [Nat.sub_self] at hown
        simp only [List.replicate_zero, List.append_nil] at hown
        exact OwnInts.mk _ rfl j (by rw [e.out]; exact Xp.digs_len _ _ _) (by rw [e.out]; exact hown) hbe
  · have e := Lib.hid (Xp.choice_out l c k h)
    unfold Xp.okC at h
    rcases (show l < 0 ∨ (0 ≤ l ∧ 65536 < l) ∨ (0 ≤ l ∧ l ≤ 65536 ∧ c < 1) ∨ (0 ≤ l ∧ l ≤ 65536 ∧ 1 ≤ c ∧ 256 < c) ∨ (0 ≤ l ∧ l ≤ 65536 ∧ 1 ≤ c ∧ c ≤ 256 ∧ k < 0) from by omega) with g | ⟨g1, g2⟩ | ⟨g1, g2, g3⟩ | ⟨g1, g2, g3, g4⟩ | ⟨g1, g2, g3, g4, g5⟩
    all_goals
      clear h
      go_enter Try.func31, Try.ntmps31
      go_wp2
      go_ret
      exact OwnInts.nil e.out (Below.refl _ _)
theorem rxChoice_any (l c k : Int) (w : World) (l1 : -9223372036854775808 ≤ l) (l2 : l ≤ 9223372036854775807) (c1 : -9223372036854775808 ≤ c) (c2 : c ≤ 9223372036854775807) (k1 : -9223372036854775808 ≤ k) (k2 : k ≤ 9223372036854775807) :
    Calls Try.prog 32 #[.int .i64 l, .int .i64 c, .int .i64 k] w (OwnInts .u8 5 (Xp.choice l c k) w) := by
  by_cases h : Xp.okC l c k
  · obtain ⟨i0, hi0, hz0, hz1, hz2⟩ := info_parts info_u8
    have e := Lib.hid (Xp.choice_in l c k h)
    obtain ⟨a1, a2, a3, a4, a5⟩ := h
    obtain ⟨n, rfl⟩ := Int.eq_ofNat_of_zero_le a1
    go_enter Try.func32, Try.ntmps32
    go_wp2_with fail
    go_loopw [2, 7, 8] (fun kk v t wr => ∃ j : Nat, j ≤ n ∧ t = .int .i64 j ∧ kk = .int .i64 (Xp.kd c k j) ∧ wr.ownsRow w.heap.size 5 1 v j ((Xp.digs c k j).map (Value.int .u8)) ∧ Below w.heap.size w wr) (fun _ _ t _ => n - (intOf t).toNat)
    case atStart => exact ⟨0, by omega, rfl, rfl, World.ownsRow_nil _ _ _ _, Below.refl _ _⟩
    case round =>
      obtain ⟨j, hj, rfl, rfl, hown, hbe⟩ := hrel
      have hkb := Xp.kd_bd c k a3 a5 j
      have hd := Xp.dig_bd c k a3 j
      unfold Xp.dig at hd
      have hq := Xp.kd_bd c k a3 a5 (j + 1)
      rw [Xp.kd_succ] at hq
      have hsz := hbe.size
      by_cases hlt : j < n
      · go_wp2_with (first
          | (at_builtin; refine wpList_app1 (P := Try.prog) rfl (.tmp 32) (.tmp 37) 23 rfl w.heap.size 5 i0 (.int .u8 0) 1 Try.underlying23 hi0 hz0 hz1 hz2 rfl _ _ _ rfl hown _ _ rfl rfl (by unfold maxLen; omega) (by omega) hsz w.heap.size w hbe (Nat.le_refl _) ?_; intro v' w' hown' hbe' hlt' _))
        go_roundw
        case rel =>
          refine ⟨j + 1, by omega, by go_num, rfl, ?_, hbe'⟩
          rw [Xp.digs_succ, List.map_append]
          exact hown'
        case measure => simp [intOf]; omega
      · go_wp2
        go_ret
        obtain rfl : j = n := by omega
        exact OwnInts.mk _ rfl j (by rw [e.out]; exact Xp.digs_len _ _ _) (by rw [e.out]; exact hown) hbe
  · have e := Lib.hid (Xp.choice_out l c k h)
    unfold Xp.okC at h
    rcases (show l < 0 ∨ (0 ≤ l ∧ 65536 < l) ∨ (0 ≤ l ∧ l ≤ 65536 ∧ c < 1) ∨ (0 ≤ l ∧ l ≤ 65536 ∧ 1 ≤ c ∧ 256 < c) ∨ (0 ≤ l ∧ l ≤ 65536 ∧ 1 ≤ c ∧ c ≤ 256 ∧ k < 0) from by omega) with g | ⟨g1, g2⟩ | ⟨g1, g2, g3⟩ | ⟨g1, g2, g3, g4⟩ | ⟨g1, g2, g3, g4, g5⟩
    all_goals
      clear h
      go_enter Try.func32, Try.ntmps32
      go_wp2
      go_ret
      exact OwnInts.nil e.out (Below.refl _ _)
end Go.Proofs.Ytchobkabndnhoaa
