/- What Next makes. -/
import Derived.Test.YtchobkabndnhoaaExp8
namespace Go.Proofs.Ytchobkabndnhoaa
open Go.RowKit
set_option linter.unusedVariables false
set_option maxHeartbeats 1000000
set_option maxRecDepth 100000
/-- what Next answers: a row, and whether there was a next -/
def NextSaid (c : Int) (xs : List Int) (w : World) (e : Ending) (w' : World) : Prop :=
  ∃ v ys b, e = .returned (.tuple #[v, .bool b]) ∧ w'.ownsRow w.heap.size 5 1 v xs.length (ys.map (Value.int .u8)) ∧ Below w.heap.size w w' ∧
    ((b = false ∧ ys = List.replicate xs.length 0 ∧ ∀ d ∈ xs, c ≤ d + 1) ∨
     (b = true ∧ ∃ (j : Nat) (d : Int), xs[j]? = some d ∧ d + 1 < c ∧ (∀ x ∈ xs.take j, c ≤ x + 1) ∧ ys = List.replicate j 0 ++ (d + 1) :: xs.drop (j + 1)))
theorem xNext_any (c : Int) (A : Option Addr) (n cap : Nat) (xs : List Int) (B : Nat) (w : World) (hr : RowAt w B A n (xs.map (Value.int .u8))) (hi : Ints .u8 xs) (hl : n ≤ 1000000) (hB : B ≤ w.heap.size) (hnc : A = none → cap = 0) (c1 : 1 ≤ c) (c2 : c ≤ 256) :
    Calls Try.prog 38 #[.int .i64 c, .slice A n cap] w (NextSaid c xs w) := by
  obtain ⟨i0, hi0, hz0, hz1, hz2⟩ := info_parts info_u8
  have hlen : xs.length = n := by simpa using hr.1
  have HL := Lib.hid hlen
  have HR := Lib.hid hr
  have HI := Lib.hid hi
  have HN := Lib.hid hnc
  clear hlen hr hi hnc
  have hown00 := World.ownsRow_lit (base := w.heap.size) (e := 5) (size := 1) w #[] 0 (Nat.le_refl _) (by unfold maxLen; omega) rfl
  have hbe00 : Below w.heap.size w (w.alloc (.cells #[] 5)) := (Below.refl _ _).alloc (Nat.le_refl _) _
  go_enter Try.func38, Try.ntmps38
  go_wp2_with (first
    | (at_builtin; refine wpList_appN (P := Try.prog) rfl (.tmp 8) (.tmp 9) 23 rfl w.heap.size 5 i0 (.int .u8 0) 1 Try.underlying23 hi0 hz0 hz1 hz2 rfl _ _ _ rfl hown00 B A n cap (xs.map (Value.int .u8)) rfl (HR.out.alloc hB _) HN.out (ints_oneCell _ _) (by unfold maxLen; omega) (by omega) (by simp) w.heap.size w hbe00 (Nat.le_refl _) (by simp) ?_; intro v1 w1 hown0 hbe0 hlt0 _; simp only [Nat.zero_add, List.nil_append] at hown0; obtain ⟨A1, cap1, rfl, hc1, hc2, _⟩ := own_shape hown0; unfold maxLen at hc2))
  go_loopw [13] (fun t wr => ∃ j : Nat, j ≤ n ∧ t = .int .i64 j ∧ wr.ownsRow w.heap.size 5 1 (.slice A1 n cap1) n ((Xp.zs xs j).map (Value.int .u8)) ∧ Below w.heap.size w wr ∧ ∀ x ∈ xs.take j, c ≤ x + 1) (fun t _ => n - (intOf t).toNat)
  case atStart => exact ⟨0, by omega, rfl, by rw [Xp.zs_zero]; exact hown0, hbe0, by simp⟩
  case round =>
    clear hown0 hbe0 hown00 hbe00
    obtain ⟨j, hj, rfl, hown, hbe, hall⟩ := hrel
    have hall := Lib.hid hall
    by_cases hlt : j < n
    · obtain ⟨g, rfl, hg1, hg2, hcell, hfz, hset, hbel⟩ := own_in hown hlt
      obtain ⟨b, off, d, rfl, hbl, hd, hwd, _⟩ := HR.out.int HI.out hlt
      have db := bounds_u8 hwd
      rw [List.getElem?_map, Xp.zs_get xs j d hd] at hcell
      have hcell : wr.cell? ⟨g, j, none⟩ = some (.int .u8 d) := hcell
      have hz1' := Xp.zs_set xs j d (d + 1) hd
      have hz2' := Xp.zs_succ xs j d hd
      by_cases hx : d + 1 < c
      · have hown' := hset (.int .u8 (d + 1))
        rw [← List.map_set, hz1'] at hown'
        have hown' := Lib.hid hown'
        have hb' := Lib.hid (hbel (.int .u8 (d + 1)) _ _ hbe (Nat.le_refl _) hbe.size)
        have hd' := Lib.hid hd
        clear hd hwd hz1' hz2' hset hbel
        go_wp2_with fail
        go_ret2
        exact ⟨_, _, _, rfl, by rw [HL.out]; exact hown'.out, hb'.out, .inr ⟨rfl, j, d, hd'.out, hx, hall.out, rfl⟩⟩
      · have hown' := hset (.int .u8 0)
        rw [← List.map_set, hz2'] at hown'
        have hown' := Lib.hid hown'
        have hb' := Lib.hid (hbel (.int .u8 0) _ _ hbe (Nat.le_refl _) hbe.size)
        have htk := Lib.hid (take_succ_of hd)
        clear hd hwd hz1' hz2' hset hbel
        go_wp2_with fail
        go_roundw
        case rel =>
          refine ⟨j + 1, by omega, by go_num, hown'.out, hb'.out, ?_⟩
          rw [htk.out]
          intro x hx'
          rcases List.mem_append.1 hx' with hx' | hx'
          · exact hall.out x hx'
          · simp at hx'; subst hx'; omega
        case measure => simp [intOf] <;> omega
    · obtain rfl : j = n := by omega
      go_wp2_with fail
      go_ret2
      have hz : Xp.zs xs j = List.replicate xs.length 0 := by
        unfold Xp.zs
        rw [List.drop_of_length_le (by rw [HL.out]; exact Nat.le_refl _), List.append_nil, HL.out]
      have hall' := hall.out
      rw [List.take_of_length_le (by rw [HL.out]; exact Nat.le_refl _)] at hall'
      exact ⟨_, _, _, rfl, by rw [HL.out]; exact hown, hbe, .inl ⟨rfl, hz, hall'⟩⟩
end Go.Proofs.Ytchobkabndnhoaa
