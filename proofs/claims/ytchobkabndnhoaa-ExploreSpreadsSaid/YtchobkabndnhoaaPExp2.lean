/- Plain lemmas: spread numbers rise. -/
import Derived.Test.YtchobkabndnhoaaPExp
namespace Go.Proofs.Ytchobkabndnhoaa.Xp
set_option linter.unusedVariables false
theorem spread_pair (v m : Int) (j : Nat) (x y : Int) (hx : (spread v m)[j + 1]? = some x) (hy : (spread v m)[j]? = some y) : y < x ∧ x < v ∧ 0 ≤ y := by
  by_cases h : 1 ≤ v ∧ 1 ≤ m
  · obtain ⟨n, hn, e⟩ := spread_in v m h.1 h.2
    have hb := many_bd v m h.1 h.2
    rw [hn] at hb
    rw [e] at hx hy
    have hj : j + 1 < n := by
      have := (List.getElem?_eq_some_iff.1 hx).1
      rwa [spr_len] at this
    rw [spr_get _ _ _ _ hj] at hx
    rw [spr_get _ _ _ _ (by omega)] at hy
    have hx : sat v n (j + 1) = x := Option.some.inj hx
    have hy : sat v n j = y := Option.some.inj hy
    have a := sat_rise v n (by omega) (by omega) j
    have b := sat_lt v n (by omega) (by omega) (j + 1) (by omega)
    have c := (sat_bd v n (by omega) (by omega) j (by omega)).1
    omega
  · rw [spread_out v m h] at hx; simp at hx
theorem spread_wf (v m : Int) (hv : v ≤ 1125899906842624) : ∀ x ∈ spread v m, 0 ≤ x ∧ x ≤ 1125899906842624 := by
  intro x hx
  by_cases h : 1 ≤ v ∧ 1 ≤ m
  · obtain ⟨n, hn, e⟩ := spread_in v m h.1 h.2
    have hb := many_bd v m h.1 h.2
    rw [hn] at hb
    rw [e] at hx
    obtain ⟨i, hi, rfl⟩ := List.mem_map.1 hx
    have := List.mem_range.1 hi
    have h2 := sat_bd v n (by omega) (by omega) i (by omega)
    unfold sat at h2
    omega
  · rw [spread_out v m h] at hx; simp at hx
theorem spread_len (v m : Int) : (spread v m).length ≤ 4096 := by
  by_cases h : 1 ≤ v ∧ 1 ≤ m
  · obtain ⟨n, hn, e⟩ := spread_in v m h.1 h.2
    have hb := many_bd v m h.1 h.2
    rw [e, spr_len]; omega
  · rw [spread_out v m h]; simp
end Go.Proofs.Ytchobkabndnhoaa.Xp
