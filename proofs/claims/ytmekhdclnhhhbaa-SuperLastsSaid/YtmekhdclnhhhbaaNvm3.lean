/- What only reads; Arm; Flush; Evict. -/
import Derived.Test.YtmekhdclnhhhbaaNvm2
namespace Go.Proofs.Ytmekhdclnhhhbaa
open Go.RowKit
set_option linter.unusedSimpArgs false
set_option linter.unusedVariables false
theorem nGet (g : Geo) (d : Nv.D) (a : Int) (w : World) (hE : Ents (devL g d) w) :
    Calls Try.prog 25 [ptr g.p, .int .i64 a].toArray w fun e w' => e = .returned (.int .u64 (Nv.get d.cache a)) ∧ Only [] w w' := by
  have H := Heap.start hE
  generalize hF : ids (devL g d) = F at H
  unfold devL devCells at H
  unfold Nv.get
  by_cases hin : 0 ≤ a ∧ a < (d.cache.length : Int)
  · rw [if_pos hin]
    obtain ⟨i, rfl⟩ : ∃ i : Nat, a = (i : Int) := ⟨a.toNat, by omega⟩
    rw [Int.toNat_natCast]
    refine k_in (N := 23) Try.func25 rfl rfl rfl ?_
    refine k_seq ?_
    refine k_rg ?_
    refine s_run rfl rfl (r_as (v := .int _ _) rfl) ?_
    refine k_nil ?_
    refine c_norm ?_
    refine k_seq ?_
    refine k_seq ?_
    refine k_rg ?_
    refine s_run rfl rfl (r_mv (v := .int _ _) rfl) ?_
    refine s_run rfl rfl (r_lssF rfl rfl (by omega)) ?_
    refine s_run rfl rfl (r_mv (v := .bool _) rfl) ?_
    refine s_run rfl (g_on 7 (by kernel_rfl) rfl) (r_mv (v := .int _ _) rfl) ?_
    refine s_run rfl (g_on 7 (by kernel_rfl) rfl) (r_mv (v := .pointer _) rfl) ?_
    refine s_run rfl (g_on 7 (by kernel_rfl) rfl) (r_nc rfl) ?_
    refine s_run rfl (g_on 7 (by kernel_rfl) rfl) (r_fa0 rfl fo114_1) ?_
    refine s_run rfl (g_on 7 (by kernel_rfl) rfl) (r_lo H 0 rfl rfl rfl ag25) ?_
    refine s_run rfl (g_on 7 (by kernel_rfl) rfl) (r_len rfl Try.underlying25) ?_
    refine s_run rfl (g_on 7 (by kernel_rfl) rfl) (r_geqF rfl rfl (by omega)) ?_
    refine s_run rfl rfl (r_pkF (v := .bool _) rfl rfl) ?_
    refine k_nil ?_
    refine c_norm ?_
    refine k_f rfl ?_
    refine k_skip ?_
    refine c_norm ?_
    refine k_seq ?_
    refine k_rg ?_
    refine s_run rfl rfl (r_mv (v := .pointer _) rfl) ?_
    refine s_run rfl rfl (r_nc rfl) ?_
    refine s_run rfl rfl (r_fa0 rfl fo114_1) ?_
    refine s_run rfl rfl (r_lo H 0 rfl rfl rfl ag25) ?_
    refine s_run rfl rfl (r_mv (v := .int _ _) rfl) ?_
    refine s_run rfl rfl (r_ix1 rfl rfl rfl (by omega) Try.underlying25 sz22) ?_
    refine s_run rfl rfl (r_lv H 2 rfl rfl (getE (by omega)) ag22) ?_
    refine s_run rfl rfl (r_as (v := .int _ _) rfl) ?_
    refine k_nil ?_
    refine c_norm ?_
    refine k_ret ?_
    refine fin1r (v := .int _ _) rfl rfl ?_
    exact ⟨rfl, Only.refl _ _⟩
  · rw [if_neg hin]
    by_cases h1 : a < 0
    · refine k_in (N := 23) Try.func25 rfl rfl rfl ?_
      refine k_seq ?_
      refine k_rg ?_
      refine s_run rfl rfl (r_as (v := .int _ _) rfl) ?_
      refine k_nil ?_
      refine c_norm ?_
      refine k_seq ?_
      refine k_seq ?_
      refine k_rg ?_
      refine s_run rfl rfl (r_mv (v := .int _ _) rfl) ?_
      refine s_run rfl rfl (r_lssT rfl rfl (by omega)) ?_
      refine s_run rfl rfl (r_mv (v := .bool _) rfl) ?_
      refine s_off rfl (g_off 7 (by kernel_rfl) rfl rfl) ?_
      refine s_off rfl (g_off 7 (by kernel_rfl) rfl rfl) ?_
      refine s_off rfl (g_off 7 (by kernel_rfl) rfl rfl) ?_
      refine s_off rfl (g_off 7 (by kernel_rfl) rfl rfl) ?_
      refine s_off rfl (g_off 7 (by kernel_rfl) rfl rfl) ?_
      refine s_off rfl (g_off 7 (by kernel_rfl) rfl rfl) ?_
      refine s_off rfl (g_off 7 (by kernel_rfl) rfl rfl) ?_
      refine s_run rfl rfl (r_pkT (v := .bool _) rfl rfl) ?_
      refine k_nil ?_
      refine c_norm ?_
      refine k_t rfl ?_
      refine k_seq ?_
      refine k_rg ?_
      refine s_run rfl rfl (r_as (v := .int _ _) rfl) ?_
      refine k_nil ?_
      refine c_norm ?_
      refine k_ret ?_
      refine c_ret ?_
      refine fin1r (v := .int _ _) rfl rfl ?_
      exact ⟨rfl, Only.refl _ _⟩
    · refine k_in (N := 23) Try.func25 rfl rfl rfl ?_
      refine k_seq ?_
      refine k_rg ?_
      refine s_run rfl rfl (r_as (v := .int _ _) rfl) ?_
      refine k_nil ?_
      refine c_norm ?_
      refine k_seq ?_
      refine k_seq ?_
      refine k_rg ?_
      refine s_run rfl rfl (r_mv (v := .int _ _) rfl) ?_
      refine s_run rfl rfl (r_lssF rfl rfl (by omega)) ?_
      refine s_run rfl rfl (r_mv (v := .bool _) rfl) ?_
      refine s_run rfl (g_on 7 (by kernel_rfl) rfl) (r_mv (v := .int _ _) rfl) ?_
      refine s_run rfl (g_on 7 (by kernel_rfl) rfl) (r_mv (v := .pointer _) rfl) ?_
      refine s_run rfl (g_on 7 (by kernel_rfl) rfl) (r_nc rfl) ?_
      refine s_run rfl (g_on 7 (by kernel_rfl) rfl) (r_fa0 rfl fo114_1) ?_
      refine s_run rfl (g_on 7 (by kernel_rfl) rfl) (r_lo H 0 rfl rfl rfl ag25) ?_
      refine s_run rfl (g_on 7 (by kernel_rfl) rfl) (r_len rfl Try.underlying25) ?_
      refine s_run rfl (g_on 7 (by kernel_rfl) rfl) (r_geqT rfl rfl (by omega)) ?_
      refine s_run rfl rfl (r_pkF (v := .bool _) rfl rfl) ?_
      refine k_nil ?_
      refine c_norm ?_
      refine k_t rfl ?_
      refine k_seq ?_
      refine k_rg ?_
      refine s_run rfl rfl (r_as (v := .int _ _) rfl) ?_
      refine k_nil ?_
      refine c_norm ?_
      refine k_ret ?_
      refine c_ret ?_
      refine fin1r (v := .int _ _) rfl rfl ?_
      exact ⟨rfl, Only.refl _ _⟩
theorem nLasting (g : Geo) (d : Nv.D) (a : Int) (w : World) (hE : Ents (devL g d) w) :
    Calls Try.prog 26 [ptr g.p, .int .i64 a].toArray w fun e w' => e = .returned (.int .u64 (Nv.get d.last a)) ∧ Only [] w w' := by
  have H := Heap.start hE
  generalize hF : ids (devL g d) = F at H
  unfold devL devCells at H
  unfold Nv.get
  by_cases hin : 0 ≤ a ∧ a < (d.last.length : Int)
  · rw [if_pos hin]
    obtain ⟨i, rfl⟩ : ∃ i : Nat, a = (i : Int) := ⟨a.toNat, by omega⟩
    rw [Int.toNat_natCast]
    refine k_in (N := 23) Try.func26 rfl rfl rfl ?_
    refine k_seq ?_
    refine k_rg ?_
    refine s_run rfl rfl (r_as (v := .int _ _) rfl) ?_
    refine k_nil ?_
    refine c_norm ?_
    refine k_seq ?_
    refine k_seq ?_
    refine k_rg ?_
    refine s_run rfl rfl (r_mv (v := .int _ _) rfl) ?_
    refine s_run rfl rfl (r_lssF rfl rfl (by omega)) ?_
    refine s_run rfl rfl (r_mv (v := .bool _) rfl) ?_
    refine s_run rfl (g_on 7 (by kernel_rfl) rfl) (r_mv (v := .int _ _) rfl) ?_
    refine s_run rfl (g_on 7 (by kernel_rfl) rfl) (r_mv (v := .pointer _) rfl) ?_
    refine s_run rfl (g_on 7 (by kernel_rfl) rfl) (r_nc rfl) ?_
    refine s_run rfl (g_on 7 (by kernel_rfl) rfl) (r_fa0 rfl fo114_0) ?_
    refine s_run rfl (g_on 7 (by kernel_rfl) rfl) (r_lo H 0 rfl rfl rfl ag25) ?_
    refine s_run rfl (g_on 7 (by kernel_rfl) rfl) (r_len rfl Try.underlying25) ?_
    refine s_run rfl (g_on 7 (by kernel_rfl) rfl) (r_geqF rfl rfl (by omega)) ?_
    refine s_run rfl rfl (r_pkF (v := .bool _) rfl rfl) ?_
    refine k_nil ?_
    refine c_norm ?_
    refine k_f rfl ?_
    refine k_skip ?_
    refine c_norm ?_
    refine k_seq ?_
    refine k_rg ?_
    refine s_run rfl rfl (r_mv (v := .pointer _) rfl) ?_
    refine s_run rfl rfl (r_nc rfl) ?_
    refine s_run rfl rfl (r_fa0 rfl fo114_0) ?_
    refine s_run rfl rfl (r_lo H 0 rfl rfl rfl ag25) ?_
    refine s_run rfl rfl (r_mv (v := .int _ _) rfl) ?_
    refine s_run rfl rfl (r_ix1 rfl rfl rfl (by omega) Try.underlying25 sz22) ?_
    refine s_run rfl rfl (r_lv H 1 rfl rfl (getE (by omega)) ag22) ?_
    refine s_run rfl rfl (r_as (v := .int _ _) rfl) ?_
    refine k_nil ?_
    refine c_norm ?_
    refine k_ret ?_
    refine fin1r (v := .int _ _) rfl rfl ?_
    exact ⟨rfl, Only.refl _ _⟩
  · rw [if_neg hin]
    by_cases h1 : a < 0
    · refine k_in (N := 23) Try.func26 rfl rfl rfl ?_
      refine k_seq ?_
      refine k_rg ?_
      refine s_run rfl rfl (r_as (v := .int _ _) rfl) ?_
      refine k_nil ?_
      refine c_norm ?_
      refine k_seq ?_
      refine k_seq ?_
      refine k_rg ?_
      refine s_run rfl rfl (r_mv (v := .int _ _) rfl) ?_
      refine s_run rfl rfl (r_lssT rfl rfl (by omega)) ?_
      refine s_run rfl rfl (r_mv (v := .bool _) rfl) ?_
      refine s_off rfl (g_off 7 (by kernel_rfl) rfl rfl) ?_
      refine s_off rfl (g_off 7 (by kernel_rfl) rfl rfl) ?_
      refine s_off rfl (g_off 7 (by kernel_rfl) rfl rfl) ?_
      refine s_off rfl (g_off 7 (by kernel_rfl) rfl rfl) ?_
      refine s_off rfl (g_off 7 (by kernel_rfl) rfl rfl) ?_
      refine s_off rfl (g_off 7 (by kernel_rfl) rfl rfl) ?_
      refine s_off rfl (g_off 7 (by kernel_rfl) rfl rfl) ?_
      refine s_run rfl rfl (r_pkT (v := .bool _) rfl rfl) ?_
      refine k_nil ?_
      refine c_norm ?_
      refine k_t rfl ?_
      refine k_seq ?_
      refine k_rg ?_
      refine s_run rfl rfl (r_as (v := .int _ _) rfl) ?_
      refine k_nil ?_
      refine c_norm ?_
      refine k_ret ?_
      refine c_ret ?_
      refine fin1r (v := .int _ _) rfl rfl ?_
      exact ⟨rfl, Only.refl _ _⟩
    · refine k_in (N := 23) Try.func26 rfl rfl rfl ?_
      refine k_seq ?_
      refine k_rg ?_
      refine s_run rfl rfl (r_as (v := .int _ _) rfl) ?_
      refine k_nil ?_
      refine c_norm ?_
      refine k_seq ?_
      refine k_seq ?_
      refine k_rg ?_
      refine s_run rfl rfl (r_mv (v := .int _ _) rfl) ?_
      refine s_run rfl rfl (r_lssF rfl rfl (by omega)) ?_
      refine s_run rfl rfl (r_mv (v := .bool _) rfl) ?_
      refine s_run rfl (g_on 7 (by kernel_rfl) rfl) (r_mv (v := .int _ _) rfl) ?_
      refine s_run rfl (g_on 7 (by kernel_rfl) rfl) (r_mv (v := .pointer _) rfl) ?_
      refine s_run rfl (g_on 7 (by kernel_rfl) rfl) (r_nc rfl) ?_
      refine s_run rfl (g_on 7 (by kernel_rfl) rfl) (r_fa0 rfl fo114_0) ?_
      refine s_run rfl (g_on 7 (by kernel_rfl) rfl) (r_lo H 0 rfl rfl rfl ag25) ?_
      refine s_run rfl (g_on 7 (by kernel_rfl) rfl) (r_len rfl Try.underlying25) ?_
      refine s_run rfl (g_on 7 (by kernel_rfl) rfl) (r_geqT rfl rfl (by omega)) ?_
      refine s_run rfl rfl (r_pkF (v := .bool _) rfl rfl) ?_
      refine k_nil ?_
      refine c_norm ?_
      refine k_t rfl ?_
      refine k_seq ?_
      refine k_rg ?_
      refine s_run rfl rfl (r_as (v := .int _ _) rfl) ?_
      refine k_nil ?_
      refine c_norm ?_
      refine k_ret ?_
      refine c_ret ?_
      refine fin1r (v := .int _ _) rfl rfl ?_
      exact ⟨rfl, Only.refl _ _⟩
theorem nLen (g : Geo) (d : Nv.D) (w : World) (hE : Ents (devL g d) w) :
    Calls Try.prog 24 [ptr g.p].toArray w fun e w' => e = .returned (.int .i64 d.cache.length) ∧ Only [] w w' := by
  have H := Heap.start hE
  generalize hF : ids (devL g d) = F at H
  unfold devL devCells at H
  refine k_in (N := 8) Try.func24 rfl rfl rfl ?_
  refine k_seq ?_
  refine k_rg ?_
  refine s_run rfl rfl (r_as (v := .int _ _) rfl) ?_
  refine k_nil ?_
  refine c_norm ?_
  refine k_seq ?_
  refine k_rg ?_
  refine s_run rfl rfl (r_mv (v := .pointer _) rfl) ?_
  refine s_run rfl rfl (r_nc rfl) ?_
  refine s_run rfl rfl (r_fa0 rfl fo114_1) ?_
  refine s_run rfl rfl (r_lo H 0 rfl rfl rfl ag25) ?_
  refine s_run rfl rfl (r_len rfl Try.underlying25) ?_
  refine s_run rfl rfl (r_as (v := .int _ _) rfl) ?_
  refine k_nil ?_
  refine c_norm ?_
  refine k_ret ?_
  refine fin1r (v := .int _ _) rfl rfl ?_
  exact ⟨rfl, Only.refl _ _⟩
theorem nLines (g : Geo) (d : Nv.D) (w : World) (hE : Ents (devL g d) w) :
    Calls Try.prog 23 [ptr g.p].toArray w fun e w' => e = .returned (.int .i64 d.dirty.length) ∧ Only [] w w' := by
  have H := Heap.start hE
  generalize hF : ids (devL g d) = F at H
  unfold devL devCells at H
  refine k_in (N := 8) Try.func23 rfl rfl rfl ?_
  refine k_seq ?_
  refine k_rg ?_
  refine s_run rfl rfl (r_as (v := .int _ _) rfl) ?_
  refine k_nil ?_
  refine c_norm ?_
  refine k_seq ?_
  refine k_rg ?_
  refine s_run rfl rfl (r_mv (v := .pointer _) rfl) ?_
  refine s_run rfl rfl (r_nc rfl) ?_
  refine s_run rfl rfl (r_fa0 rfl fo114_3) ?_
  refine s_run rfl rfl (r_lo H 0 rfl rfl rfl ag53) ?_
  refine s_run rfl rfl (r_len rfl Try.underlying53) ?_
  refine s_run rfl rfl (r_as (v := .int _ _) rfl) ?_
  refine k_nil ?_
  refine c_norm ?_
  refine k_ret ?_
  refine fin1r (v := .int _ _) rfl rfl ?_
  exact ⟨rfl, Only.refl _ _⟩
theorem nSteps (g : Geo) (d : Nv.D) (w : World) (hE : Ents (devL g d) w) :
    Calls Try.prog 29 [ptr g.p].toArray w fun e w' => e = .returned (.int .i64 d.steps) ∧ Only [] w w' := by
  have H := Heap.start hE
  generalize hF : ids (devL g d) = F at H
  unfold devL devCells at H
  refine k_in (N := 7) Try.func29 rfl rfl rfl ?_
  refine k_seq ?_
  refine k_rg ?_
  refine s_run rfl rfl (r_as (v := .int _ _) rfl) ?_
  refine k_nil ?_
  refine c_norm ?_
  refine k_seq ?_
  refine k_rg ?_
  refine s_run rfl rfl (r_mv (v := .pointer _) rfl) ?_
  refine s_run rfl rfl (r_nc rfl) ?_
  refine s_run rfl rfl (r_fa0 rfl fo114_5) ?_
  refine s_run rfl rfl (r_lo H 0 rfl rfl rfl ag3) ?_
  refine s_run rfl rfl (r_as (v := .int _ _) rfl) ?_
  refine k_nil ?_
  refine c_norm ?_
  refine k_ret ?_
  refine fin1r (v := .int _ _) rfl rfl ?_
  exact ⟨rfl, Only.refl _ _⟩
theorem nDead (g : Geo) (d : Nv.D) (w : World) (hE : Ents (devL g d) w) :
    Calls Try.prog 28 [ptr g.p].toArray w fun e w' => e = .returned (.bool d.dead) ∧ Only [] w w' := by
  have H := Heap.start hE
  generalize hF : ids (devL g d) = F at H
  unfold devL devCells at H
  refine k_in (N := 7) Try.func28 rfl rfl rfl ?_
  refine k_seq ?_
  refine k_rg ?_
  refine s_run rfl rfl (r_as (v := .bool _) rfl) ?_
  refine k_nil ?_
  refine c_norm ?_
  refine k_seq ?_
  refine k_rg ?_
  refine s_run rfl rfl (r_mv (v := .pointer _) rfl) ?_
  refine s_run rfl rfl (r_nc rfl) ?_
  refine s_run rfl rfl (r_fa0 rfl fo114_8) ?_
  refine s_run rfl rfl (r_lo H 0 rfl rfl rfl ag4) ?_
  refine s_run rfl rfl (r_as (v := .bool _) rfl) ?_
  refine k_nil ?_
  refine c_norm ?_
  refine k_ret ?_
  refine fin1r (v := .bool _) rfl rfl ?_
  exact ⟨rfl, Only.refl _ _⟩
theorem nArm (g : Geo) (d : Nv.D) (a : Int) (w : World) (hE : Ents (devL g d) w) :
    Calls Try.prog 32 [ptr g.p, .int .i64 a].toArray w fun e w' => e = .returned (.tuple #[]) ∧ Heap w (ids (devL g d)) (devL g (Nv.arm d a)) w' := by
  have H := Heap.start hE
  generalize hF : ids (devL g d) = F at H ⊢
  unfold devL devCells at H
  unfold Nv.arm
  by_cases h : 0 ≤ a
  · refine k_in (N := 13) Try.func32 rfl rfl rfl ?_
    refine k_rg ?_
    refine s_run rfl rfl (r_mv (v := .pointer _) rfl) ?_
    refine s_run rfl rfl (r_mv (v := .pointer _) rfl) ?_
    refine s_run rfl rfl (r_mv (v := .int _ _) rfl) ?_
    refine s_run rfl rfl (r_mv (v := .int _ _) rfl) ?_
    refine s_run rfl rfl (r_geqT rfl rfl (by omega)) ?_
    refine s_run rfl rfl (r_nc rfl) ?_
    refine s_run rfl rfl (r_fa0 rfl fo114_6) ?_
    refine s_st (u := .int _ _) H 0 rfl rfl rfl rfl rfl rfl sz3 ?_
    intro _ H'; simp only [List.set_cons_zero, List.set_cons_succ, List.take_succ_cons, List.take_zero, List.drop_succ_cons, List.drop_zero, List.cons_append, List.nil_append, List.append_nil, List.length_cons, List.length_nil, Nat.reduceAdd] at H'; clear H; have H := H'; clear H'
    refine s_run rfl rfl (r_nc rfl) ?_
    refine s_run rfl rfl (r_fa0 rfl fo114_7) ?_
    refine s_st (u := .bool _) H 0 rfl rfl rfl rfl rfl rfl sz4 ?_
    intro _ H'; simp only [List.set_cons_zero, List.set_cons_succ, List.take_succ_cons, List.take_zero, List.drop_succ_cons, List.drop_zero, List.cons_append, List.nil_append, List.append_nil, List.length_cons, List.length_nil, Nat.reduceAdd] at H'; clear H; have H := H'; clear H'
    refine k_nil ?_
    refine fin0  rfl ?_
    refine ⟨rfl, ?_⟩
    unfold devL devCells
    simp only [h, decide_true]
    exact H
  · refine k_in (N := 13) Try.func32 rfl rfl rfl ?_
    refine k_rg ?_
    refine s_run rfl rfl (r_mv (v := .pointer _) rfl) ?_
    refine s_run rfl rfl (r_mv (v := .pointer _) rfl) ?_
    refine s_run rfl rfl (r_mv (v := .int _ _) rfl) ?_
    refine s_run rfl rfl (r_mv (v := .int _ _) rfl) ?_
    refine s_run rfl rfl (r_geqF rfl rfl (by omega)) ?_
    refine s_run rfl rfl (r_nc rfl) ?_
    refine s_run rfl rfl (r_fa0 rfl fo114_6) ?_
    refine s_st (u := .int _ _) H 0 rfl rfl rfl rfl rfl rfl sz3 ?_
    intro _ H'; simp only [List.set_cons_zero, List.set_cons_succ, List.take_succ_cons, List.take_zero, List.drop_succ_cons, List.drop_zero, List.cons_append, List.nil_append, List.append_nil, List.length_cons, List.length_nil, Nat.reduceAdd] at H'; clear H; have H := H'; clear H'
    refine s_run rfl rfl (r_nc rfl) ?_
    refine s_run rfl rfl (r_fa0 rfl fo114_7) ?_
    refine s_st (u := .bool _) H 0 rfl rfl rfl rfl rfl rfl sz4 ?_
    intro _ H'; simp only [List.set_cons_zero, List.set_cons_succ, List.take_succ_cons, List.take_zero, List.drop_succ_cons, List.drop_zero, List.cons_append, List.nil_append, List.append_nil, List.length_cons, List.length_nil, Nat.reduceAdd] at H'; clear H; have H := H'; clear H'
    refine k_nil ?_
    refine fin0  rfl ?_
    refine ⟨rfl, ?_⟩
    unfold devL devCells
    simp only [h, decide_false]
    exact H
theorem nFlush (g : Geo) (d : Nv.D) (m : Nat) (a : Int) (w : World) (hE : Ents (devL g d) w) (ho : Nv.Ok d m) (hg : GOk g m) (hm : m ≤ 100000) :
    Calls Try.prog 49 [ptr g.p, .int .i64 a].toArray w fun e w' => e = .returned (.int .i64 (Nv.flush d m a).2) ∧ Heap w (ids (devL g d)) (devL g (Nv.flush d m a).1) w' := by
  have H0 := Heap.start hE
  have hd := ho.hd
  by_cases hin : 0 ≤ a ∧ a < (m : Int)
  · by_cases hs : Nv.stops d = true
    · have er : Nv.flush d m a = (Nv.killed d, 3) := by rw [Nv.flush, if_pos hin, if_pos hs]
      rw [er]
      generalize hF : ids (devL g d) = F at H0 ⊢
      have H := H0
      unfold devL devCells at H
      refine k_in (N := 49) Try.func49 rfl rfl rfl ?_
      refine k_seq ?_
      refine k_rg ?_
      refine s_run rfl rfl (r_as (v := .int _ _) rfl) ?_
      refine k_nil ?_
      refine c_norm ?_
      refine k_seq ?_
      refine k_b ?_
      refine k_seq ?_
      refine k_rg ?_
      refine s_run rfl rfl (r_mv (v := .int _ _) rfl) ?_
      refine s_run rfl rfl (r_lssF rfl rfl (by omega)) ?_
      refine s_run rfl rfl (r_mv (v := .bool _) rfl) ?_
      refine s_run rfl (g_on 8 (by kernel_rfl) rfl) (r_mv (v := .int _ _) rfl) ?_
      refine s_run rfl (g_on 8 (by kernel_rfl) rfl) (r_mv (v := .pointer _) rfl) ?_
      refine s_run rfl (g_on 8 (by kernel_rfl) rfl) (r_nc rfl) ?_
      refine s_run rfl (g_on 8 (by kernel_rfl) rfl) (r_fa0 rfl fo114_3) ?_
      refine s_run rfl (g_on 8 (by kernel_rfl) rfl) (r_lo H 0 rfl rfl rfl ag53) ?_
      refine s_run rfl (g_on 8 (by kernel_rfl) rfl) (r_len rfl Try.underlying53) ?_
      refine s_run rfl (g_on 8 (by kernel_rfl) rfl) (r_geqF rfl rfl (by omega)) ?_
      refine s_run rfl rfl (r_pkF (v := .bool _) rfl rfl) ?_
      refine s_run rfl rfl (r_as (v := .bool _) rfl) ?_
      refine k_nil ?_
      refine c_norm ?_
      refine k_f rfl ?_
      refine k_seq ?_
      refine k_rg ?_
      refine s_run rfl rfl (r_mv (v := .pointer _) rfl) ?_
      refine s_call rfl (nStep_no g d _ H0.ents hs) (ca70 rfl) ?_
      rintro e W1 ⟨rfl, H'⟩
      refine ⟨_, rfl, ?_⟩
      have H := H0.whole H'
      refine s_run rfl rfl (r_notF rfl) ?_
      refine s_run rfl rfl (r_as (v := .bool _) rfl) ?_
      refine k_nil ?_
      refine c_norm ?_
      refine k_t rfl ?_
      refine k_seq ?_
      refine k_rg ?_
      refine s_run rfl rfl (r_as (v := .int _ _) rfl) ?_
      refine k_nil ?_
      refine c_norm ?_
      refine k_ret ?_
      refine b_ret ?_
      refine c_ret ?_
      refine fin1r (v := .int _ _) rfl rfl ?_
      exact ⟨rfl, H⟩
    · have hs : Nv.stops d = false := by simpa using hs
      obtain ⟨i, rfl⟩ : ∃ i : Nat, a = (i : Int) := ⟨a.toNat, by omega⟩
      have er : Nv.flush d m i = (if d.dirty.getD i false = true then Nv.flushed (Nv.stepped d) i else Nv.stepped d, 0) := by rw [Nv.flush, if_pos hin, if_neg (by simp [hs]), Int.toNat_natCast]
      rw [er]
      have hp := ho.hp
      have hc := ho.hc
      have hf := ho.hf
      generalize hF : ids (devL g d) = F at H0 ⊢
      have H := H0
      unfold devL devCells at H
      by_cases hdi : d.dirty.getD i false = true
      · have hdi' : d.dirty[i]? = some true := by rw [getE (by omega)]; exact congrArg some hdi
        rw [if_pos hdi]
        have hgc := hg.c
        have hgf := hg.f
        refine k_in (N := 49) Try.func49 rfl rfl rfl ?_
        refine k_seq ?_
        refine k_rg ?_
        refine s_run rfl rfl (r_as (v := .int _ _) rfl) ?_
        refine k_nil ?_
        refine c_norm ?_
        refine k_seq ?_
        refine k_b ?_
        refine k_seq ?_
        refine k_rg ?_
        refine s_run rfl rfl (r_mv (v := .int _ _) rfl) ?_
        refine s_run rfl rfl (r_lssF rfl rfl (by omega)) ?_
        refine s_run rfl rfl (r_mv (v := .bool _) rfl) ?_
        refine s_run rfl (g_on 8 (by kernel_rfl) rfl) (r_mv (v := .int _ _) rfl) ?_
        refine s_run rfl (g_on 8 (by kernel_rfl) rfl) (r_mv (v := .pointer _) rfl) ?_
        refine s_run rfl (g_on 8 (by kernel_rfl) rfl) (r_nc rfl) ?_
        refine s_run rfl (g_on 8 (by kernel_rfl) rfl) (r_fa0 rfl fo114_3) ?_
        refine s_run rfl (g_on 8 (by kernel_rfl) rfl) (r_lo H 0 rfl rfl rfl ag53) ?_
        refine s_run rfl (g_on 8 (by kernel_rfl) rfl) (r_len rfl Try.underlying53) ?_
        refine s_run rfl (g_on 8 (by kernel_rfl) rfl) (r_geqF rfl rfl (by omega)) ?_
        refine s_run rfl rfl (r_pkF (v := .bool _) rfl rfl) ?_
        refine s_run rfl rfl (r_as (v := .bool _) rfl) ?_
        refine k_nil ?_
        refine c_norm ?_
        refine k_f rfl ?_
        refine k_seq ?_
        refine k_rg ?_
        refine s_run rfl rfl (r_mv (v := .pointer _) rfl) ?_
        refine s_call rfl (nStep_yes g d _ H0.ents hs) (ca70 rfl) ?_
        rintro e W1 ⟨rfl, H'⟩
        refine ⟨_, rfl, ?_⟩
        have H := H0.whole H'; unfold devL devCells Nv.stepped at H; simp only at H
        refine s_run rfl rfl (r_notT rfl) ?_
        refine s_run rfl rfl (r_as (v := .bool _) rfl) ?_
        refine k_nil ?_
        refine c_norm ?_
        refine k_f rfl ?_
        refine k_skip ?_
        refine b_norm ?_
        refine c_norm ?_
        refine k_seq ?_
        refine k_seq ?_
        refine k_rg ?_
        refine s_run rfl rfl (r_mv (v := .pointer _) rfl) ?_
        refine s_run rfl rfl (r_nc rfl) ?_
        refine s_run rfl rfl (r_fa0 rfl fo114_3) ?_
        refine s_run rfl rfl (r_lo H 0 rfl rfl rfl ag53) ?_
        refine s_run rfl rfl (r_mv (v := .int _ _) rfl) ?_
        refine s_run rfl rfl (r_ix1 rfl rfl rfl (by omega) Try.underlying53 sz4) ?_
        refine s_run rfl rfl (r_lv H 4 rfl rfl (by assumption) ag4) ?_
        refine k_nil ?_
        refine c_norm ?_
        refine k_t rfl ?_
        refine k_seq ?_
        refine k_rg ?_
        refine s_run rfl rfl (r_mv (v := .pointer _) rfl) ?_
        refine s_run rfl rfl (r_nc rfl) ?_
        refine s_run rfl rfl (r_fa0 rfl fo114_4) ?_
        refine s_run rfl rfl (r_lo H 0 rfl rfl rfl ag53) ?_
        refine s_run rfl rfl (r_mv (v := .int _ _) rfl) ?_
        refine s_run rfl rfl (r_ix1 rfl rfl rfl (by omega) Try.underlying53 sz4) ?_
        refine s_sv (u := .bool _) H 5 rfl rfl rfl rfl rfl (by omega) (fun _ => rfl) sz4 ?_
        intro _ H'; simp only [List.set_cons_zero, List.set_cons_succ, List.take_succ_cons, List.take_zero, List.drop_succ_cons, List.drop_zero, List.cons_append, List.nil_append, List.append_nil, List.length_cons, List.length_nil, Nat.reduceAdd] at H'; clear H; have H := H'; clear H'
        refine k_nil ?_
        refine c_norm ?_
        refine k_qt 14 mixed (by kernel_rfl) H rfl rfl ?_
        refine q_run rfl rfl (fun _ H => r_mv (v := .pointer _) rfl) ?_
        refine q_run rfl rfl (fun _ H => r_mv (v := .pointer _) rfl) ?_
        refine q_run rfl rfl (fun _ H => r_nc rfl) ?_
        refine q_run rfl rfl (fun _ H => r_fa0 rfl fo114_2) ?_
        refine q_run rfl rfl (fun _ H => r_lo H 0 rfl rfl rfl ag25) ?_
        refine q_run rfl rfl (fun _ H => r_mv (v := .int _ _) rfl) ?_
        refine q_call rfl rfl (fun _ H => nPart g.bf g.cf i _ _ _ (by omega)) (ca77 rfl) ?_
        refine q_run rfl rfl (fun _ H => r_mv (v := .pointer _) rfl) ?_
        refine q_run rfl rfl (fun _ H => r_mv (v := .pointer _) rfl) ?_
        refine q_run rfl rfl (fun _ H => r_nc rfl) ?_
        refine q_run rfl rfl (fun _ H => r_fa0 rfl fo114_1) ?_
        refine q_run rfl rfl (fun _ H => r_lo H 0 rfl rfl rfl ag25) ?_
        refine q_run rfl rfl (fun _ H => r_mv (v := .int _ _) rfl) ?_
        refine q_call rfl rfl (fun _ H => nPart g.bc g.cc i _ _ _ (by omega)) (ca77 rfl) ?_
        refine q_nil ?_
        intro _ H'; clear H; have H := H'; clear H'
        refine s_cp (enc := (Value.int .u64)) H 3 2 rfl rfl rfl rfl rfl (fun _ => rfl) (by omega) Try.underlying25 inf22 ?_
        intro _ H'; simp only [List.set_cons_zero, List.set_cons_succ, List.take_succ_cons, List.take_zero, List.drop_succ_cons, List.drop_zero, List.cons_append, List.nil_append, List.append_nil, List.length_cons, List.length_nil, Nat.reduceAdd] at H'; clear H; have H := H'; clear H'
        refine k_nil ?_
        refine c_norm ?_
        refine k_seq ?_
        refine k_rg ?_
        refine s_run rfl rfl (r_as (v := .int _ _) rfl) ?_
        refine k_nil ?_
        refine c_norm ?_
        refine k_ret ?_
        refine fin1r (v := .int _ _) rfl rfl ?_
        refine ⟨rfl, ?_⟩
        unfold devL devCells Nv.flushed Nv.stepped
        have e : Nv.setPart d.fl i (Nv.part d.cache i) = d.fl.take (8 * i) ++ ((d.cache.drop (8 * i)).take 8 ++ d.fl.drop (8 * i + 8)) := by simp [Nv.setPart, Nv.part]
        have hl : (Nv.setPart d.fl i (Nv.part d.cache i)).length = d.fl.length := Nv.length_setPart (by omega) (Nv.length_part (by omega))
        rw [← e] at H
        simp only [hl, List.length_set]
        exact H
      · have hdi' : d.dirty[i]? = some false := by
          rw [getE (by omega)]
          have : d.dirty.getD i default = false := by simpa using hdi
          rw [this]
        rw [if_neg hdi]
        refine k_in (N := 49) Try.func49 rfl rfl rfl ?_
        refine k_seq ?_
        refine k_rg ?_
        refine s_run rfl rfl (r_as (v := .int _ _) rfl) ?_
        refine k_nil ?_
        refine c_norm ?_
        refine k_seq ?_
        refine k_b ?_
        refine k_seq ?_
        refine k_rg ?_
        refine s_run rfl rfl (r_mv (v := .int _ _) rfl) ?_
        refine s_run rfl rfl (r_lssF rfl rfl (by omega)) ?_
        refine s_run rfl rfl (r_mv (v := .bool _) rfl) ?_
        refine s_run rfl (g_on 8 (by kernel_rfl) rfl) (r_mv (v := .int _ _) rfl) ?_
        refine s_run rfl (g_on 8 (by kernel_rfl) rfl) (r_mv (v := .pointer _) rfl) ?_
        refine s_run rfl (g_on 8 (by kernel_rfl) rfl) (r_nc rfl) ?_
        refine s_run rfl (g_on 8 (by kernel_rfl) rfl) (r_fa0 rfl fo114_3) ?_
        refine s_run rfl (g_on 8 (by kernel_rfl) rfl) (r_lo H 0 rfl rfl rfl ag53) ?_
        refine s_run rfl (g_on 8 (by kernel_rfl) rfl) (r_len rfl Try.underlying53) ?_
        refine s_run rfl (g_on 8 (by kernel_rfl) rfl) (r_geqF rfl rfl (by omega)) ?_
        refine s_run rfl rfl (r_pkF (v := .bool _) rfl rfl) ?_
        refine s_run rfl rfl (r_as (v := .bool _) rfl) ?_
        refine k_nil ?_
        refine c_norm ?_
        refine k_f rfl ?_
        refine k_seq ?_
        refine k_rg ?_
        refine s_run rfl rfl (r_mv (v := .pointer _) rfl) ?_
        refine s_call rfl (nStep_yes g d _ H0.ents hs) (ca70 rfl) ?_
        rintro e W1 ⟨rfl, H'⟩
        refine ⟨_, rfl, ?_⟩
        have H := H0.whole H'; unfold devL devCells Nv.stepped at H; simp only at H
        refine s_run rfl rfl (r_notT rfl) ?_
        refine s_run rfl rfl (r_as (v := .bool _) rfl) ?_
        refine k_nil ?_
        refine c_norm ?_
        refine k_f rfl ?_
        refine k_skip ?_
        refine b_norm ?_
        refine c_norm ?_
        refine k_seq ?_
        refine k_seq ?_
        refine k_rg ?_
        refine s_run rfl rfl (r_mv (v := .pointer _) rfl) ?_
        refine s_run rfl rfl (r_nc rfl) ?_
        refine s_run rfl rfl (r_fa0 rfl fo114_3) ?_
        refine s_run rfl rfl (r_lo H 0 rfl rfl rfl ag53) ?_
        refine s_run rfl rfl (r_mv (v := .int _ _) rfl) ?_
        refine s_run rfl rfl (r_ix1 rfl rfl rfl (by omega) Try.underlying53 sz4) ?_
        refine s_run rfl rfl (r_lv H 4 rfl rfl (by assumption) ag4) ?_
        refine k_nil ?_
        refine c_norm ?_
        refine k_f rfl ?_
        refine k_skip ?_
        refine c_norm ?_
        refine k_seq ?_
        refine k_rg ?_
        refine s_run rfl rfl (r_as (v := .int _ _) rfl) ?_
        refine k_nil ?_
        refine c_norm ?_
        refine k_ret ?_
        refine fin1r (v := .int _ _) rfl rfl ?_
        refine ⟨rfl, ?_⟩
        unfold devL devCells Nv.stepped
        exact H
  · have er : Nv.flush d m a = (d, 2) := by rw [Nv.flush, if_neg hin]
    rw [er]
    generalize hF : ids (devL g d) = F at H0 ⊢
    have H := H0
    unfold devL devCells at H
    by_cases h1 : a < 0
    · refine k_in (N := 49) Try.func49 rfl rfl rfl ?_
      refine k_seq ?_
      refine k_rg ?_
      refine s_run rfl rfl (r_as (v := .int _ _) rfl) ?_
      refine k_nil ?_
      refine c_norm ?_
      refine k_seq ?_
      refine k_b ?_
      refine k_seq ?_
      refine k_rg ?_
      refine s_run rfl rfl (r_mv (v := .int _ _) rfl) ?_
      refine s_run rfl rfl (r_lssT rfl rfl (by omega)) ?_
      refine s_run rfl rfl (r_mv (v := .bool _) rfl) ?_
      refine s_off rfl (g_off 8 (by kernel_rfl) rfl rfl) ?_
      refine s_off rfl (g_off 8 (by kernel_rfl) rfl rfl) ?_
      refine s_off rfl (g_off 8 (by kernel_rfl) rfl rfl) ?_
      refine s_off rfl (g_off 8 (by kernel_rfl) rfl rfl) ?_
      refine s_off rfl (g_off 8 (by kernel_rfl) rfl rfl) ?_
      refine s_off rfl (g_off 8 (by kernel_rfl) rfl rfl) ?_
      refine s_off rfl (g_off 8 (by kernel_rfl) rfl rfl) ?_
      refine s_run rfl rfl (r_pkT (v := .bool _) rfl rfl) ?_
      refine s_run rfl rfl (r_as (v := .bool _) rfl) ?_
      refine k_nil ?_
      refine c_norm ?_
      refine k_t rfl ?_
      refine k_seq ?_
      refine k_rg ?_
      refine s_run rfl rfl (r_as (v := .int _ _) rfl) ?_
      refine k_nil ?_
      refine c_norm ?_
      refine k_ret ?_
      refine b_ret ?_
      refine c_ret ?_
      refine fin1r (v := .int _ _) rfl rfl ?_
      exact ⟨rfl, H⟩
    · refine k_in (N := 49) Try.func49 rfl rfl rfl ?_
      refine k_seq ?_
      refine k_rg ?_
      refine s_run rfl rfl (r_as (v := .int _ _) rfl) ?_
      refine k_nil ?_
      refine c_norm ?_
      refine k_seq ?_
      refine k_b ?_
      refine k_seq ?_
      refine k_rg ?_
      refine s_run rfl rfl (r_mv (v := .int _ _) rfl) ?_
      refine s_run rfl rfl (r_lssF rfl rfl (by omega)) ?_
      refine s_run rfl rfl (r_mv (v := .bool _) rfl) ?_
      refine s_run rfl (g_on 8 (by kernel_rfl) rfl) (r_mv (v := .int _ _) rfl) ?_
      refine s_run rfl (g_on 8 (by kernel_rfl) rfl) (r_mv (v := .pointer _) rfl) ?_
      refine s_run rfl (g_on 8 (by kernel_rfl) rfl) (r_nc rfl) ?_
      refine s_run rfl (g_on 8 (by kernel_rfl) rfl) (r_fa0 rfl fo114_3) ?_
      refine s_run rfl (g_on 8 (by kernel_rfl) rfl) (r_lo H 0 rfl rfl rfl ag53) ?_
      refine s_run rfl (g_on 8 (by kernel_rfl) rfl) (r_len rfl Try.underlying53) ?_
      refine s_run rfl (g_on 8 (by kernel_rfl) rfl) (r_geqT rfl rfl (by omega)) ?_
      refine s_run rfl rfl (r_pkF (v := .bool _) rfl rfl) ?_
      refine s_run rfl rfl (r_as (v := .bool _) rfl) ?_
      refine k_nil ?_
      refine c_norm ?_
      refine k_t rfl ?_
      refine k_seq ?_
      refine k_rg ?_
      refine s_run rfl rfl (r_as (v := .int _ _) rfl) ?_
      refine k_nil ?_
      refine c_norm ?_
      refine k_ret ?_
      refine b_ret ?_
      refine c_ret ?_
      refine fin1r (v := .int _ _) rfl rfl ?_
      exact ⟨rfl, H⟩
end Go.Proofs.Ytmekhdclnhhhbaa
