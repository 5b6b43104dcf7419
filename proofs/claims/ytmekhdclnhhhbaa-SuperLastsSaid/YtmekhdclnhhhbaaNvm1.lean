/- A device in memory; a step. -/
import Derived.Test.YtmekhdclnhhhbaaPNv
namespace Go.Proofs.Ytmekhdclnhhhbaa
open Go.RowKit
set_option linter.unusedSimpArgs false
set_option linter.unusedVariables false
/-- where a device lies -/
structure Geo where
  p : Nat
  bl : Nat
  bc : Nat
  bf : Nat
  bd : Nat
  bp : Nat
  cl : Nat
  cc : Nat
  cf : Nat
  cd : Nat
  cp : Nat
def devCells (g : Geo) (d : Nv.D) : List Value :=
  [.slice (some ⟨g.bl, 0, none⟩) d.last.length g.cl, .slice (some ⟨g.bc, 0, none⟩) d.cache.length g.cc, .slice (some ⟨g.bf, 0, none⟩) d.fl.length g.cf, .slice (some ⟨g.bd, 0, none⟩) d.dirty.length g.cd, .slice (some ⟨g.bp, 0, none⟩) d.pend.length g.cp,
   .int .i64 d.steps, .int .i64 d.fuse, .bool d.armed, .bool d.dead]
def devL (g : Geo) (d : Nv.D) : List Ent :=
  [blk g.p (devCells g d) 114, vec (Value.int .u64) g.bl d.last 22, vec (Value.int .u64) g.bc d.cache 22, vec (Value.int .u64) g.bf d.fl 22, vec Value.bool g.bd d.dirty 4, vec Value.bool g.bp d.pend 4]
abbrev ptr (b : Nat) : Value := .pointer (some ⟨b, 0, none⟩)
theorem nStep_no (g : Geo) (d : Nv.D) (w : World) (hE : Ents (devL g d) w) (hs : Nv.stops d = true) :
    Calls Try.prog 70 [ptr g.p].toArray w fun e w' => e = .returned (.bool false) ∧ Heap w (ids (devL g d)) (devL g (Nv.killed d)) w' := by
  have H := Heap.start hE
  generalize hF : ids (devL g d) = F at H ⊢
  unfold devL devCells at H
  by_cases h : d.dead = true
  · rw [h] at H
    refine k_in (N := 37) Try.func70 rfl rfl rfl ?_
    refine k_seq ?_
    refine k_rg ?_
    refine s_run rfl rfl (r_as (v := .bool _) rfl) ?_
    refine k_nil ?_
    refine c_norm ?_
    refine k_seq ?_
    refine k_seq ?_
    refine k_rg ?_
    refine s_run rfl rfl (r_mv (v := .pointer _) rfl) ?_
    refine s_run rfl rfl (r_nc rfl) ?_
    refine s_run rfl rfl (r_fa0 rfl fo114_8) ?_
    refine s_run rfl rfl (r_lo H 0 rfl rfl rfl ag4) ?_
    refine s_run rfl rfl (r_mv (v := .bool _) rfl) ?_
    refine s_off rfl (g_off 7 (by kernel_rfl) rfl rfl) ?_
    refine s_off rfl (g_off 7 (by kernel_rfl) rfl rfl) ?_
    refine s_off rfl (g_off 7 (by kernel_rfl) rfl rfl) ?_
    refine s_off rfl (g_off 7 (by kernel_rfl) rfl rfl) ?_
    refine s_off rfl (g_off 7 (by kernel_rfl) rfl rfl) ?_
    refine s_off rfl (g_un 12 (by kernel_rfl) rfl) ?_
    refine s_off rfl (g_un 12 (by kernel_rfl) rfl) ?_
    refine s_off rfl (g_un 12 (by kernel_rfl) rfl) ?_
    refine s_off rfl (g_un 12 (by kernel_rfl) rfl) ?_
    refine s_off rfl (g_un 12 (by kernel_rfl) rfl) ?_
    refine s_off rfl (g_off 7 (by kernel_rfl) rfl rfl) ?_
    refine s_run rfl rfl (r_pkT (v := .bool _) rfl rfl) ?_
    refine k_nil ?_
    refine c_norm ?_
    refine k_t rfl ?_
    refine k_seq ?_
    refine k_rg ?_
    refine s_run rfl rfl (r_mv (v := .pointer _) rfl) ?_
    refine s_run rfl rfl (r_nc rfl) ?_
    refine s_run rfl rfl (r_fa0 rfl fo114_8) ?_
    refine s_st (u := .bool _) H 0 rfl rfl rfl rfl rfl rfl sz4 ?_
    intro _ H'; simp only [List.set_cons_zero, List.set_cons_succ, List.take_succ_cons, List.take_zero, List.drop_succ_cons, List.drop_zero, List.cons_append, List.nil_append, List.append_nil, List.length_cons, List.length_nil, Nat.reduceAdd] at H'; clear H; have H := H'; clear H'
    refine k_nil ?_
    refine c_norm ?_
    refine k_seq ?_
    refine k_rg ?_
    refine s_run rfl rfl (r_as (v := .bool _) rfl) ?_
    refine k_nil ?_
    refine c_norm ?_
    refine k_ret ?_
    refine c_ret ?_
    refine fin1r (v := .bool _) rfl rfl ?_
    exact ⟨rfl, H⟩
  · have h1 : d.dead = false := by simpa using h
    have h2 : d.armed = true ∧ d.fuse = 0 := by simpa [Nv.stops, h1] using hs
    rw [h1, h2.1, h2.2] at H
    refine k_in (N := 37) Try.func70 rfl rfl rfl ?_
    refine k_seq ?_
    refine k_rg ?_
    refine s_run rfl rfl (r_as (v := .bool _) rfl) ?_
    refine k_nil ?_
    refine c_norm ?_
    refine k_seq ?_
    refine k_seq ?_
    refine k_rg ?_
    refine s_run rfl rfl (r_mv (v := .pointer _) rfl) ?_
    refine s_run rfl rfl (r_nc rfl) ?_
    refine s_run rfl rfl (r_fa0 rfl fo114_8) ?_
    refine s_run rfl rfl (r_lo H 0 rfl rfl rfl ag4) ?_
    refine s_run rfl rfl (r_mv (v := .bool _) rfl) ?_
    refine s_run rfl (g_on 7 (by kernel_rfl) rfl) (r_mv (v := .pointer _) rfl) ?_
    refine s_run rfl (g_on 7 (by kernel_rfl) rfl) (r_nc rfl) ?_
    refine s_run rfl (g_on 7 (by kernel_rfl) rfl) (r_fa0 rfl fo114_7) ?_
    refine s_run rfl (g_on 7 (by kernel_rfl) rfl) (r_lo H 0 rfl rfl rfl ag4) ?_
    refine s_run rfl (g_on 7 (by kernel_rfl) rfl) (r_mv (v := .bool _) rfl) ?_
    refine s_run rfl (g_on 12 (by kernel_rfl) rfl) (r_mv (v := .pointer _) rfl) ?_
    refine s_run rfl (g_on 12 (by kernel_rfl) rfl) (r_nc rfl) ?_
    refine s_run rfl (g_on 12 (by kernel_rfl) rfl) (r_fa0 rfl fo114_6) ?_
    refine s_run rfl (g_on 12 (by kernel_rfl) rfl) (r_lo H 0 rfl rfl rfl ag3) ?_
    refine s_run rfl (g_on 12 (by kernel_rfl) rfl) (r_eqlT rfl rfl (by omega)) ?_
    refine s_run rfl (g_on 7 (by kernel_rfl) rfl) (r_pkT (v := .bool _) rfl rfl) ?_
    refine s_run rfl rfl (r_pkF (v := .bool _) rfl rfl) ?_
    refine k_nil ?_
    refine c_norm ?_
    refine k_t rfl ?_
    refine k_seq ?_
    refine k_rg ?_
    refine s_run rfl rfl (r_mv (v := .pointer _) rfl) ?_
    refine s_run rfl rfl (r_nc rfl) ?_
    refine s_run rfl rfl (r_fa0 rfl fo114_8) ?_
    refine s_st (u := .bool _) H 0 rfl rfl rfl rfl rfl rfl sz4 ?_
    intro _ H'; simp only [List.set_cons_zero, List.set_cons_succ, List.take_succ_cons, List.take_zero, List.drop_succ_cons, List.drop_zero, List.cons_append, List.nil_append, List.append_nil, List.length_cons, List.length_nil, Nat.reduceAdd] at H'; clear H; have H := H'; clear H'
    refine k_nil ?_
    refine c_norm ?_
    refine k_seq ?_
    refine k_rg ?_
    refine s_run rfl rfl (r_as (v := .bool _) rfl) ?_
    refine k_nil ?_
    refine c_norm ?_
    refine k_ret ?_
    refine c_ret ?_
    refine fin1r (v := .bool _) rfl rfl ?_
    refine ⟨rfl, ?_⟩
    unfold devL devCells Nv.killed
    rw [h2.1, h2.2]
    exact H
theorem nStep_yes (g : Geo) (d : Nv.D) (w : World) (hE : Ents (devL g d) w) (hs : Nv.stops d = false) :
    Calls Try.prog 70 [ptr g.p].toArray w fun e w' => e = .returned (.bool true) ∧ Heap w (ids (devL g d)) (devL g (Nv.stepped d)) w' := by
  have H := Heap.start hE
  generalize hF : ids (devL g d) = F at H ⊢
  unfold devL devCells at H
  have h1 : d.dead = false ∧ (d.armed = true → ¬ d.fuse = 0) := by simpa [Nv.stops] using hs
  obtain ⟨h1, h2⟩ := h1
  rw [h1] at H
  by_cases h3 : d.armed = true
  · have h4 : ¬ d.fuse = 0 := h2 h3
    rw [h3] at H
    refine k_in (N := 37) Try.func70 rfl rfl rfl ?_
    refine k_seq ?_
    refine k_rg ?_
    refine s_run rfl rfl (r_as (v := .bool _) rfl) ?_
    refine k_nil ?_
    refine c_norm ?_
    refine k_seq ?_
    refine k_seq ?_
    refine k_rg ?_
    refine s_run rfl rfl (r_mv (v := .pointer _) rfl) ?_
    refine s_run rfl rfl (r_nc rfl) ?_
    refine s_run rfl rfl (r_fa0 rfl fo114_8) ?_
    refine s_run rfl rfl (r_lo H 0 rfl rfl rfl ag4) ?_
    refine s_run rfl rfl (r_mv (v := .bool _) rfl) ?_
    refine s_run rfl (g_on 7 (by kernel_rfl) rfl) (r_mv (v := .pointer _) rfl) ?_
    refine s_run rfl (g_on 7 (by kernel_rfl) rfl) (r_nc rfl) ?_
    refine s_run rfl (g_on 7 (by kernel_rfl) rfl) (r_fa0 rfl fo114_7) ?_
    refine s_run rfl (g_on 7 (by kernel_rfl) rfl) (r_lo H 0 rfl rfl rfl ag4) ?_
    refine s_run rfl (g_on 7 (by kernel_rfl) rfl) (r_mv (v := .bool _) rfl) ?_
    refine s_run rfl (g_on 12 (by kernel_rfl) rfl) (r_mv (v := .pointer _) rfl) ?_
    refine s_run rfl (g_on 12 (by kernel_rfl) rfl) (r_nc rfl) ?_
    refine s_run rfl (g_on 12 (by kernel_rfl) rfl) (r_fa0 rfl fo114_6) ?_
    refine s_run rfl (g_on 12 (by kernel_rfl) rfl) (r_lo H 0 rfl rfl rfl ag3) ?_
    refine s_run rfl (g_on 12 (by kernel_rfl) rfl) (r_eqlF rfl rfl (by omega)) ?_
    refine s_run rfl (g_on 7 (by kernel_rfl) rfl) (r_pkT (v := .bool _) rfl rfl) ?_
    refine s_run rfl rfl (r_pkF (v := .bool _) rfl rfl) ?_
    refine k_nil ?_
    refine c_norm ?_
    refine k_f rfl ?_
    refine k_skip ?_
    refine c_norm ?_
    refine k_seq ?_
    refine k_rg ?_
    refine s_run rfl rfl (r_mv (v := .pointer _) rfl) ?_
    refine s_run rfl rfl (r_nc rfl) ?_
    refine s_run rfl rfl (r_fa0 rfl fo114_6) ?_
    refine s_run rfl rfl (r_lo H 0 rfl rfl rfl ag3) ?_
    refine s_run rfl rfl (r_sub rfl rfl rfl) ?_
    refine s_run rfl rfl (r_nc rfl) ?_
    refine s_run rfl rfl (r_fa0 rfl fo114_6) ?_
    refine s_st (u := .int _ _) H 0 rfl rfl rfl rfl rfl rfl sz3 ?_
    intro _ H'; simp only [List.set_cons_zero, List.set_cons_succ, List.take_succ_cons, List.take_zero, List.drop_succ_cons, List.drop_zero, List.cons_append, List.nil_append, List.append_nil, List.length_cons, List.length_nil, Nat.reduceAdd] at H'; clear H; have H := H'; clear H'
    refine k_nil ?_
    refine c_norm ?_
    refine k_seq ?_
    refine k_rg ?_
    refine s_run rfl rfl (r_mv (v := .pointer _) rfl) ?_
    refine s_run rfl rfl (r_nc rfl) ?_
    refine s_run rfl rfl (r_fa0 rfl fo114_5) ?_
    refine s_run rfl rfl (r_lo H 0 rfl rfl rfl ag3) ?_
    refine s_run rfl rfl (r_add rfl rfl rfl) ?_
    refine s_run rfl rfl (r_nc rfl) ?_
    refine s_run rfl rfl (r_fa0 rfl fo114_5) ?_
    refine s_st (u := .int _ _) H 0 rfl rfl rfl rfl rfl rfl sz3 ?_
    intro _ H'; simp only [List.set_cons_zero, List.set_cons_succ, List.take_succ_cons, List.take_zero, List.drop_succ_cons, List.drop_zero, List.cons_append, List.nil_append, List.append_nil, List.length_cons, List.length_nil, Nat.reduceAdd] at H'; clear H; have H := H'; clear H'
    refine k_nil ?_
    refine c_norm ?_
    refine k_seq ?_
    refine k_rg ?_
    refine s_run rfl rfl (r_as (v := .bool _) rfl) ?_
    refine k_nil ?_
    refine c_norm ?_
    refine k_ret ?_
    refine fin1r (v := .bool _) rfl rfl ?_
    refine ⟨rfl, ?_⟩
    unfold devL devCells Nv.stepped
    rw [h1, h3]
    exact H
  · have h3 : d.armed = false := by simpa using h3
    rw [h3] at H
    refine k_in (N := 37) Try.func70 rfl rfl rfl ?_
    refine k_seq ?_
    refine k_rg ?_
    refine s_run rfl rfl (r_as (v := .bool _) rfl) ?_
    refine k_nil ?_
    refine c_norm ?_
    refine k_seq ?_
    refine k_seq ?_
    refine k_rg ?_
    refine s_run rfl rfl (r_mv (v := .pointer _) rfl) ?_
    refine s_run rfl rfl (r_nc rfl) ?_
    refine s_run rfl rfl (r_fa0 rfl fo114_8) ?_
    refine s_run rfl rfl (r_lo H 0 rfl rfl rfl ag4) ?_
    refine s_run rfl rfl (r_mv (v := .bool _) rfl) ?_
    refine s_run rfl (g_on 7 (by kernel_rfl) rfl) (r_mv (v := .pointer _) rfl) ?_
    refine s_run rfl (g_on 7 (by kernel_rfl) rfl) (r_nc rfl) ?_
    refine s_run rfl (g_on 7 (by kernel_rfl) rfl) (r_fa0 rfl fo114_7) ?_
    refine s_run rfl (g_on 7 (by kernel_rfl) rfl) (r_lo H 0 rfl rfl rfl ag4) ?_
    refine s_run rfl (g_on 7 (by kernel_rfl) rfl) (r_mv (v := .bool _) rfl) ?_
    refine s_off rfl (g_off 12 (by kernel_rfl) rfl rfl) ?_
    refine s_off rfl (g_off 12 (by kernel_rfl) rfl rfl) ?_
    refine s_off rfl (g_off 12 (by kernel_rfl) rfl rfl) ?_
    refine s_off rfl (g_off 12 (by kernel_rfl) rfl rfl) ?_
    refine s_off rfl (g_off 12 (by kernel_rfl) rfl rfl) ?_
    refine s_run rfl (g_on 7 (by kernel_rfl) rfl) (r_pkF (v := .bool _) rfl rfl) ?_
    refine s_run rfl rfl (r_pkF (v := .bool _) rfl rfl) ?_
    refine k_nil ?_
    refine c_norm ?_
    refine k_f rfl ?_
    refine k_skip ?_
    refine c_norm ?_
    refine k_seq ?_
    refine k_rg ?_
    refine s_run rfl rfl (r_mv (v := .pointer _) rfl) ?_
    refine s_run rfl rfl (r_nc rfl) ?_
    refine s_run rfl rfl (r_fa0 rfl fo114_6) ?_
    refine s_run rfl rfl (r_lo H 0 rfl rfl rfl ag3) ?_
    refine s_run rfl rfl (r_sub rfl rfl rfl) ?_
    refine s_run rfl rfl (r_nc rfl) ?_
    refine s_run rfl rfl (r_fa0 rfl fo114_6) ?_
    refine s_st (u := .int _ _) H 0 rfl rfl rfl rfl rfl rfl sz3 ?_
    intro _ H'; simp only [List.set_cons_zero, List.set_cons_succ, List.take_succ_cons, List.take_zero, List.drop_succ_cons, List.drop_zero, List.cons_append, List.nil_append, List.append_nil, List.length_cons, List.length_nil, Nat.reduceAdd] at H'; clear H; have H := H'; clear H'
    refine k_nil ?_
    refine c_norm ?_
    refine k_seq ?_
    refine k_rg ?_
    refine s_run rfl rfl (r_mv (v := .pointer _) rfl) ?_
    refine s_run rfl rfl (r_nc rfl) ?_
    refine s_run rfl rfl (r_fa0 rfl fo114_5) ?_
    refine s_run rfl rfl (r_lo H 0 rfl rfl rfl ag3) ?_
    refine s_run rfl rfl (r_add rfl rfl rfl) ?_
    refine s_run rfl rfl (r_nc rfl) ?_
    refine s_run rfl rfl (r_fa0 rfl fo114_5) ?_
    refine s_st (u := .int _ _) H 0 rfl rfl rfl rfl rfl rfl sz3 ?_
    intro _ H'; simp only [List.set_cons_zero, List.set_cons_succ, List.take_succ_cons, List.take_zero, List.drop_succ_cons, List.drop_zero, List.cons_append, List.nil_append, List.append_nil, List.length_cons, List.length_nil, Nat.reduceAdd] at H'; clear H; have H := H'; clear H'
    refine k_nil ?_
    refine c_norm ?_
    refine k_seq ?_
    refine k_rg ?_
    refine s_run rfl rfl (r_as (v := .bool _) rfl) ?_
    refine k_nil ?_
    refine c_norm ?_
    refine k_ret ?_
    refine fin1r (v := .bool _) rfl rfl ?_
    refine ⟨rfl, ?_⟩
    unfold devL devCells Nv.stepped
    rw [h1, h3]
    exact H
end Go.Proofs.Ytmekhdclnhhhbaa
