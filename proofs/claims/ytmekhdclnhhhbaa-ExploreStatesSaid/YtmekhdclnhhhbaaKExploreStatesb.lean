/- Parts of the proof, one behind the other. -/
import Derived.Test.YtmekhdclnhhhbaaKExploreStatesa
section
namespace Go.Proofs.Ytmekhdclnhhhbaa
open Go.RowKit
set_option linter.unusedSimpArgs false
set_option linter.unusedVariables false
/-- where a device lies -/
structure Geo where
  p : Nat
  bl : Nat
  bc : Nat
  bf : Nat
  bd : Nat
  bp : Nat
  cl : Nat
  cc : Nat
  cf : Nat
  cd : Nat
  cp : Nat
def devCells (g : Geo) (d : Nv.D) : List Value :=
  [.slice (some ⟨g.bl, 0, none⟩) d.last.length g.cl, .slice (some ⟨g.bc, 0, none⟩) d.cache.length g.cc, .slice (some ⟨g.bf, 0, none⟩) d.fl.length g.cf, .slice (some ⟨g.bd, 0, none⟩) d.dirty.length g.cd, .slice (some ⟨g.bp, 0, none⟩) d.pend.length g.cp,
   .int .i64 d.steps, .int .i64 d.fuse, .bool d.armed, .bool d.dead]
def devL (g : Geo) (d : Nv.D) : List Ent :=
  [blk g.p (devCells g d) 114, vec (Value.int .u64) g.bl d.last 22, vec (Value.int .u64) g.bc d.cache 22, vec (Value.int .u64) g.bf d.fl 22, vec Value.bool g.bd d.dirty 4, vec Value.bool g.bp d.pend 4]
abbrev ptr (b : Nat) : Value := .pointer (some ⟨b, 0, none⟩)
theorem nStep_no (g : Geo) (d : Nv.D) (w : World) (hE : Ents (devL g d) w) (hs : Nv.stops d = true) :
    Calls Try.prog 70 [ptr g.p].toArray w fun e w' => e = .returned (.bool false) ∧ Heap w (ids (devL g d)) (devL g (Nv.killed d)) w' := by
  have H := Heap.start hE
  generalize hF : ids (devL g d) = F at H ⊢
  unfold devL devCells at H
  by_cases h : d.dead = true
  · rw [h] at H
    refine k_in (N := 37) Try.func70 rfl rfl rfl ?_
    refine k_seq ?_
    refine k_rg ?_
    refine s_run rfl rfl (r_as (v := .bool _) rfl) ?_
    refine k_nil ?_
    refine c_norm ?_
    refine k_seq ?_
    refine k_seq ?_
    refine k_rg ?_
    refine s_run rfl rfl (r_mv (v := .pointer _) rfl) ?_
    refine s_run rfl rfl (r_nc rfl) ?_
    refine s_run rfl rfl (r_fa0 rfl fo114_8) ?_
    refine s_run rfl rfl (r_lo H 0 rfl rfl rfl ag4) ?_
    refine s_run rfl rfl (r_mv (v := .bool _) rfl) ?_
    refine s_off rfl (g_off 7 (by kernel_rfl) rfl rfl) ?_
    refine s_off rfl (g_off 7 (by kernel_rfl) rfl rfl) ?_
    refine s_off rfl (g_off 7 (by kernel_rfl) rfl rfl) ?_
    refine s_off rfl (g_off 7 (by kernel_rfl) rfl rfl) ?_
    refine s_off rfl (g_off 7 (by kernel_rfl) rfl rfl) ?_
    refine s_off rfl (g_un 12 (by kernel_rfl) rfl) ?_
    refine s_off rfl (g_un 12 (by kernel_rfl) rfl) ?_
    refine s_off rfl (g_un 12 (by kernel_rfl) rfl) ?_
    refine s_off rfl (g_un 12 (by kernel_rfl) rfl) ?_
    refine s_off rfl (g_un 12 (by kernel_rfl) rfl) ?_
    refine s_off rfl (g_off 7 (by kernel_rfl) rfl rfl) ?_
    refine s_run rfl rfl (r_pkT (v := .bool _) rfl rfl) ?_
    refine k_nil ?_
    refine c_norm ?_
    refine k_t rfl ?_
    refine k_seq ?_
    refine k_rg ?_
    refine s_run rfl rfl (r_mv (v := .pointer _) rfl) ?_
    refine s_run rfl rfl (r_nc rfl) ?_
    refine s_run rfl rfl (r_fa0 rfl fo114_8) ?_
    refine s_st (u := .bool _) H 0 rfl rfl rfl rfl rfl rfl sz4 ?_
    intro _ H'; simp only [List.set_cons_zero, List.set_cons_succ, List.take_succ_cons, List.take_zero, List.drop_succ_cons, List.drop_zero, List.cons_append, List.nil_append, List.append_nil, List.length_cons, List.length_nil, Nat.reduceAdd] at H'; clear H; have H := H'; clear H'
    refine k_nil ?_
    refine c_norm ?_
    refine k_seq ?_
    refine k_rg ?_
    refine s_run rfl rfl (r_as (v := .bool _) rfl) ?_
    refine k_nil ?_
    refine c_norm ?_
    refine k_ret ?_
    refine c_ret ?_
    refine fin1r (v := .bool _) rfl rfl ?_
    exact ⟨rfl, H⟩
  · have h1 : d.dead = false := by simpa using h
    have h2 : d.armed = true ∧ d.fuse = 0 := by simpa [Nv.stops, h1] using hs
    rw [h1, h2.1, h2.2] at H
    refine k_in (N := 37) Try.func70 rfl rfl rfl ?_
    refine k_seq ?_
    refine k_rg ?_
    refine s_run rfl rfl (r_as (v := .bool _) rfl) ?_
    refine k_nil ?_
    refine c_norm ?_
    refine k_seq ?_
    refine k_seq ?_
    refine k_rg ?_
    refine s_run rfl rfl (r_mv (v := .pointer _) rfl) ?_
    refine s_run rfl rfl (r_nc rfl) ?_
    refine s_run rfl rfl (r_fa0 rfl fo114_8) ?_
    refine s_run rfl rfl (r_lo H 0 rfl rfl rfl ag4) ?_
    refine s_run rfl rfl (r_mv (v := .bool _) rfl) ?_
    refine s_run rfl (g_on 7 (by kernel_rfl) rfl) (r_mv (v := .pointer _) rfl) ?_
    refine s_run rfl (g_on 7 (by kernel_rfl) rfl) (r_nc rfl) ?_
    refine s_run rfl (g_on 7 (by kernel_rfl) rfl) (r_fa0 rfl fo114_7) ?_
    refine s_run rfl (g_on 7 (by kernel_rfl) rfl) (r_lo H 0 rfl rfl rfl ag4) ?_
    refine s_run rfl (g_on 7 (by kernel_rfl) rfl) (r_mv (v := .bool _) rfl) ?_
    refine s_run rfl (g_on 12 (by kernel_rfl) rfl) (r_mv (v := .pointer _) rfl) ?_
    refine s_run rfl (g_on 12 (by kernel_rfl) rfl) (r_nc rfl) ?_
    refine s_run rfl (g_on 12 (by kernel_rfl) rfl) (r_fa0 rfl fo114_6) ?_
    refine s_run rfl (g_on 12 (by kernel_rfl) rfl) (r_lo H 0 rfl rfl rfl ag3) ?_
    refine s_run rfl (g_on 12 (by kernel_rfl) rfl) (r_eqlT rfl rfl (by omega)) ?_
    refine s_run rfl (g_on 7 (by kernel_rfl) rfl) (r_pkT (v := .bool _) rfl rfl) ?_
    refine s_run rfl rfl (r_pkF (v := .bool _) rfl rfl) ?_
    refine k_nil ?_
    refine c_norm ?_
    refine k_t rfl ?_
    refine k_seq ?_
    refine k_rg ?_
    refine s_run rfl rfl (r_mv (v := .pointer _) rfl) ?_
    refine s_run rfl rfl (r_nc rfl) ?_
    refine s_run rfl rfl (r_fa0 rfl fo114_8) ?_
    refine s_st (u := .bool _) H 0 rfl rfl rfl rfl rfl rfl sz4 ?_
    intro _ H'; simp only [List.set_cons_zero, List.set_cons_succ, List.take_succ_cons, List.take_zero, List.drop_succ_cons, List.drop_zero, List.cons_append, List.nil_append, List.append_nil, List.length_cons, List.length_nil, Nat.reduceAdd] at H'; clear H; have H := H'; clear H'
    refine k_nil ?_
    refine c_norm ?_
    refine k_seq ?_
    refine k_rg ?_
    refine s_run rfl rfl (r_as (v := .bool _) rfl) ?_
    refine k_nil ?_
    refine c_norm ?_
    refine k_ret ?_
    refine c_ret ?_
    refine fin1r (v := .bool _) rfl rfl ?_
    refine ⟨rfl, ?_⟩
    unfold devL devCells Nv.killed
    rw [h2.1, h2.2]
    exact H
theorem nStep_yes (g : Geo) (d : Nv.D) (w : World) (hE : Ents (devL g d) w) (hs : Nv.stops d = false) :
    Calls Try.prog 70 [ptr g.p].toArray w fun e w' => e = .returned (.bool true) ∧ Heap w (ids (devL g d)) (devL g (Nv.stepped d)) w' := by
  have H := Heap.start hE
  generalize hF : ids (devL g d) = F at H ⊢
  unfold devL devCells at H
  have h1 : d.dead = false ∧ (d.armed = true → ¬ d.fuse = 0) := by simpa [Nv.stops] using hs
  obtain ⟨h1, h2⟩ := h1
  rw [h1] at H
  by_cases h3 : d.armed = true
  · have h4 : ¬ d.fuse = 0 := h2 h3
    rw [h3] at H
    refine k_in (N := 37) Try.func70 rfl rfl rfl ?_
    refine k_seq ?_
    refine k_rg ?_
    refine s_run rfl rfl (r_as (v := .bool _) rfl) ?_
    refine k_nil ?_
    refine c_norm ?_
    refine k_seq ?_
    refine k_seq ?_
    refine k_rg ?_
    refine s_run rfl rfl (r_mv (v := .pointer _) rfl) ?_
    refine s_run rfl rfl (r_nc rfl) ?_
    refine s_run rfl rfl (r_fa0 rfl fo114_8) ?_
    refine s_run rfl rfl (r_lo H 0 rfl rfl rfl ag4) ?_
    refine s_run rfl rfl (r_mv (v := .bool _) rfl) ?_
    refine s_run rfl (g_on 7 (by kernel_rfl) rfl) (r_mv (v := .pointer _) rfl) ?_
    refine s_run rfl (g_on 7 (by kernel_rfl) rfl) (r_nc rfl) ?_
    refine s_run rfl (g_on 7 (by kernel_rfl) rfl) (r_fa0 rfl fo114_7) ?_
    refine s_run rfl (g_on 7 (by kernel_rfl) rfl) (r_lo H 0 rfl rfl rfl ag4) ?_
    refine s_run rfl (g_on 7 (by kernel_rfl) rfl) (r_mv (v := .bool _) rfl) ?_
    refine s_run rfl (g_on 12 (by kernel_rfl) rfl) (r_mv (v := .pointer _) rfl) ?_
    refine s_run rfl (g_on 12 (by kernel_rfl) rfl) (r_nc rfl) ?_
    refine s_run rfl (g_on 12 (by kernel_rfl) rfl) (r_fa0 rfl fo114_6) ?_
    refine s_run rfl (g_on 12 (by kernel_rfl) rfl) (r_lo H 0 rfl rfl rfl ag3) ?_
    refine s_run rfl (g_on 12 (by kernel_rfl) rfl) (r_eqlF rfl rfl (by omega)) ?_
    refine s_run rfl (g_on 7 (by kernel_rfl) rfl) (r_pkT (v := .bool _) rfl rfl) ?_
    refine s_run rfl rfl (r_pkF (v := .bool _) rfl rfl) ?_
    refine k_nil ?_
    refine c_norm ?_
    refine k_f rfl ?_
    refine k_skip ?_
    refine c_norm ?_
    refine k_seq ?_
    refine k_rg ?_
    refine s_run rfl rfl (r_mv (v := .pointer _) rfl) ?_
    refine s_run rfl rfl (r_nc rfl) ?_
    refine s_run rfl rfl (r_fa0 rfl fo114_6) ?_
    refine s_run rfl rfl (r_lo H 0 rfl rfl rfl ag3) ?_
    refine s_run rfl rfl (r_sub rfl rfl rfl) ?_
    refine s_run rfl rfl (r_nc rfl) ?_
    refine s_run rfl rfl (r_fa0 rfl fo114_6) ?_
    refine s_st (u := .int _ _) H 0 rfl rfl rfl rfl rfl rfl sz3 ?_
    intro _ H'; simp only [List.set_cons_zero, List.set_cons_succ, List.take_succ_cons, List.take_zero, List.drop_succ_cons, List.drop_zero, List.cons_append, List.nil_append, List.append_nil, List.length_cons, List.length_nil, Nat.reduceAdd] at H'; clear H; have H := H'; clear H'
    refine k_nil ?_
    refine c_norm ?_
    refine k_seq ?_
    refine k_rg ?_
    refine s_run rfl rfl (r_mv (v := .pointer _) rfl) ?_
    refine s_run rfl rfl (r_nc rfl) ?_
    refine s_run rfl rfl (r_fa0 rfl fo114_5) ?_
    refine s_run rfl rfl (r_lo H 0 rfl rfl rfl ag3) ?_
    refine s_run rfl rfl (r_add rfl rfl rfl) ?_
    refine s_run rfl rfl (r_nc rfl) ?_
    refine s_run rfl rfl (r_fa0 rfl fo114_5) ?_
    refine s_st (u := .int _ _) H 0 rfl rfl rfl rfl rfl rfl sz3 ?_
    intro _ H'; simp only [List.set_cons_zero, List.set_cons_succ, List.take_succ_cons, List.take_zero, List.drop_succ_cons, List.drop_zero, List.cons_append, List.nil_append, List.append_nil, List.length_cons, List.length_nil, Nat.reduceAdd] at H'; clear H; have H := H'; clear H'
    refine k_nil ?_
    refine c_norm ?_
    refine k_seq ?_
    refine k_rg ?_
    refine s_run rfl rfl (r_as (v := .bool _) rfl) ?_
    refine k_nil ?_
    refine c_norm ?_
    refine k_ret ?_
    refine fin1r (v := .bool _) rfl rfl ?_
    refine ⟨rfl, ?_⟩
    unfold devL devCells Nv.stepped
    rw [h1, h3]
    exact H
  · have h3 : d.armed = false := by simpa using h3
    rw [h3] at H
    refine k_in (N := 37) Try.func70 rfl rfl rfl ?_
    refine k_seq ?_
    refine k_rg ?_
    refine s_run rfl rfl (r_as (v := .bool _) rfl) ?_
    refine k_nil ?_
    refine c_norm ?_
    refine k_seq ?_
    refine k_seq ?_
    refine k_rg ?_
    refine s_run rfl rfl (r_mv (v := .pointer _) rfl) ?_
    refine s_run rfl rfl (r_nc rfl) ?_
    refine s_run rfl rfl (r_fa0 rfl fo114_8) ?_
    refine s_run rfl rfl (r_lo H 0 rfl rfl rfl ag4) ?_
    refine s_run rfl rfl (r_mv (v := .bool _) rfl) ?_
    refine s_run rfl (g_on 7 (by kernel_rfl) rfl) (r_mv (v := .pointer _) rfl) ?_
    refine s_run rfl (g_on 7 (by kernel_rfl) rfl) (r_nc rfl) ?_
    refine s_run rfl (g_on 7 (by kernel_rfl) rfl) (r_fa0 rfl fo114_7) ?_
    refine s_run rfl (g_on 7 (by kernel_rfl) rfl) (r_lo H 0 rfl rfl rfl ag4) ?_
    refine s_run rfl (g_on 7 (by kernel_rfl) rfl) (r_mv (v := .bool _) rfl) ?_
    refine s_off rfl (g_off 12 (by kernel_rfl) rfl rfl) ?_
    refine s_off rfl (g_off 12 (by kernel_rfl) rfl rfl) ?_
    refine s_off rfl (g_off 12 (by kernel_rfl) rfl rfl) ?_
    refine s_off rfl (g_off 12 (by kernel_rfl) rfl rfl) ?_
    refine s_off rfl (g_off 12 (by kernel_rfl) rfl rfl) ?_
    refine s_run rfl (g_on 7 (by kernel_rfl) rfl) (r_pkF (v := .bool _) rfl rfl) ?_
    refine s_run rfl rfl (r_pkF (v := .bool _) rfl rfl) ?_
    refine k_nil ?_
    refine c_norm ?_
    refine k_f rfl ?_
    refine k_skip ?_
    refine c_norm ?_
    refine k_seq ?_
    refine k_rg ?_
    refine s_run rfl rfl (r_mv (v := .pointer _) rfl) ?_
    refine s_run rfl rfl (r_nc rfl) ?_
    refine s_run rfl rfl (r_fa0 rfl fo114_6) ?_
    refine s_run rfl rfl (r_lo H 0 rfl rfl rfl ag3) ?_
    refine s_run rfl rfl (r_sub rfl rfl rfl) ?_
    refine s_run rfl rfl (r_nc rfl) ?_
    refine s_run rfl rfl (r_fa0 rfl fo114_6) ?_
    refine s_st (u := .int _ _) H 0 rfl rfl rfl rfl rfl rfl sz3 ?_
    intro _ H'; simp only [List.set_cons_zero, List.set_cons_succ, List.take_succ_cons, List.take_zero, List.drop_succ_cons, List.drop_zero, List.cons_append, List.nil_append, List.append_nil, List.length_cons, List.length_nil, Nat.reduceAdd] at H'; clear H; have H := H'; clear H'
    refine k_nil ?_
    refine c_norm ?_
    refine k_seq ?_
    refine k_rg ?_
    refine s_run rfl rfl (r_mv (v := .pointer _) rfl) ?_
    refine s_run rfl rfl (r_nc rfl) ?_
    refine s_run rfl rfl (r_fa0 rfl fo114_5) ?_
    refine s_run rfl rfl (r_lo H 0 rfl rfl rfl ag3) ?_
    refine s_run rfl rfl (r_add rfl rfl rfl) ?_
    refine s_run rfl rfl (r_nc rfl) ?_
    refine s_run rfl rfl (r_fa0 rfl fo114_5) ?_
    refine s_st (u := .int _ _) H 0 rfl rfl rfl rfl rfl rfl sz3 ?_
    intro _ H'; simp only [List.set_cons_zero, List.set_cons_succ, List.take_succ_cons, List.take_zero, List.drop_succ_cons, List.drop_zero, List.cons_append, List.nil_append, List.append_nil, List.length_cons, List.length_nil, Nat.reduceAdd] at H'; clear H; have H := H'; clear H'
    refine k_nil ?_
    refine c_norm ?_
    refine k_seq ?_
    refine k_rg ?_
    refine s_run rfl rfl (r_as (v := .bool _) rfl) ?_
    refine k_nil ?_
    refine c_norm ?_
    refine k_ret ?_
    refine fin1r (v := .bool _) rfl rfl ?_
    refine ⟨rfl, ?_⟩
    unfold devL devCells Nv.stepped
    rw [h1, h3]
    exact H
end Go.Proofs.Ytmekhdclnhhhbaa
end

section
namespace Go.Proofs.Ytmekhdclnhhhbaa
open Go.RowKit
set_option linter.unusedSimpArgs false
set_option linter.unusedVariables false
/-- the rows have room -/
structure GOk (g : Geo) (m : Nat) : Prop where
  l : 8 * m ≤ g.cl ∧ g.cl ≤ 9223372036854775807
  c : 8 * m ≤ g.cc ∧ g.cc ≤ 9223372036854775807
  f : 8 * m ≤ g.cf ∧ g.cf ≤ 9223372036854775807
  d : m ≤ g.cd ∧ g.cd ≤ 9223372036854775807
  p : m ≤ g.cp ∧ g.cp ≤ 9223372036854775807
theorem nPart (b c i : Nat) (l : Nat) (P : Option Addr) (w : World) (h : 8 * i + 8 ≤ c ∧ c ≤ 9223372036854775807) :
    Calls Try.prog 77 [.pointer P, .slice (some ⟨b, 0, none⟩) l c, .int .i64 i].toArray w fun e w' => e = .returned (.slice (some ⟨b, 8 * i, none⟩) 8 (c - 8 * i)) ∧ Only [] w w' := by
  have H := Heap.nil w
  refine k_in (N := 14) Try.func77 rfl rfl rfl ?_
  refine k_seq ?_
  refine k_rg ?_
  refine s_run rfl rfl (r_as (v := .slice _ _ _) rfl) ?_
  refine k_nil ?_
  refine c_norm ?_
  refine k_seq ?_
  refine k_rg ?_
  refine s_run rfl rfl (r_mv (v := .slice _ _ _) rfl) ?_
  refine s_run rfl rfl (r_mv (v := .int _ _) rfl) ?_
  refine s_run rfl rfl (r_mul rfl rfl (wI (by omega))) ?_
  refine s_run rfl rfl (r_mv (v := .int _ _) rfl) ?_
  refine s_run rfl rfl (r_add rfl rfl (wI (by omega))) ?_
  refine s_run rfl rfl (r_mul rfl rfl (wI (by omega))) ?_
  refine s_run rfl rfl (r_sl (i := 8 * i) (j := 8 * i + 8) rfl rfl rfl (by omega) (by omega) (by omega) Try.underlying25 sz22) ?_
  refine s_run rfl rfl (r_as (v := .slice _ _ _) rfl) ?_
  refine k_nil ?_
  refine c_norm ?_
  refine k_ret ?_
  refine fin1r (v := .slice _ _ _) rfl rfl ?_
  refine ⟨?_, H.only⟩
  have h1 : ¬ c = 8 * i := by omega
  rw [if_neg h1, show 8 * i + 8 - 8 * i = 8 from by omega, Nat.mul_one, Nat.zero_add]
theorem nStore (g : Geo) (d : Nv.D) (m : Nat) (a v : Int) (w : World) (hE : Ents (devL g d) w) (ho : Nv.Ok d m) (hm : m ≤ 100000) :
    Calls Try.prog 30 [ptr g.p, .int .i64 a, .int .u64 v].toArray w fun e w' => e = .returned (.int .i64 (Nv.store d m a v).2) ∧ Heap w (ids (devL g d)) (devL g (Nv.store d m a v).1) w' := by
  have H0 := Heap.start hE
  have hc := ho.hc
  by_cases hin : 0 ≤ a ∧ a < 8 * (m : Int)
  · by_cases hs : Nv.stops d = true
    · have er : Nv.store d m a v = (Nv.killed d, 3) := by rw [Nv.store, if_pos hin, if_pos hs]
      rw [er]
      generalize hF : ids (devL g d) = F at H0 ⊢
      have H := H0
      unfold devL devCells at H
      refine k_in (N := 37) Try.func30 rfl rfl rfl ?_
      refine k_seq ?_
      refine k_rg ?_
      refine s_run rfl rfl (r_as (v := .int _ _) rfl) ?_
      refine k_nil ?_
      refine c_norm ?_
      refine k_seq ?_
      refine k_b ?_
      refine k_seq ?_
      refine k_rg ?_
      refine s_run rfl rfl (r_mv (v := .int _ _) rfl) ?_
      refine s_run rfl rfl (r_lssF rfl rfl (by omega)) ?_
      refine s_run rfl rfl (r_mv (v := .bool _) rfl) ?_
      refine s_run rfl (g_on 10 (by kernel_rfl) rfl) (r_mv (v := .int _ _) rfl) ?_
      refine s_run rfl (g_on 10 (by kernel_rfl) rfl) (r_mv (v := .pointer _) rfl) ?_
      refine s_run rfl (g_on 10 (by kernel_rfl) rfl) (r_nc rfl) ?_
      refine s_run rfl (g_on 10 (by kernel_rfl) rfl) (r_fa0 rfl fo114_1) ?_
      refine s_run rfl (g_on 10 (by kernel_rfl) rfl) (r_lo H 0 rfl rfl rfl ag25) ?_
      refine s_run rfl (g_on 10 (by kernel_rfl) rfl) (r_len rfl Try.underlying25) ?_
      refine s_run rfl (g_on 10 (by kernel_rfl) rfl) (r_geqF rfl rfl (by omega)) ?_
      refine s_run rfl rfl (r_pkF (v := .bool _) rfl rfl) ?_
      refine s_run rfl rfl (r_as (v := .bool _) rfl) ?_
      refine k_nil ?_
      refine c_norm ?_
      refine k_f rfl ?_
      refine k_seq ?_
      refine k_rg ?_
      refine s_run rfl rfl (r_mv (v := .pointer _) rfl) ?_
      refine s_call rfl (nStep_no g d _ H0.ents hs) (ca70 rfl) ?_
      rintro e W1 ⟨rfl, H'⟩
      refine ⟨_, rfl, ?_⟩
      have H := H0.whole H'
      refine s_run rfl rfl (r_notF rfl) ?_
      refine s_run rfl rfl (r_as (v := .bool _) rfl) ?_
      refine k_nil ?_
      refine c_norm ?_
      refine k_t rfl ?_
      refine k_seq ?_
      refine k_rg ?_
      refine s_run rfl rfl (r_as (v := .int _ _) rfl) ?_
      refine k_nil ?_
      refine c_norm ?_
      refine k_ret ?_
      refine b_ret ?_
      refine c_ret ?_
      refine fin1r (v := .int _ _) rfl rfl ?_
      exact ⟨rfl, H⟩
    · have hs : Nv.stops d = false := by simpa using hs
      have er : Nv.store d m a v = (Nv.put (Nv.stepped d) a.toNat v, 0) := by rw [Nv.store, if_pos hin, if_neg (by simp [hs])]
      rw [er]
      obtain ⟨i, rfl⟩ : ∃ i : Nat, a = (i : Int) := ⟨a.toNat, by omega⟩
      rw [Int.toNat_natCast]
      have hd := ho.hd
      generalize hF : ids (devL g d) = F at H0 ⊢
      have H := H0
      unfold devL devCells at H
      refine k_in (N := 37) Try.func30 rfl rfl rfl ?_
      refine k_seq ?_
      refine k_rg ?_
      refine s_run rfl rfl (r_as (v := .int _ _) rfl) ?_
      refine k_nil ?_
      refine c_norm ?_
      refine k_seq ?_
      refine k_b ?_
      refine k_seq ?_
      refine k_rg ?_
      refine s_run rfl rfl (r_mv (v := .int _ _) rfl) ?_
      refine s_run rfl rfl (r_lssF rfl rfl (by omega)) ?_
      refine s_run rfl rfl (r_mv (v := .bool _) rfl) ?_
      refine s_run rfl (g_on 10 (by kernel_rfl) rfl) (r_mv (v := .int _ _) rfl) ?_
      refine s_run rfl (g_on 10 (by kernel_rfl) rfl) (r_mv (v := .pointer _) rfl) ?_
      refine s_run rfl (g_on 10 (by kernel_rfl) rfl) (r_nc rfl) ?_
      refine s_run rfl (g_on 10 (by kernel_rfl) rfl) (r_fa0 rfl fo114_1) ?_
      refine s_run rfl (g_on 10 (by kernel_rfl) rfl) (r_lo H 0 rfl rfl rfl ag25) ?_
      refine s_run rfl (g_on 10 (by kernel_rfl) rfl) (r_len rfl Try.underlying25) ?_
      refine s_run rfl (g_on 10 (by kernel_rfl) rfl) (r_geqF rfl rfl (by omega)) ?_
      refine s_run rfl rfl (r_pkF (v := .bool _) rfl rfl) ?_
      refine s_run rfl rfl (r_as (v := .bool _) rfl) ?_
      refine k_nil ?_
      refine c_norm ?_
      refine k_f rfl ?_
      refine k_seq ?_
      refine k_rg ?_
      refine s_run rfl rfl (r_mv (v := .pointer _) rfl) ?_
      refine s_call rfl (nStep_yes g d _ H0.ents hs) (ca70 rfl) ?_
      rintro e W1 ⟨rfl, H'⟩
      refine ⟨_, rfl, ?_⟩
      have H := H0.whole H'; unfold devL devCells Nv.stepped at H; simp only at H
      refine s_run rfl rfl (r_notT rfl) ?_
      refine s_run rfl rfl (r_as (v := .bool _) rfl) ?_
      refine k_nil ?_
      refine c_norm ?_
      refine k_f rfl ?_
      refine k_skip ?_
      refine b_norm ?_
      refine c_norm ?_
      refine k_seq ?_
      refine k_rg ?_
      refine s_run rfl rfl (r_mv (v := .pointer _) rfl) ?_
      refine s_run rfl rfl (r_nc rfl) ?_
      refine s_run rfl rfl (r_fa0 rfl fo114_1) ?_
      refine s_run rfl rfl (r_lo H 0 rfl rfl rfl ag25) ?_
      refine s_run rfl rfl (r_mv (v := .int _ _) rfl) ?_
      refine s_run rfl rfl (r_mv (v := .int _ _) rfl) ?_
      refine s_run rfl rfl (r_ix1 rfl rfl rfl (by omega) Try.underlying25 sz22) ?_
      refine s_sv (u := .int _ _) H 2 rfl rfl rfl rfl rfl (by omega) (fun _ => rfl) sz22 ?_
      intro _ H'; simp only [List.set_cons_zero, List.set_cons_succ, List.take_succ_cons, List.take_zero, List.drop_succ_cons, List.drop_zero, List.cons_append, List.nil_append, List.append_nil, List.length_cons, List.length_nil, Nat.reduceAdd] at H'; clear H; have H := H'; clear H'
      refine k_nil ?_
      refine c_norm ?_
      refine k_seq ?_
      refine k_rg ?_
      refine s_run rfl rfl (r_mv (v := .pointer _) rfl) ?_
      refine s_run rfl rfl (r_nc rfl) ?_
      refine s_run rfl rfl (r_fa0 rfl fo114_3) ?_
      refine s_run rfl rfl (r_lo H 0 rfl rfl rfl ag53) ?_
      refine s_run rfl rfl (r_mv (v := .int _ _) rfl) ?_
      refine s_run rfl rfl (r_quo rfl rfl (by omega) (wI (by omega))) ?_
      refine s_run rfl rfl (r_ix1 (i := i / 8) rfl rfl (by omega) (by omega) Try.underlying53 sz4) ?_
      refine s_sv (u := .bool _) H 4 rfl rfl rfl rfl rfl (by omega) (fun _ => rfl) sz4 ?_
      intro _ H'; simp only [List.set_cons_zero, List.set_cons_succ, List.take_succ_cons, List.take_zero, List.drop_succ_cons, List.drop_zero, List.cons_append, List.nil_append, List.append_nil, List.length_cons, List.length_nil, Nat.reduceAdd] at H'; clear H; have H := H'; clear H'
      refine k_nil ?_
      refine c_norm ?_
      refine k_seq ?_
      refine k_rg ?_
      refine s_run rfl rfl (r_as (v := .int _ _) rfl) ?_
      refine k_nil ?_
      refine c_norm ?_
      refine k_ret ?_
      refine fin1r (v := .int _ _) rfl rfl ?_
      refine ⟨rfl, ?_⟩
      unfold devL devCells Nv.put Nv.stepped
      simpa using H
  · have er : Nv.store d m a v = (d, 2) := by rw [Nv.store, if_neg hin]
    rw [er]
    generalize hF : ids (devL g d) = F at H0 ⊢
    have H := H0
    unfold devL devCells at H
    by_cases h1 : a < 0
    · refine k_in (N := 37) Try.func30 rfl rfl rfl ?_
      refine k_seq ?_
      refine k_rg ?_
      refine s_run rfl rfl (r_as (v := .int _ _) rfl) ?_
      refine k_nil ?_
      refine c_norm ?_
      refine k_seq ?_
      refine k_b ?_
      refine k_seq ?_
      refine k_rg ?_
      refine s_run rfl rfl (r_mv (v := .int _ _) rfl) ?_
      refine s_run rfl rfl (r_lssT rfl rfl (by omega)) ?_
      refine s_run rfl rfl (r_mv (v := .bool _) rfl) ?_
      refine s_off rfl (g_off 10 (by kernel_rfl) rfl rfl) ?_
      refine s_off rfl (g_off 10 (by kernel_rfl) rfl rfl) ?_
      refine s_off rfl (g_off 10 (by kernel_rfl) rfl rfl) ?_
      refine s_off rfl (g_off 10 (by kernel_rfl) rfl rfl) ?_
      refine s_off rfl (g_off 10 (by kernel_rfl) rfl rfl) ?_
      refine s_off rfl (g_off 10 (by kernel_rfl) rfl rfl) ?_
      refine s_off rfl (g_off 10 (by kernel_rfl) rfl rfl) ?_
      refine s_run rfl rfl (r_pkT (v := .bool _) rfl rfl) ?_
      refine s_run rfl rfl (r_as (v := .bool _) rfl) ?_
      refine k_nil ?_
      refine c_norm ?_
      refine k_t rfl ?_
      refine k_seq ?_
      refine k_rg ?_
      refine s_run rfl rfl (r_as (v := .int _ _) rfl) ?_
      refine k_nil ?_
      refine c_norm ?_
      refine k_ret ?_
      refine b_ret ?_
      refine c_ret ?_
      refine fin1r (v := .int _ _) rfl rfl ?_
      exact ⟨rfl, H⟩
    · refine k_in (N := 37) Try.func30 rfl rfl rfl ?_
      refine k_seq ?_
      refine k_rg ?_
      refine s_run rfl rfl (r_as (v := .int _ _) rfl) ?_
      refine k_nil ?_
      refine c_norm ?_
      refine k_seq ?_
      refine k_b ?_
      refine k_seq ?_
      refine k_rg ?_
      refine s_run rfl rfl (r_mv (v := .int _ _) rfl) ?_
      refine s_run rfl rfl (r_lssF rfl rfl (by omega)) ?_
      refine s_run rfl rfl (r_mv (v := .bool _) rfl) ?_
      refine s_run rfl (g_on 10 (by kernel_rfl) rfl) (r_mv (v := .int _ _) rfl) ?_
      refine s_run rfl (g_on 10 (by kernel_rfl) rfl) (r_mv (v := .pointer _) rfl) ?_
      refine s_run rfl (g_on 10 (by kernel_rfl) rfl) (r_nc rfl) ?_
      refine s_run rfl (g_on 10 (by kernel_rfl) rfl) (r_fa0 rfl fo114_1) ?_
      refine s_run rfl (g_on 10 (by kernel_rfl) rfl) (r_lo H 0 rfl rfl rfl ag25) ?_
      refine s_run rfl (g_on 10 (by kernel_rfl) rfl) (r_len rfl Try.underlying25) ?_
      refine s_run rfl (g_on 10 (by kernel_rfl) rfl) (r_geqT rfl rfl (by omega)) ?_
      refine s_run rfl rfl (r_pkF (v := .bool _) rfl rfl) ?_
      refine s_run rfl rfl (r_as (v := .bool _) rfl) ?_
      refine k_nil ?_
      refine c_norm ?_
      refine k_t rfl ?_
      refine k_seq ?_
      refine k_rg ?_
      refine s_run rfl rfl (r_as (v := .int _ _) rfl) ?_
      refine k_nil ?_
      refine c_norm ?_
      refine k_ret ?_
      refine b_ret ?_
      refine c_ret ?_
      refine fin1r (v := .int _ _) rfl rfl ?_
      exact ⟨rfl, H⟩
end Go.Proofs.Ytmekhdclnhhhbaa
end

section
namespace Go.Proofs.Ytmekhdclnhhhbaa
open Go.RowKit
set_option linter.unusedSimpArgs false
set_option linter.unusedVariables false
theorem nGet (g : Geo) (d : Nv.D) (a : Int) (w : World) (hE : Ents (devL g d) w) :
    Calls Try.prog 25 [ptr g.p, .int .i64 a].toArray w fun e w' => e = .returned (.int .u64 (Nv.get d.cache a)) ∧ Only [] w w' := by
  have H := Heap.start hE
  generalize hF : ids (devL g d) = F at H
  unfold devL devCells at H
  unfold Nv.get
  by_cases hin : 0 ≤ a ∧ a < (d.cache.length : Int)
  · rw [if_pos hin]
    obtain ⟨i, rfl⟩ : ∃ i : Nat, a = (i : Int) := ⟨a.toNat, by omega⟩
    rw [Int.toNat_natCast]
    refine k_in (N := 23) Try.func25 rfl rfl rfl ?_
    refine k_seq ?_
    refine k_rg ?_
    refine s_run rfl rfl (r_as (v := .int _ _) rfl) ?_
    refine k_nil ?_
    refine c_norm ?_
    refine k_seq ?_
    refine k_seq ?_
    refine k_rg ?_
    refine s_run rfl rfl (r_mv (v := .int _ _) rfl) ?_
    refine s_run rfl rfl (r_lssF rfl rfl (by omega)) ?_
    refine s_run rfl rfl (r_mv (v := .bool _) rfl) ?_
    refine s_run rfl (g_on 7 (by kernel_rfl) rfl) (r_mv (v := .int _ _) rfl) ?_
    refine s_run rfl (g_on 7 (by kernel_rfl) rfl) (r_mv (v := .pointer _) rfl) ?_
    refine s_run rfl (g_on 7 (by kernel_rfl) rfl) (r_nc rfl) ?_
    refine s_run rfl (g_on 7 (by kernel_rfl) rfl) (r_fa0 rfl fo114_1) ?_
    refine s_run rfl (g_on 7 (by kernel_rfl) rfl) (r_lo H 0 rfl rfl rfl ag25) ?_
    refine s_run rfl (g_on 7 (by kernel_rfl) rfl) (r_len rfl Try.underlying25) ?_
    refine s_run rfl (g_on 7 (by kernel_rfl) rfl) (r_geqF rfl rfl (by omega)) ?_
    refine s_run rfl rfl (r_pkF (v := .bool _) rfl rfl) ?_
    refine k_nil ?_
    refine c_norm ?_
    refine k_f rfl ?_
    refine k_skip ?_
    refine c_norm ?_
    refine k_seq ?_
    refine k_rg ?_
    refine s_run rfl rfl (r_mv (v := .pointer _) rfl) ?_
    refine s_run rfl rfl (r_nc rfl) ?_
    refine s_run rfl rfl (r_fa0 rfl fo114_1) ?_
    refine s_run rfl rfl (r_lo H 0 rfl rfl rfl ag25) ?_
    refine s_run rfl rfl (r_mv (v := .int _ _) rfl) ?_
    refine s_run rfl rfl (r_ix1 rfl rfl rfl (by omega) Try.underlying25 sz22) ?_
    refine s_run rfl rfl (r_lv H 2 rfl rfl (getE (by omega)) ag22) ?_
    refine s_run rfl rfl (r_as (v := .int _ _) rfl) ?_
    refine k_nil ?_
    refine c_norm ?_
    refine k_ret ?_
    refine fin1r (v := .int _ _) rfl rfl ?_
    exact ⟨rfl, Only.refl _ _⟩
  · rw [if_neg hin]
    by_cases h1 : a < 0
    · refine k_in (N := 23) Try.func25 rfl rfl rfl ?_
      refine k_seq ?_
      refine k_rg ?_
      refine s_run rfl rfl (r_as (v := .int _ _) rfl) ?_
      refine k_nil ?_
      refine c_norm ?_
      refine k_seq ?_
      refine k_seq ?_
      refine k_rg ?_
      refine s_run rfl rfl (r_mv (v := .int _ _) rfl) ?_
      refine s_run rfl rfl (r_lssT rfl rfl (by omega)) ?_
      refine s_run rfl rfl (r_mv (v := .bool _) rfl) ?_
      refine s_off rfl (g_off 7 (by kernel_rfl) rfl rfl) ?_
      refine s_off rfl (g_off 7 (by kernel_rfl) rfl rfl) ?_
      refine s_off rfl (g_off 7 (by kernel_rfl) rfl rfl) ?_
      refine s_off rfl (g_off 7 (by kernel_rfl) rfl rfl) ?_
      refine s_off rfl (g_off 7 (by kernel_rfl) rfl rfl) ?_
      refine s_off rfl (g_off 7 (by kernel_rfl) rfl rfl) ?_
      refine s_off rfl (g_off 7 (by kernel_rfl) rfl rfl) ?_
      refine s_run rfl rfl (r_pkT (v := .bool _) rfl rfl) ?_
      refine k_nil ?_
      refine c_norm ?_
      refine k_t rfl ?_
      refine k_seq ?_
      refine k_rg ?_
      refine s_run rfl rfl (r_as (v := .int _ _) rfl) ?_
      refine k_nil ?_
      refine c_norm ?_
      refine k_ret ?_
      refine c_ret ?_
      refine fin1r (v := .int _ _) rfl rfl ?_
      exact ⟨rfl, Only.refl _ _⟩
    · refine k_in (N := 23) Try.func25 rfl rfl rfl ?_
      refine k_seq ?_
      refine k_rg ?_
      refine s_run rfl rfl (r_as (v := .int _ _) rfl) ?_
      refine k_nil ?_
      refine c_norm ?_
      refine k_seq ?_
      refine k_seq ?_
      refine k_rg ?_
      refine s_run rfl rfl (r_mv (v := .int _ _) rfl) ?_
      refine s_run rfl rfl (r_lssF rfl rfl (by omega)) ?_
      refine s_run rfl rfl (r_mv (v := .bool _) rfl) ?_
      refine s_run rfl (g_on 7 (by kernel_rfl) rfl) (r_mv (v := .int _ _) rfl) ?_
      refine s_run rfl (g_on 7 (by kernel_rfl) rfl) (r_mv (v := .pointer _) rfl) ?_
      refine s_run rfl (g_on 7 (by kernel_rfl) rfl) (r_nc rfl) ?_
      refine s_run rfl (g_on 7 (by kernel_rfl) rfl) (r_fa0 rfl fo114_1) ?_
      refine s_run rfl (g_on 7 (by kernel_rfl) rfl) (r_lo H 0 rfl rfl rfl ag25) ?_
      refine s_run rfl (g_on 7 (by kernel_rfl) rfl) (r_len rfl Try.underlying25) ?_
      refine s_run rfl (g_on 7 (by kernel_rfl) rfl) (r_geqT rfl rfl (by omega)) ?_
      refine s_run rfl rfl (r_pkF (v := .bool _) rfl rfl) ?_
      refine k_nil ?_
      refine c_norm ?_
      refine k_t rfl ?_
      refine k_seq ?_
      refine k_rg ?_
      refine s_run rfl rfl (r_as (v := .int _ _) rfl) ?_
      refine k_nil ?_
      refine c_norm ?_
      refine k_ret ?_
      refine c_ret ?_
      refine fin1r (v := .int _ _) rfl rfl ?_
      exact ⟨rfl, Only.refl _ _⟩
theorem nLasting (g : Geo) (d : Nv.D) (a : Int) (w : World) (hE : Ents (devL g d) w) :
    Calls Try.prog 26 [ptr g.p, .int .i64 a].toArray w fun e w' => e = .returned (.int .u64 (Nv.get d.last a)) ∧ Only [] w w' := by
  have H := Heap.start hE
  generalize hF : ids (devL g d) = F at H
  unfold devL devCells at H
  unfold Nv.get
  by_cases hin : 0 ≤ a ∧ a < (d.last.length : Int)
  · rw [if_pos hin]
    obtain ⟨i, rfl⟩ : ∃ i : Nat, a = (i : Int) := ⟨a.toNat, by omega⟩
    rw [Int.toNat_natCast]
    refine k_in (N := 23) Try.func26 rfl rfl rfl ?_
    refine k_seq ?_
    refine k_rg ?_
    refine s_run rfl rfl (r_as (v := .int _ _) rfl) ?_
    refine k_nil ?_
    refine c_norm ?_
    refine k_seq ?_
    refine k_seq ?_
    refine k_rg ?_
    refine s_run rfl rfl (r_mv (v := .int _ _) rfl) ?_
    refine s_run rfl rfl (r_lssF rfl rfl (by omega)) ?_
    refine s_run rfl rfl (r_mv (v := .bool _) rfl) ?_
    refine s_run rfl (g_on 7 (by kernel_rfl) rfl) (r_mv (v := .int _ _) rfl) ?_
    refine s_run rfl (g_on 7 (by kernel_rfl) rfl) (r_mv (v := .pointer _) rfl) ?_
    refine s_run rfl (g_on 7 (by kernel_rfl) rfl) (r_nc rfl) ?_
    refine s_run rfl (g_on 7 (by kernel_rfl) rfl) (r_fa0 rfl fo114_0) ?_
    refine s_run rfl (g_on 7 (by kernel_rfl) rfl) (r_lo H 0 rfl rfl rfl ag25) ?_
    refine s_run rfl (g_on 7 (by kernel_rfl) rfl) (r_len rfl Try.underlying25) ?_
    refine s_run rfl (g_on 7 (by kernel_rfl) rfl) (r_geqF rfl rfl (by omega)) ?_
    refine s_run rfl rfl (r_pkF (v := .bool _) rfl rfl) ?_
    refine k_nil ?_
    refine c_norm ?_
    refine k_f rfl ?_
    refine k_skip ?_
    refine c_norm ?_
    refine k_seq ?_
    refine k_rg ?_
    refine s_run rfl rfl (r_mv (v := .pointer _) rfl) ?_
    refine s_run rfl rfl (r_nc rfl) ?_
    refine s_run rfl rfl (r_fa0 rfl fo114_0) ?_
    refine s_run rfl rfl (r_lo H 0 rfl rfl rfl ag25) ?_
    refine s_run rfl rfl (r_mv (v := .int _ _) rfl) ?_
    refine s_run rfl rfl (r_ix1 rfl rfl rfl (by omega) Try.underlying25 sz22) ?_
    refine s_run rfl rfl (r_lv H 1 rfl rfl (getE (by omega)) ag22) ?_
    refine s_run rfl rfl (r_as (v := .int _ _) rfl) ?_
    refine k_nil ?_
    refine c_norm ?_
    refine k_ret ?_
    refine fin1r (v := .int _ _) rfl rfl ?_
    exact ⟨rfl, Only.refl _ _⟩
  · rw [if_neg hin]
    by_cases h1 : a < 0
    · refine k_in (N := 23) Try.func26 rfl rfl rfl ?_
      refine k_seq ?_
      refine k_rg ?_
      refine s_run rfl rfl (r_as (v := .int _ _) rfl) ?_
      refine k_nil ?_
      refine c_norm ?_
      refine k_seq ?_
      refine k_seq ?_
      refine k_rg ?_
      refine s_run rfl rfl (r_mv (v := .int _ _) rfl) ?_
      refine s_run rfl rfl (r_lssT rfl rfl (by omega)) ?_
      refine s_run rfl rfl (r_mv (v := .bool _) rfl) ?_
      refine s_off rfl (g_off 7 (by kernel_rfl) rfl rfl) ?_
      refine s_off rfl (g_off 7 (by kernel_rfl) rfl rfl) ?_
      refine s_off rfl (g_off 7 (by kernel_rfl) rfl rfl) ?_
      refine s_off rfl (g_off 7 (by kernel_rfl) rfl rfl) ?_
      refine s_off rfl (g_off 7 (by kernel_rfl) rfl rfl) ?_
      refine s_off rfl (g_off 7 (by kernel_rfl) rfl rfl) ?_
      refine s_off rfl (g_off 7 (by kernel_rfl) rfl rfl) ?_
      refine s_run rfl rfl (r_pkT (v := .bool _) rfl rfl) ?_
      refine k_nil ?_
      refine c_norm ?_
      refine k_t rfl ?_
      refine k_seq ?_
      refine k_rg ?_
      refine s_run rfl rfl (r_as (v := .int _ _) rfl) ?_
      refine k_nil ?_
      refine c_norm ?_
      refine k_ret ?_
      refine c_ret ?_
      refine fin1r (v := .int _ _) rfl rfl ?_
      exact ⟨rfl, Only.refl _ _⟩
    · refine k_in (N := 23) Try.func26 rfl rfl rfl ?_
      refine k_seq ?_
      refine k_rg ?_
      refine s_run rfl rfl (r_as (v := .int _ _) rfl) ?_
      refine k_nil ?_
      refine c_norm ?_
      refine k_seq ?_
      refine k_seq ?_
      refine k_rg ?_
      refine s_run rfl rfl (r_mv (v := .int _ _) rfl) ?_
      refine s_run rfl rfl (r_lssF rfl rfl (by omega)) ?_
      refine s_run rfl rfl (r_mv (v := .bool _) rfl) ?_
      refine s_run rfl (g_on 7 (by kernel_rfl) rfl) (r_mv (v := .int _ _) rfl) ?_
      refine s_run rfl (g_on 7 (by kernel_rfl) rfl) (r_mv (v := .pointer _) rfl) ?_
      refine s_run rfl (g_on 7 (by kernel_rfl) rfl) (r_nc rfl) ?_
      refine s_run rfl (g_on 7 (by kernel_rfl) rfl) (r_fa0 rfl fo114_0) ?_
      refine s_run rfl (g_on 7 (by kernel_rfl) rfl) (r_lo H 0 rfl rfl rfl ag25) ?_
      refine s_run rfl (g_on 7 (by kernel_rfl) rfl) (r_len rfl Try.underlying25) ?_
      refine s_run rfl (g_on 7 (by kernel_rfl) rfl) (r_geqT rfl rfl (by omega)) ?_
      refine s_run rfl rfl (r_pkF (v := .bool _) rfl rfl) ?_
      refine k_nil ?_
      refine c_norm ?_
      refine k_t rfl ?_
      refine k_seq ?_
      refine k_rg ?_
      refine s_run rfl rfl (r_as (v := .int _ _) rfl) ?_
      refine k_nil ?_
      refine c_norm ?_
      refine k_ret ?_
      refine c_ret ?_
      refine fin1r (v := .int _ _) rfl rfl ?_
      exact ⟨rfl, Only.refl _ _⟩
theorem nLen (g : Geo) (d : Nv.D) (w : World) (hE : Ents (devL g d) w) :
    Calls Try.prog 24 [ptr g.p].toArray w fun e w' => e = .returned (.int .i64 d.cache.length) ∧ Only [] w w' := by
  have H := Heap.start hE
  generalize hF : ids (devL g d) = F at H
  unfold devL devCells at H
  refine k_in (N := 8) Try.func24 rfl rfl rfl ?_
  refine k_seq ?_
  refine k_rg ?_
  refine s_run rfl rfl (r_as (v := .int _ _) rfl) ?_
  refine k_nil ?_
  refine c_norm ?_
  refine k_seq ?_
  refine k_rg ?_
  refine s_run rfl rfl (r_mv (v := .pointer _) rfl) ?_
  refine s_run rfl rfl (r_nc rfl) ?_
  refine s_run rfl rfl (r_fa0 rfl fo114_1) ?_
  refine s_run rfl rfl (r_lo H 0 rfl rfl rfl ag25) ?_
  refine s_run rfl rfl (r_len rfl Try.underlying25) ?_
  refine s_run rfl rfl (r_as (v := .int _ _) rfl) ?_
  refine k_nil ?_
  refine c_norm ?_
  refine k_ret ?_
  refine fin1r (v := .int _ _) rfl rfl ?_
  exact ⟨rfl, Only.refl _ _⟩
theorem nLines (g : Geo) (d : Nv.D) (w : World) (hE : Ents (devL g d) w) :
    Calls Try.prog 23 [ptr g.p].toArray w fun e w' => e = .returned (.int .i64 d.dirty.length) ∧ Only [] w w' := by
  have H := Heap.start hE
  generalize hF : ids (devL g d) = F at H
  unfold devL devCells at H
  refine k_in (N := 8) Try.func23 rfl rfl rfl ?_
  refine k_seq ?_
  refine k_rg ?_
  refine s_run rfl rfl (r_as (v := .int _ _) rfl) ?_
  refine k_nil ?_
  refine c_norm ?_
  refine k_seq ?_
  refine k_rg ?_
  refine s_run rfl rfl (r_mv (v := .pointer _) rfl) ?_
  refine s_run rfl rfl (r_nc rfl) ?_
  refine s_run rfl rfl (r_fa0 rfl fo114_3) ?_
  refine s_run rfl rfl (r_lo H 0 rfl rfl rfl ag53) ?_
  refine s_run rfl rfl (r_len rfl Try.underlying53) ?_
  refine s_run rfl rfl (r_as (v := .int _ _) rfl) ?_
  refine k_nil ?_
  refine c_norm ?_
  refine k_ret ?_
  refine fin1r (v := .int _ _) rfl rfl ?_
  exact ⟨rfl, Only.refl _ _⟩
theorem nSteps (g : Geo) (d : Nv.D) (w : World) (hE : Ents (devL g d) w) :
    Calls Try.prog 29 [ptr g.p].toArray w fun e w' => e = .returned (.int .i64 d.steps) ∧ Only [] w w' := by
  have H := Heap.start hE
  generalize hF : ids (devL g d) = F at H
  unfold devL devCells at H
  refine k_in (N := 7) Try.func29 rfl rfl rfl ?_
  refine k_seq ?_
  refine k_rg ?_
  refine s_run rfl rfl (r_as (v := .int _ _) rfl) ?_
  refine k_nil ?_
  refine c_norm ?_
  refine k_seq ?_
  refine k_rg ?_
  refine s_run rfl rfl (r_mv (v := .pointer _) rfl) ?_
  refine s_run rfl rfl (r_nc rfl) ?_
  refine s_run rfl rfl (r_fa0 rfl fo114_5) ?_
  refine s_run rfl rfl (r_lo H 0 rfl rfl rfl ag3) ?_
  refine s_run rfl rfl (r_as (v := .int _ _) rfl) ?_
  refine k_nil ?_
  refine c_norm ?_
  refine k_ret ?_
  refine fin1r (v := .int _ _) rfl rfl ?_
  exact ⟨rfl, Only.refl _ _⟩
theorem nDead (g : Geo) (d : Nv.D) (w : World) (hE : Ents (devL g d) w) :
    Calls Try.prog 28 [ptr g.p].toArray w fun e w' => e = .returned (.bool d.dead) ∧ Only [] w w' := by
  have H := Heap.start hE
  generalize hF : ids (devL g d) = F at H
  unfold devL devCells at H
  refine k_in (N := 7) Try.func28 rfl rfl rfl ?_
  refine k_seq ?_
  refine k_rg ?_
  refine s_run rfl rfl (r_as (v := .bool _) rfl) ?_
  refine k_nil ?_
  refine c_norm ?_
  refine k_seq ?_
  refine k_rg ?_
  refine s_run rfl rfl (r_mv (v := .pointer _) rfl) ?_
  refine s_run rfl rfl (r_nc rfl) ?_
  refine s_run rfl rfl (r_fa0 rfl fo114_8) ?_
  refine s_run rfl rfl (r_lo H 0 rfl rfl rfl ag4) ?_
  refine s_run rfl rfl (r_as (v := .bool _) rfl) ?_
  refine k_nil ?_
  refine c_norm ?_
  refine k_ret ?_
  refine fin1r (v := .bool _) rfl rfl ?_
  exact ⟨rfl, Only.refl _ _⟩
theorem nFlush (g : Geo) (d : Nv.D) (m : Nat) (a : Int) (w : World) (hE : Ents (devL g d) w) (ho : Nv.Ok d m) (hg : GOk g m) (hm : m ≤ 100000) :
    Calls Try.prog 49 [ptr g.p, .int .i64 a].toArray w fun e w' => e = .returned (.int .i64 (Nv.flush d m a).2) ∧ Heap w (ids (devL g d)) (devL g (Nv.flush d m a).1) w' := by
  have H0 := Heap.start hE
  have hd := ho.hd
  by_cases hin : 0 ≤ a ∧ a < (m : Int)
  · by_cases hs : Nv.stops d = true
    · have er : Nv.flush d m a = (Nv.killed d, 3) := by rw [Nv.flush, if_pos hin, if_pos hs]
      rw [er]
      generalize hF : ids (devL g d) = F at H0 ⊢
      have H := H0
      unfold devL devCells at H
      refine k_in (N := 49) Try.func49 rfl rfl rfl ?_
      refine k_seq ?_
      refine k_rg ?_
      refine s_run rfl rfl (r_as (v := .int _ _) rfl) ?_
      refine k_nil ?_
      refine c_norm ?_
      refine k_seq ?_
      refine k_b ?_
      refine k_seq ?_
      refine k_rg ?_
      refine s_run rfl rfl (r_mv (v := .int _ _) rfl) ?_
      refine s_run rfl rfl (r_lssF rfl rfl (by omega)) ?_
      refine s_run rfl rfl (r_mv (v := .bool _) rfl) ?_
      refine s_run rfl (g_on 8 (by kernel_rfl) rfl) (r_mv (v := .int _ _) rfl) ?_
      refine s_run rfl (g_on 8 (by kernel_rfl) rfl) (r_mv (v := .pointer _) rfl) ?_
      refine s_run rfl (g_on 8 (by kernel_rfl) rfl) (r_nc rfl) ?_
      refine s_run rfl (g_on 8 (by kernel_rfl) rfl) (r_fa0 rfl fo114_3) ?_
      refine s_run rfl (g_on 8 (by kernel_rfl) rfl) (r_lo H 0 rfl rfl rfl ag53) ?_
      refine s_run rfl (g_on 8 (by kernel_rfl) rfl) (r_len rfl Try.underlying53) ?_
      refine s_run rfl (g_on 8 (by kernel_rfl) rfl) (r_geqF rfl rfl (by omega)) ?_
      refine s_run rfl rfl (r_pkF (v := .bool _) rfl rfl) ?_
      refine s_run rfl rfl (r_as (v := .bool _) rfl) ?_
      refine k_nil ?_
      refine c_norm ?_
      refine k_f rfl ?_
      refine k_seq ?_
      refine k_rg ?_
      refine s_run rfl rfl (r_mv (v := .pointer _) rfl) ?_
      refine s_call rfl (nStep_no g d _ H0.ents hs) (ca70 rfl) ?_
      rintro e W1 ⟨rfl, H'⟩
      refine ⟨_, rfl, ?_⟩
      have H := H0.whole H'
      refine s_run rfl rfl (r_notF rfl) ?_
      refine s_run rfl rfl (r_as (v := .bool _) rfl) ?_
      refine k_nil ?_
      refine c_norm ?_
      refine k_t rfl ?_
      refine k_seq ?_
      refine k_rg ?_
      refine s_run rfl rfl (r_as (v := .int _ _) rfl) ?_
      refine k_nil ?_
      refine c_norm ?_
      refine k_ret ?_
      refine b_ret ?_
      refine c_ret ?_
      refine fin1r (v := .int _ _) rfl rfl ?_
      exact ⟨rfl, H⟩
    · have hs : Nv.stops d = false := by simpa using hs
      obtain ⟨i, rfl⟩ : ∃ i : Nat, a = (i : Int) := ⟨a.toNat, by omega⟩
      have er : Nv.flush d m i = (if d.dirty.getD i false = true then Nv.flushed (Nv.stepped d) i else Nv.stepped d, 0) := by rw [Nv.flush, if_pos hin, if_neg (by simp [hs]), Int.toNat_natCast]
      rw [er]
      have hp := ho.hp
      have hc := ho.hc
      have hf := ho.hf
      generalize hF : ids (devL g d) = F at H0 ⊢
      have H := H0
      unfold devL devCells at H
      by_cases hdi : d.dirty.getD i false = true
      · have hdi' : d.dirty[i]? = some true := by rw [getE (by omega)]; exact congrArg some hdi
        rw [if_pos hdi]
        have hgc := hg.c
        have hgf := hg.f
        refine k_in (N := 49) Try.func49 rfl rfl rfl ?_
        refine k_seq ?_
        refine k_rg ?_
        refine s_run rfl rfl (r_as (v := .int _ _) rfl) ?_
        refine k_nil ?_
        refine c_norm ?_
        refine k_seq ?_
        refine k_b ?_
        refine k_seq ?_
        refine k_rg ?_
        refine s_run rfl rfl (r_mv (v := .int _ _) rfl) ?_
        refine s_run rfl rfl (r_lssF rfl rfl (by omega)) ?_
        refine s_run rfl rfl (r_mv (v := .bool _) rfl) ?_
        refine s_run rfl (g_on 8 (by kernel_rfl) rfl) (r_mv (v := .int _ _) rfl) ?_
        refine s_run rfl (g_on 8 (by kernel_rfl) rfl) (r_mv (v := .pointer _) rfl) ?_
        refine s_run rfl (g_on 8 (by kernel_rfl) rfl) (r_nc rfl) ?_
        refine s_run rfl (g_on 8 (by kernel_rfl) rfl) (r_fa0 rfl fo114_3) ?_
        refine s_run rfl (g_on 8 (by kernel_rfl) rfl) (r_lo H 0 rfl rfl rfl ag53) ?_
        refine s_run rfl (g_on 8 (by kernel_rfl) rfl) (r_len rfl Try.underlying53) ?_
        refine s_run rfl (g_on 8 (by kernel_rfl) rfl) (r_geqF rfl rfl (by omega)) ?_
        refine s_run rfl rfl (r_pkF (v := .bool _) rfl rfl) ?_
        refine s_run rfl rfl (r_as (v := .bool _) rfl) ?_
        refine k_nil ?_
        refine c_norm ?_
        refine k_f rfl ?_
        refine k_seq ?_
        refine k_rg ?_
        refine s_run rfl rfl (r_mv (v := .pointer _) rfl) ?_
        refine s_call rfl (nStep_yes g d _ H0.ents hs) (ca70 rfl) ?_
        rintro e W1 ⟨rfl, H'⟩
        refine ⟨_, rfl, ?_⟩
        have H := H0.whole H'; unfold devL devCells Nv.stepped at H; simp only at H
        refine s_run rfl rfl (r_notT rfl) ?_
        refine s_run rfl rfl (r_as (v := .bool _) rfl) ?_
        refine k_nil ?_
        refine c_norm ?_
        refine k_f rfl ?_
        refine k_skip ?_
        refine b_norm ?_
        refine c_norm ?_
        refine k_seq ?_
        refine k_seq ?_
        refine k_rg ?_
        refine s_run rfl rfl (r_mv (v := .pointer _) rfl) ?_
        refine s_run rfl rfl (r_nc rfl) ?_
        refine s_run rfl rfl (r_fa0 rfl fo114_3) ?_
        refine s_run rfl rfl (r_lo H 0 rfl rfl rfl ag53) ?_
        refine s_run rfl rfl (r_mv (v := .int _ _) rfl) ?_
        refine s_run rfl rfl (r_ix1 rfl rfl rfl (by omega) Try.underlying53 sz4) ?_
        refine s_run rfl rfl (r_lv H 4 rfl rfl (by assumption) ag4) ?_
        refine k_nil ?_
        refine c_norm ?_
        refine k_t rfl ?_
        refine k_seq ?_
        refine k_rg ?_
        refine s_run rfl rfl (r_mv (v := .pointer _) rfl) ?_
        refine s_run rfl rfl (r_nc rfl) ?_
        refine s_run rfl rfl (r_fa0 rfl fo114_4) ?_
        refine s_run rfl rfl (r_lo H 0 rfl rfl rfl ag53) ?_
        refine s_run rfl rfl (r_mv (v := .int _ _) rfl) ?_
        refine s_run rfl rfl (r_ix1 rfl rfl rfl (by omega) Try.underlying53 sz4) ?_
        refine s_sv (u := .bool _) H 5 rfl rfl rfl rfl rfl (by omega) (fun _ => rfl) sz4 ?_
        intro _ H'; simp only [List.set_cons_zero, List.set_cons_succ, List.take_succ_cons, List.take_zero, List.drop_succ_cons, List.drop_zero, List.cons_append, List.nil_append, List.append_nil, List.length_cons, List.length_nil, Nat.reduceAdd] at H'; clear H; have H := H'; clear H'
        refine k_nil ?_
        refine c_norm ?_
        refine k_qt 14 mixed (by kernel_rfl) H rfl rfl ?_
        refine q_run rfl rfl (fun _ H => r_mv (v := .pointer _) rfl) ?_
        refine q_run rfl rfl (fun _ H => r_mv (v := .pointer _) rfl) ?_
        refine q_run rfl rfl (fun _ H => r_nc rfl) ?_
        refine q_run rfl rfl (fun _ H => r_fa0 rfl fo114_2) ?_
        refine q_run rfl rfl (fun _ H => r_lo H 0 rfl rfl rfl ag25) ?_
        refine q_run rfl rfl (fun _ H => r_mv (v := .int _ _) rfl) ?_
        refine q_call rfl rfl (fun _ H => nPart g.bf g.cf i _ _ _ (by omega)) (ca77 rfl) ?_
        refine q_run rfl rfl (fun _ H => r_mv (v := .pointer _) rfl) ?_
        refine q_run rfl rfl (fun _ H => r_mv (v := .pointer _) rfl) ?_
        refine q_run rfl rfl (fun _ H => r_nc rfl) ?_
        refine q_run rfl rfl (fun _ H => r_fa0 rfl fo114_1) ?_
        refine q_run rfl rfl (fun _ H => r_lo H 0 rfl rfl rfl ag25) ?_
        refine q_run rfl rfl (fun _ H => r_mv (v := .int _ _) rfl) ?_
        refine q_call rfl rfl (fun _ H => nPart g.bc g.cc i _ _ _ (by omega)) (ca77 rfl) ?_
        refine q_nil ?_
        intro _ H'; clear H; have H := H'; clear H'
        refine s_cp (enc := (Value.int .u64)) H 3 2 rfl rfl rfl rfl rfl (fun _ => rfl) (by omega) Try.underlying25 inf22 ?_
        intro _ H'; simp only [List.set_cons_zero, List.set_cons_succ, List.take_succ_cons, List.take_zero, List.drop_succ_cons, List.drop_zero, List.cons_append, List.nil_append, List.append_nil, List.length_cons, List.length_nil, Nat.reduceAdd] at H'; clear H; have H := H'; clear H'
        refine k_nil ?_
        refine c_norm ?_
        refine k_seq ?_
        refine k_rg ?_
        refine s_run rfl rfl (r_as (v := .int _ _) rfl) ?_
        refine k_nil ?_
        refine c_norm ?_
        refine k_ret ?_
        refine fin1r (v := .int _ _) rfl rfl ?_
        refine ⟨rfl, ?_⟩
        unfold devL devCells Nv.flushed Nv.stepped
        have e : Nv.setPart d.fl i (Nv.part d.cache i) = d.fl.take (8 * i) ++ ((d.cache.drop (8 * i)).take 8 ++ d.fl.drop (8 * i + 8)) := by simp [Nv.setPart, Nv.part]
        have hl : (Nv.setPart d.fl i (Nv.part d.cache i)).length = d.fl.length := Nv.length_setPart (by omega) (Nv.length_part (by omega))
        rw [← e] at H
        simp only [hl, List.length_set]
        exact H
      · have hdi' : d.dirty[i]? = some false := by
          rw [getE (by omega)]
          have : d.dirty.getD i default = false := by simpa using hdi
          rw [this]
        rw [if_neg hdi]
        refine k_in (N := 49) Try.func49 rfl rfl rfl ?_
        refine k_seq ?_
        refine k_rg ?_
        refine s_run rfl rfl (r_as (v := .int _ _) rfl) ?_
        refine k_nil ?_
        refine c_norm ?_
        refine k_seq ?_
        refine k_b ?_
        refine k_seq ?_
        refine k_rg ?_
        refine s_run rfl rfl (r_mv (v := .int _ _) rfl) ?_
        refine s_run rfl rfl (r_lssF rfl rfl (by omega)) ?_
        refine s_run rfl rfl (r_mv (v := .bool _) rfl) ?_
        refine s_run rfl (g_on 8 (by kernel_rfl) rfl) (r_mv (v := .int _ _) rfl) ?_
        refine s_run rfl (g_on 8 (by kernel_rfl) rfl) (r_mv (v := .pointer _) rfl) ?_
        refine s_run rfl (g_on 8 (by kernel_rfl) rfl) (r_nc rfl) ?_
        refine s_run rfl (g_on 8 (by kernel_rfl) rfl) (r_fa0 rfl fo114_3) ?_
        refine s_run rfl (g_on 8 (by kernel_rfl) rfl) (r_lo H 0 rfl rfl rfl ag53) ?_
        refine s_run rfl (g_on 8 (by kernel_rfl) rfl) (r_len rfl Try.underlying53) ?_
        refine s_run rfl (g_on 8 (by kernel_rfl) rfl) (r_geqF rfl rfl (by omega)) ?_
        refine s_run rfl rfl (r_pkF (v := .bool _) rfl rfl) ?_
        refine s_run rfl rfl (r_as (v := .bool _) rfl) ?_
        refine k_nil ?_
        refine c_norm ?_
        refine k_f rfl ?_
        refine k_seq ?_
        refine k_rg ?_
        refine s_run rfl rfl (r_mv (v := .pointer _) rfl) ?_
        refine s_call rfl (nStep_yes g d _ H0.ents hs) (ca70 rfl) ?_
        rintro e W1 ⟨rfl, H'⟩
        refine ⟨_, rfl, ?_⟩
        have H := H0.whole H'; unfold devL devCells Nv.stepped at H; simp only at H
        refine s_run rfl rfl (r_notT rfl) ?_
        refine s_run rfl rfl (r_as (v := .bool _) rfl) ?_
        refine k_nil ?_
        refine c_norm ?_
        refine k_f rfl ?_
        refine k_skip ?_
        refine b_norm ?_
        refine c_norm ?_
        refine k_seq ?_
        refine k_seq ?_
        refine k_rg ?_
        refine s_run rfl rfl (r_mv (v := .pointer _) rfl) ?_
        refine s_run rfl rfl (r_nc rfl) ?_
        refine s_run rfl rfl (r_fa0 rfl fo114_3) ?_
        refine s_run rfl rfl (r_lo H 0 rfl rfl rfl ag53) ?_
        refine s_run rfl rfl (r_mv (v := .int _ _) rfl) ?_
        refine s_run rfl rfl (r_ix1 rfl rfl rfl (by omega) Try.underlying53 sz4) ?_
        refine s_run rfl rfl (r_lv H 4 rfl rfl (by assumption) ag4) ?_
        refine k_nil ?_
        refine c_norm ?_
        refine k_f rfl ?_
        refine k_skip ?_
        refine c_norm ?_
        refine k_seq ?_
        refine k_rg ?_
        refine s_run rfl rfl (r_as (v := .int _ _) rfl) ?_
        refine k_nil ?_
        refine c_norm ?_
        refine k_ret ?_
        refine fin1r (v := .int _ _) rfl rfl ?_
        refine ⟨rfl, ?_⟩
        unfold devL devCells Nv.stepped
        exact H
  · have er : Nv.flush d m a = (d, 2) := by rw [Nv.flush, if_neg hin]
    rw [er]
    generalize hF : ids (devL g d) = F at H0 ⊢
    have H := H0
    unfold devL devCells at H
    by_cases h1 : a < 0
    · refine k_in (N := 49) Try.func49 rfl rfl rfl ?_
      refine k_seq ?_
      refine k_rg ?_
      refine s_run rfl rfl (r_as (v := .int _ _) rfl) ?_
      refine k_nil ?_
      refine c_norm ?_
      refine k_seq ?_
      refine k_b ?_
      refine k_seq ?_
      refine k_rg ?_
      refine s_run rfl rfl (r_mv (v := .int _ _) rfl) ?_
      refine s_run rfl rfl (r_lssT rfl rfl (by omega)) ?_
      refine s_run rfl rfl (r_mv (v := .bool _) rfl) ?_
      refine s_off rfl (g_off 8 (by kernel_rfl) rfl rfl) ?_
      refine s_off rfl (g_off 8 (by kernel_rfl) rfl rfl) ?_
      refine s_off rfl (g_off 8 (by kernel_rfl) rfl rfl) ?_
      refine s_off rfl (g_off 8 (by kernel_rfl) rfl rfl) ?_
      refine s_off rfl (g_off 8 (by kernel_rfl) rfl rfl) ?_
      refine s_off rfl (g_off 8 (by kernel_rfl) rfl rfl) ?_
      refine s_off rfl (g_off 8 (by kernel_rfl) rfl rfl) ?_
      refine s_run rfl rfl (r_pkT (v := .bool _) rfl rfl) ?_
      refine s_run rfl rfl (r_as (v := .bool _) rfl) ?_
      refine k_nil ?_
      refine c_norm ?_
      refine k_t rfl ?_
      refine k_seq ?_
      refine k_rg ?_
      refine s_run rfl rfl (r_as (v := .int _ _) rfl) ?_
      refine k_nil ?_
      refine c_norm ?_
      refine k_ret ?_
      refine b_ret ?_
      refine c_ret ?_
      refine fin1r (v := .int _ _) rfl rfl ?_
      exact ⟨rfl, H⟩
    · refine k_in (N := 49) Try.func49 rfl rfl rfl ?_
      refine k_seq ?_
      refine k_rg ?_
      refine s_run rfl rfl (r_as (v := .int _ _) rfl) ?_
      refine k_nil ?_
      refine c_norm ?_
      refine k_seq ?_
      refine k_b ?_
      refine k_seq ?_
      refine k_rg ?_
      refine s_run rfl rfl (r_mv (v := .int _ _) rfl) ?_
      refine s_run rfl rfl (r_lssF rfl rfl (by omega)) ?_
      refine s_run rfl rfl (r_mv (v := .bool _) rfl) ?_
      refine s_run rfl (g_on 8 (by kernel_rfl) rfl) (r_mv (v := .int _ _) rfl) ?_
      refine s_run rfl (g_on 8 (by kernel_rfl) rfl) (r_mv (v := .pointer _) rfl) ?_
      refine s_run rfl (g_on 8 (by kernel_rfl) rfl) (r_nc rfl) ?_
      refine s_run rfl (g_on 8 (by kernel_rfl) rfl) (r_fa0 rfl fo114_3) ?_
      refine s_run rfl (g_on 8 (by kernel_rfl) rfl) (r_lo H 0 rfl rfl rfl ag53) ?_
      refine s_run rfl (g_on 8 (by kernel_rfl) rfl) (r_len rfl Try.underlying53) ?_
      refine s_run rfl (g_on 8 (by kernel_rfl) rfl) (r_geqT rfl rfl (by omega)) ?_
      refine s_run rfl rfl (r_pkF (v := .bool _) rfl rfl) ?_
      refine s_run rfl rfl (r_as (v := .bool _) rfl) ?_
      refine k_nil ?_
      refine c_norm ?_
      refine k_t rfl ?_
      refine k_seq ?_
      refine k_rg ?_
      refine s_run rfl rfl (r_as (v := .int _ _) rfl) ?_
      refine k_nil ?_
      refine c_norm ?_
      refine k_ret ?_
      refine b_ret ?_
      refine c_ret ?_
      refine fin1r (v := .int _ _) rfl rfl ?_
      exact ⟨rfl, H⟩
end Go.Proofs.Ytmekhdclnhhhbaa
end

section
namespace Go.Proofs.Ytmekhdclnhhhbaa
open Go.RowKit
set_option linter.unusedSimpArgs false
set_option linter.unusedVariables false
theorem all_upto {xs ys : List Int} {k : Nat} (h : ∀ i, i < k → xs.getD i default = ys.getD i default) (hx : xs.length = k) (hy : ys.length = k) : xs = ys := by
  apply List.ext_getElem (by omega)
  intro i h1 h2
  have := h i (by omega)
  simpa [List.getD_eq_getElem?_getD, List.getElem?_eq_getElem h1, List.getElem?_eq_getElem h2] using this
theorem nEqual (b o c b2 o2 c2 n : Nat) (xs ys : List Int) (w : World) (hx : Cells w b o xs .u64) (hy : Cells w b2 o2 ys .u64) (lx : xs.length = n) (ly : ys.length = n) (hn : n ≤ 1000000) :
    Calls Try.prog 78 [.slice (some ⟨b, o, none⟩) n c, .slice (some ⟨b2, o2, none⟩) n c2].toArray w fun e w' => e = .returned (.bool (Nv.same xs ys)) ∧ Only [] w w' := by
  have H := Heap.nil w
  refine k_in (N := 26) Try.func78 rfl rfl rfl ?_
  refine k_seq ?_
  refine k_rg ?_
  refine s_run rfl rfl (r_as (v := .bool _) rfl) ?_
  refine k_nil ?_
  refine c_norm ?_
  refine k_seq ?_
  refine k_seq ?_
  refine k_rg ?_
  refine s_run rfl rfl (r_mv (v := .slice _ _ _) rfl) ?_
  refine s_run rfl rfl (r_len rfl Try.underlying25) ?_
  refine s_run rfl rfl (r_mv (v := .slice _ _ _) rfl) ?_
  refine s_run rfl rfl (r_len rfl Try.underlying25) ?_
  refine s_run rfl rfl (r_neqF rfl rfl (by omega)) ?_
  refine k_nil ?_
  refine c_norm ?_
  refine k_f rfl ?_
  refine k_skip ?_
  refine c_norm ?_
  refine k_seq ?_
  refine k_seq ?_
  refine k_rg ?_
  refine s_run rfl rfl (r_mv (v := .slice _ _ _) rfl) ?_
  refine s_run rfl rfl (r_len rfl Try.underlying25) ?_
  refine s_run rfl rfl (r_mv (v := .int _ _) rfl) ?_
  refine k_nil ?_
  refine c_norm ?_
  refine k_b ?_
  refine k_loop (fun m f W => ∃ k : Nat, k ≤ n ∧ m = n - k ∧ (∀ i, i < k → xs.getD i default = ys.getD i default) ∧ f 0 = .slice (some ⟨b, o, none⟩) n c ∧ f 1 = .slice (some ⟨b2, o2, none⟩) n c2 ∧ f 12 = .int .i64 n ∧ f 13 = .int .i64 k ∧ Heap w [] [] W) n ⟨0, by omega, by omega, by omega, rfl, rfl, rfl, rfl, H⟩ ?_
  clear H
  rintro m f W ⟨k, hk, rfl, hall, h0, h1, h2, h3, H⟩
  obtain ⟨f, rfl⟩ := live4 h0 h1 h2 h3
  clear h0 h1 h2 h3
  by_cases hlt : k < n
  · have cx := hx k _ (getE (by omega))
    have cy := hy k _ (getE (by omega))
    by_cases he : xs.getD k default = ys.getD k default
    · refine k_seq ?_
      refine k_rg ?_
      refine s_run rfl rfl (r_lssT rfl rfl (by omega)) ?_
      refine k_nil ?_
      refine c_norm ?_
      refine k_seq ?_
      refine k_t rfl ?_
      refine k_skip ?_
      refine c_norm ?_
      refine k_seq ?_
      refine k_b ?_
      refine k_seq ?_
      refine k_rg ?_
      refine s_run rfl rfl (r_mv (v := .int _ _) rfl) ?_
      refine s_run rfl rfl (r_as (v := .int _ _) rfl) ?_
      refine k_nil ?_
      refine c_norm ?_
      refine k_seq ?_
      refine k_q mixed (by kernel_rfl) H ?_
      refine q_run rfl rfl (fun _ H => r_mv (v := .slice _ _ _) rfl) ?_
      refine q_run rfl rfl (fun _ H => r_mv (v := .int _ _) rfl) ?_
      refine q_run rfl rfl (fun _ H => r_ix1o rfl rfl rfl (by omega) Try.underlying25 sz22) ?_
      refine q_run rfl rfl (fun _ H => r_lr H rfl cx (by simp) ag22) ?_
      refine q_run rfl rfl (fun _ H => r_mv (v := .slice _ _ _) rfl) ?_
      refine q_run rfl rfl (fun _ H => r_mv (v := .int _ _) rfl) ?_
      refine q_run rfl rfl (fun _ H => r_ix1o rfl rfl rfl (by omega) Try.underlying25 sz22) ?_
      refine q_run rfl rfl (fun _ H => r_lr H rfl cy (by simp) ag22) ?_
      refine q_run rfl rfl (fun _ H => r_neqF rfl rfl (by omega)) ?_
      refine q_nil ?_
      intro _ H'; clear H; have H := H'; clear H'
      refine c_norm ?_
      refine k_f rfl ?_
      refine k_skip ?_
      refine b_norm ?_
      refine c_norm ?_
      refine k_rg ?_
      refine s_run rfl rfl (r_add rfl rfl (wI (by omega))) ?_
      refine s_run rfl rfl (r_mv (v := .int _ _) rfl) ?_
      refine k_nil ?_
      refine c_round ?_
      refine ⟨_, _, ?_, rfl, k + 1, by omega, rfl, fun i hi => ?_, rfl, rfl, rfl, rfl, H⟩
      · omega
      · by_cases hik : i = k
        · subst hik; exact he
        · exact hall i (by omega)
    · refine k_seq ?_
      refine k_rg ?_
      refine s_run rfl rfl (r_lssT rfl rfl (by omega)) ?_
      refine k_nil ?_
      refine c_norm ?_
      refine k_seq ?_
      refine k_t rfl ?_
      refine k_skip ?_
      refine c_norm ?_
      refine k_seq ?_
      refine k_b ?_
      refine k_seq ?_
      refine k_rg ?_
      refine s_run rfl rfl (r_mv (v := .int _ _) rfl) ?_
      refine s_run rfl rfl (r_as (v := .int _ _) rfl) ?_
      refine k_nil ?_
      refine c_norm ?_
      refine k_seq ?_
      refine k_q mixed (by kernel_rfl) H ?_
      refine q_run rfl rfl (fun _ H => r_mv (v := .slice _ _ _) rfl) ?_
      refine q_run rfl rfl (fun _ H => r_mv (v := .int _ _) rfl) ?_
      refine q_run rfl rfl (fun _ H => r_ix1o rfl rfl rfl (by omega) Try.underlying25 sz22) ?_
      refine q_run rfl rfl (fun _ H => r_lr H rfl cx (by simp) ag22) ?_
      refine q_run rfl rfl (fun _ H => r_mv (v := .slice _ _ _) rfl) ?_
      refine q_run rfl rfl (fun _ H => r_mv (v := .int _ _) rfl) ?_
      refine q_run rfl rfl (fun _ H => r_ix1o rfl rfl rfl (by omega) Try.underlying25 sz22) ?_
      refine q_run rfl rfl (fun _ H => r_lr H rfl cy (by simp) ag22) ?_
      refine q_run rfl rfl (fun _ H => r_neqT rfl rfl (by omega)) ?_
      refine q_nil ?_
      intro _ H'; clear H; have H := H'; clear H'
      refine c_norm ?_
      refine k_t rfl ?_
      refine k_seq ?_
      refine k_rg ?_
      refine s_run rfl rfl (r_as (v := .bool _) rfl) ?_
      refine k_nil ?_
      refine c_norm ?_
      refine k_ret ?_
      refine b_ret ?_
      refine c_ret ?_
      refine c_ret ?_
      refine b_ret ?_
      refine c_ret ?_
      refine fin1r (v := .bool _) rfl rfl ?_
      refine ⟨?_, H.only⟩
      rw [Nv.same, decide_eq_false (fun h => he (by rw [h]))]
  · obtain rfl : k = n := by omega
    refine k_seq ?_
    refine k_rg ?_
    refine s_run rfl rfl (r_lssF rfl rfl (by omega)) ?_
    refine k_nil ?_
    refine c_norm ?_
    refine k_seq ?_
    refine k_f rfl ?_
    refine k_exit ?_
    refine c_exit ?_
    refine c_exit ?_
    refine b_hit ?_
    refine c_norm ?_
    refine k_seq ?_
    refine k_rg ?_
    refine s_run rfl rfl (r_as (v := .bool _) rfl) ?_
    refine k_nil ?_
    refine c_norm ?_
    refine k_ret ?_
    refine fin1r (v := .bool _) rfl rfl ?_
    refine ⟨?_, H.only⟩
    rw [Nv.same, decide_eq_true (all_upto hall lx ly)]
end Go.Proofs.Ytmekhdclnhhhbaa
end

section
namespace Go.Proofs.Ytmekhdclnhhhbaa
open Go.RowKit
set_option linter.unusedSimpArgs false
set_option linter.unusedVariables false
theorem nClone (A : Addr) (n c : Nat) (zs : List Int) (w : World) (hz : Sees (Value.int .u64) w [] (some A) zs) (hl : zs.length = n) (hn : n ≤ 1000000) :
    Calls Try.prog 79 [.slice (some A) n c].toArray w fun e w' => ∃ b c', e = .returned (.slice (some ⟨b, 0, none⟩) n c') ∧ (n ≤ c' ∧ c' ≤ 9223372036854775807) ∧ Heap w [] [vec (Value.int .u64) b zs 22] w' := by
  have H := Heap.nil w
  refine k_in (N := 8) Try.func79 rfl rfl rfl ?_
  refine k_seq ?_
  refine k_rg ?_
  refine s_run rfl rfl (r_as (v := .slice _ _ _) rfl) ?_
  refine k_nil ?_
  refine c_norm ?_
  refine k_seq ?_
  refine k_seq ?_
  refine k_rg ?_
  refine s_run rfl rfl (r_mv (v := .slice _ _ _) rfl) ?_
  refine s_run rfl rfl (r_slnilF rfl rfl Try.underlying25) ?_
  refine k_nil ?_
  refine c_norm ?_
  refine k_f rfl ?_
  refine k_skip ?_
  refine c_norm ?_
  refine k_seq ?_
  refine k_rg ?_
  refine s_bs0 1 (by omega) H rfl Try.underlying25 inf22 ?_
  intro _ _ H'; clear H; have H := H'; clear H'
  refine s_run rfl rfl (r_mv (v := .slice _ _ _) rfl) ?_
  refine s_apps (enc := (Value.int .u64)) (xs := []) H 0 rfl rfl rfl rfl (hz) (hl) (fun _ => rfl) (by omega) Try.underlying25 inf22 rfl ?_
  intro A' c' _ hA H'; simp only [List.set_cons_zero, List.set_cons_succ, List.take_succ_cons, List.take_zero, List.drop_succ_cons, List.drop_zero, List.cons_append, List.nil_append, List.append_nil, List.length_cons, List.length_nil, Nat.reduceAdd] at H'; clear H; have H := H'; clear H'
  refine s_run rfl rfl (r_as (v := .slice _ _ _) rfl) ?_
  refine k_nil ?_
  refine c_norm ?_
  refine k_ret ?_
  refine fin1r (v := .slice _ _ _) rfl rfl ?_
  obtain ⟨b, rfl⟩ := hA (by simp)
  rw [Nat.zero_add] at H
  refine ⟨b, c', by rw [Nat.zero_add], ?_⟩
  by_cases h0 : 0 < n
  · obtain ⟨b', c2, e1, e2, e3, H2⟩ := own_vec H h0
    injection e1 with e4 _ e5
    injection e4 with e4
    injection e4 with e4
    subst e4; subst e5
    unfold maxLen at e3
    exact ⟨⟨e2, e3⟩, H2⟩
  · obtain rfl : n = 0 := by omega
    obtain rfl : zs = [] := List.eq_nil_of_length_eq_zero hl
    have ho := H.own_get 0 rfl
    have hb : (0 ≤ c' ∧ c' ≤ 9223372036854775807) := by
      rcases ho.2 with ⟨e, _⟩ | ⟨q, cap, cur, e, _, _, _, hcm, _⟩
      · cases e
      · injection e with _ _ e; subst e; unfold maxLen at hcm; omega
    exact ⟨hb, fun E hE => by (rw [List.mem_singleton.1 hE]; exact fun h => absurd rfl h), by simp [ids, vec], by simp [ids, vec], H.only⟩
theorem nload (b c m : Nat) (ws : List Int) (w : World) (hE : Ents [vec (Value.int .u64) b ws 22] w) (hl : ws.length = 8 * m) (hm : m ≤ 100000) (hc : 8 * m ≤ c ∧ c ≤ 9223372036854775807) :
    Calls Try.prog 65 [.slice (some ⟨b, 0, none⟩) (8 * m) c].toArray w fun e w' => ∃ g, e = .returned (ptr g.p) ∧ GOk g m ∧ Heap w (ids [vec (Value.int .u64) b ws 22]) (devL g (Nv.load ws m)) w' := by
  have H := Heap.start hE
  generalize hF : ids [vec (Value.int .u64) b ws 22] = F at H ⊢
  refine k_in (N := 19) Try.func65 rfl rfl rfl ?_
  refine k_seq ?_
  refine k_rg ?_
  refine s_run rfl rfl (r_as (v := .pointer _) rfl) ?_
  refine k_nil ?_
  refine c_norm ?_
  refine k_seq ?_
  refine k_rg ?_
  refine s_run rfl rfl (r_mv (v := .slice _ _ _) rfl) ?_
  refine s_run rfl rfl (r_len rfl Try.underlying25) ?_
  refine s_run rfl rfl (r_quo rfl rfl (by omega) (wI (by omega))) ?_
  refine s_run rfl rfl (r_as (v := .int _ _) rfl) ?_
  refine k_nil ?_
  refine c_norm ?_
  refine k_seq ?_
  refine k_cut (fun f' W' => ∃ p bc cc bf bd bp, (8 * m ≤ cc ∧ cc ≤ 9223372036854775807) ∧ f' 2 = ptr p ∧ Heap w F [blk p [.slice (some ⟨b, 0, none⟩) (8 * m) c, .slice (some ⟨bc, 0, none⟩) (8 * m) cc, .slice (some ⟨bf, 0, none⟩) (8 * m) (8 * m), .slice (some ⟨bd, 0, none⟩) m m, .slice (some ⟨bp, 0, none⟩) m m, .int .i64 0, .int .i64 0, .bool false, .bool false] 114, vec Value.bool bp (List.replicate m false) 4, vec Value.bool bd (List.replicate m false) 4, vec (Value.int .u64) bf (List.replicate (8 * m) 0) 22, vec (Value.int .u64) bc ws 22, vec (Value.int .u64) b ws 22] W') ?_ ?_
  · have HR := H; clear H; have H := HR.tree; refine k_tr mixed ?_
    refine t_take 0 rfl (by kernel_rfl) (by kernel_rfl) (by kernel_rfl) rfl (fun _ _ _ _ h => nomatch h.1) rfl (fun _ hS => r_mv (v := .slice _ _ _) rfl) H.only ?_
    refine t_take 1 rfl (by kernel_rfl) (by kernel_rfl) (by kernel_rfl) rfl (fun _ _ _ _ h => nomatch h.1) rfl (fun _ hS => r_mv (v := .slice _ _ _) rfl) H.only ?_
    refine t_take 3 rfl (by kernel_rfl) (by kernel_rfl) (by kernel_rfl) rfl (fun _ _ _ _ h => nomatch h.1) rfl (fun _ hS => r_mv (v := .slice _ _ _) rfl) H.only ?_
    refine t_take 4 rfl (by kernel_rfl) (by kernel_rfl) (by kernel_rfl) rfl (fun _ _ _ _ h => nomatch h.1) rfl (fun _ hS => r_len rfl Try.underlying25) H.only ?_
    refine t_take 6 rfl (by kernel_rfl) (by kernel_rfl) (by kernel_rfl) rfl (fun _ _ _ _ h => nomatch h.1) rfl (fun _ hS => r_mv (v := .int _ _) rfl) H.only ?_
    refine t_take 8 rfl (by kernel_rfl) (by kernel_rfl) (by kernel_rfl) rfl (fun _ _ _ _ h => nomatch h.1) rfl (fun _ hS => r_mv (v := .int _ _) rfl) H.only ?_
    refine t_up4 2 5 7 9 (by kernel_rfl) ?_ ?_ ?_ ?_
    · refine up_mk rfl ?_
      refine s_call rfl (nClone _ _ _ ws _ (fun _ => ⟨_, _, rfl, by simp, (HR.same H.only).reads0 0 rfl⟩) (by omega) (by omega)) (ca79 rfl) ?_
      rintro e W1 ⟨bc, cc, rfl, hcc, H'⟩
      refine ⟨_, rfl, ?_⟩
      have H := H.more H'; clear H'
      refine k_nil ?_
      refine t_on H.only ?_
      refine t_up3 5 7 9 (by kernel_rfl) ?_ ?_ ?_
      · refine up_mk rfl ?_
        refine s_mk (Value.int .u64) 0 (m := (8 * m)) H rfl rfl rfl (by omega) (by omega) (by omega) Try.underlying25 inf22 rfl ?_
        intro bf _ H'; clear H; have H := H'; clear H'
        refine k_nil ?_
        refine t_on H.only ?_
        refine t_up2 7 9 (by kernel_rfl) ?_ ?_
        · refine up_mk rfl ?_
          refine s_mk Value.bool false (m := m) H rfl rfl rfl (by omega) (by omega) (by omega) Try.underlying53 inf4 rfl ?_
          intro bd _ H'; clear H; have H := H'; clear H'
          refine k_nil ?_
          refine t_on H.only ?_
          refine t_up1 9 (by kernel_rfl) ?_
          refine up_mk rfl ?_
          refine s_mk Value.bool false (m := m) H rfl rfl rfl (by omega) (by omega) (by omega) Try.underlying53 inf4 rfl ?_
          intro bp _ H'; clear H; have H := H'; clear H'
          refine k_nil ?_
          refine t_on H.only ?_
          refine t_take 10 rfl (by kernel_rfl) (by kernel_rfl) (by kernel_rfl) rfl (fun _ _ _ _ h => nomatch h.1) rfl (fun _ hS => r_bd (bd114_0_1_2_3_4 _ _ _ _ _ _ _ _ _ _ _ _ _ _ _) rfl) H.only ?_
          refine t_up1 11 (by kernel_rfl) ?_
          refine up_mk rfl ?_
          refine s_box H rfl rfl ?_
          intro p18 _ H'; clear H; have H := H'; clear H'
          refine k_nil ?_
          refine t_on H.only ?_
          refine t_take 12 rfl (by kernel_rfl) (by kernel_rfl) (by kernel_rfl) rfl (fun _ _ _ _ h => nomatch h.1) rfl (fun _ hS => r_as (v := .pointer _) rfl) H.only ?_
          refine t_done (by kernel_rfl) ?_
          have H := HR.more H; clear HR; simp only [List.cons_append, List.nil_append] at H
          refine k_met ?_
          exact ⟨_, _, _, _, _, _, hcc, rfl, H⟩
        · refine up_mk rfl ?_
          refine s_mk Value.bool false (m := m) H rfl rfl rfl (by omega) (by omega) (by omega) Try.underlying53 inf4 rfl ?_
          intro bp _ H'; clear H; have H := H'; clear H'
          refine k_nil ?_
          refine t_on H.only ?_
          refine t_up1 7 (by kernel_rfl) ?_
          refine up_mk rfl ?_
          refine s_mk Value.bool false (m := m) H rfl rfl rfl (by omega) (by omega) (by omega) Try.underlying53 inf4 rfl ?_
          intro bd _ H'; clear H; have H := H'; clear H'
          refine k_nil ?_
          refine t_on H.only ?_
          refine t_take 10 rfl (by kernel_rfl) (by kernel_rfl) (by kernel_rfl) rfl (fun _ _ _ _ h => nomatch h.1) rfl (fun _ hS => r_bd (bd114_0_1_2_3_4 _ _ _ _ _ _ _ _ _ _ _ _ _ _ _) rfl) H.only ?_
          refine t_up1 11 (by kernel_rfl) ?_
          refine up_mk rfl ?_
          refine s_box H rfl rfl ?_
          intro p18 _ H'; clear H; have H := H'; clear H'
          refine k_nil ?_
          refine t_on H.only ?_
          refine t_take 12 rfl (by kernel_rfl) (by kernel_rfl) (by kernel_rfl) rfl (fun _ _ _ _ h => nomatch h.1) rfl (fun _ hS => r_as (v := .pointer _) rfl) H.only ?_
          refine t_done (by kernel_rfl) ?_
          have H' := H.pick 4 rfl; simp only [List.eraseIdx_cons_succ, List.eraseIdx_cons_zero] at H'; clear H; have H := H'; clear H'
          have H' := H.pick 4 rfl; simp only [List.eraseIdx_cons_succ, List.eraseIdx_cons_zero] at H'; clear H; have H := H'; clear H'
          have H' := H.pick 3 rfl; simp only [List.eraseIdx_cons_succ, List.eraseIdx_cons_zero] at H'; clear H; have H := H'; clear H'
          have H' := H.pick 4 rfl; simp only [List.eraseIdx_cons_succ, List.eraseIdx_cons_zero] at H'; clear H; have H := H'; clear H'
          have H' := H.pick 4 rfl; simp only [List.eraseIdx_cons_succ, List.eraseIdx_cons_zero] at H'; clear H; have H := H'; clear H'
          have H := HR.more H; clear HR; simp only [List.cons_append, List.nil_append] at H
          refine k_met ?_
          exact ⟨_, _, _, _, _, _, hcc, rfl, H⟩
      · refine up_mk rfl ?_
        refine s_mk Value.bool false (m := m) H rfl rfl rfl (by omega) (by omega) (by omega) Try.underlying53 inf4 rfl ?_
        intro bd _ H'; clear H; have H := H'; clear H'
        refine k_nil ?_
        refine t_on H.only ?_
        refine t_up2 5 9 (by kernel_rfl) ?_ ?_
        · refine up_mk rfl ?_
          refine s_mk (Value.int .u64) 0 (m := (8 * m)) H rfl rfl rfl (by omega) (by omega) (by omega) Try.underlying25 inf22 rfl ?_
          intro bf _ H'; clear H; have H := H'; clear H'
          refine k_nil ?_
          refine t_on H.only ?_
          refine t_up1 9 (by kernel_rfl) ?_
          refine up_mk rfl ?_
          refine s_mk Value.bool false (m := m) H rfl rfl rfl (by omega) (by omega) (by omega) Try.underlying53 inf4 rfl ?_
          intro bp _ H'; clear H; have H := H'; clear H'
          refine k_nil ?_
          refine t_on H.only ?_
          refine t_take 10 rfl (by kernel_rfl) (by kernel_rfl) (by kernel_rfl) rfl (fun _ _ _ _ h => nomatch h.1) rfl (fun _ hS => r_bd (bd114_0_1_2_3_4 _ _ _ _ _ _ _ _ _ _ _ _ _ _ _) rfl) H.only ?_
          refine t_up1 11 (by kernel_rfl) ?_
          refine up_mk rfl ?_
          refine s_box H rfl rfl ?_
          intro p18 _ H'; clear H; have H := H'; clear H'
          refine k_nil ?_
          refine t_on H.only ?_
          refine t_take 12 rfl (by kernel_rfl) (by kernel_rfl) (by kernel_rfl) rfl (fun _ _ _ _ h => nomatch h.1) rfl (fun _ hS => r_as (v := .pointer _) rfl) H.only ?_
          refine t_done (by kernel_rfl) ?_
          have H' := H.pick 4 rfl; simp only [List.eraseIdx_cons_succ, List.eraseIdx_cons_zero] at H'; clear H; have H := H'; clear H'
          have H' := H.pick 3 rfl; simp only [List.eraseIdx_cons_succ, List.eraseIdx_cons_zero] at H'; clear H; have H := H'; clear H'
          have H' := H.pick 4 rfl; simp only [List.eraseIdx_cons_succ, List.eraseIdx_cons_zero] at H'; clear H; have H := H'; clear H'
          have H' := H.pick 4 rfl; simp only [List.eraseIdx_cons_succ, List.eraseIdx_cons_zero] at H'; clear H; have H := H'; clear H'
          have H' := H.pick 4 rfl; simp only [List.eraseIdx_cons_succ, List.eraseIdx_cons_zero] at H'; clear H; have H := H'; clear H'
          have H := HR.more H; clear HR; simp only [List.cons_append, List.nil_append] at H
          refine k_met ?_
          exact ⟨_, _, _, _, _, _, hcc, rfl, H⟩
        · refine up_mk rfl ?_
          refine s_mk Value.bool false (m := m) H rfl rfl rfl (by omega) (by omega) (by omega) Try.underlying53 inf4 rfl ?_
          intro bp _ H'; clear H; have H := H'; clear H'
          refine k_nil ?_
          refine t_on H.only ?_
          refine t_up1 5 (by kernel_rfl) ?_
          refine up_mk rfl ?_
          refine s_mk (Value.int .u64) 0 (m := (8 * m)) H rfl rfl rfl (by omega) (by omega) (by omega) Try.underlying25 inf22 rfl ?_
          intro bf _ H'; clear H; have H := H'; clear H'
          refine k_nil ?_
          refine t_on H.only ?_
          refine t_take 10 rfl (by kernel_rfl) (by kernel_rfl) (by kernel_rfl) rfl (fun _ _ _ _ h => nomatch h.1) rfl (fun _ hS => r_bd (bd114_0_1_2_3_4 _ _ _ _ _ _ _ _ _ _ _ _ _ _ _) rfl) H.only ?_
          refine t_up1 11 (by kernel_rfl) ?_
          refine up_mk rfl ?_
          refine s_box H rfl rfl ?_
          intro p18 _ H'; clear H; have H := H'; clear H'
          refine k_nil ?_
          refine t_on H.only ?_
          refine t_take 12 rfl (by kernel_rfl) (by kernel_rfl) (by kernel_rfl) rfl (fun _ _ _ _ h => nomatch h.1) rfl (fun _ hS => r_as (v := .pointer _) rfl) H.only ?_
          refine t_done (by kernel_rfl) ?_
          have H' := H.pick 4 rfl; simp only [List.eraseIdx_cons_succ, List.eraseIdx_cons_zero] at H'; clear H; have H := H'; clear H'
          have H' := H.pick 2 rfl; simp only [List.eraseIdx_cons_succ, List.eraseIdx_cons_zero] at H'; clear H; have H := H'; clear H'
          have H' := H.pick 4 rfl; simp only [List.eraseIdx_cons_succ, List.eraseIdx_cons_zero] at H'; clear H; have H := H'; clear H'
          have H' := H.pick 4 rfl; simp only [List.eraseIdx_cons_succ, List.eraseIdx_cons_zero] at H'; clear H; have H := H'; clear H'
          have H' := H.pick 4 rfl; simp only [List.eraseIdx_cons_succ, List.eraseIdx_cons_zero] at H'; clear H; have H := H'; clear H'
          have H := HR.more H; clear HR; simp only [List.cons_append, List.nil_append] at H
          refine k_met ?_
          exact ⟨_, _, _, _, _, _, hcc, rfl, H⟩
      · refine up_mk rfl ?_
        refine s_mk Value.bool false (m := m) H rfl rfl rfl (by omega) (by omega) (by omega) Try.underlying53 inf4 rfl ?_
        intro bp _ H'; clear H; have H := H'; clear H'
        refine k_nil ?_
        refine t_on H.only ?_
        refine t_up2 5 7 (by kernel_rfl) ?_ ?_
        · refine up_mk rfl ?_
          refine s_mk (Value.int .u64) 0 (m := (8 * m)) H rfl rfl rfl (by omega) (by omega) (by omega) Try.underlying25 inf22 rfl ?_
          intro bf _ H'; clear H; have H := H'; clear H'
          refine k_nil ?_
          refine t_on H.only ?_
          refine t_up1 7 (by kernel_rfl) ?_
          refine up_mk rfl ?_
          refine s_mk Value.bool false (m := m) H rfl rfl rfl (by omega) (by omega) (by omega) Try.underlying53 inf4 rfl ?_
          intro bd _ H'; clear H; have H := H'; clear H'
          refine k_nil ?_
          refine t_on H.only ?_
          refine t_take 10 rfl (by kernel_rfl) (by kernel_rfl) (by kernel_rfl) rfl (fun _ _ _ _ h => nomatch h.1) rfl (fun _ hS => r_bd (bd114_0_1_2_3_4 _ _ _ _ _ _ _ _ _ _ _ _ _ _ _) rfl) H.only ?_
          refine t_up1 11 (by kernel_rfl) ?_
          refine up_mk rfl ?_
          refine s_box H rfl rfl ?_
          intro p18 _ H'; clear H; have H := H'; clear H'
          refine k_nil ?_
          refine t_on H.only ?_
          refine t_take 12 rfl (by kernel_rfl) (by kernel_rfl) (by kernel_rfl) rfl (fun _ _ _ _ h => nomatch h.1) rfl (fun _ hS => r_as (v := .pointer _) rfl) H.only ?_
          refine t_done (by kernel_rfl) ?_
          have H' := H.pick 4 rfl; simp only [List.eraseIdx_cons_succ, List.eraseIdx_cons_zero] at H'; clear H; have H := H'; clear H'
          have H' := H.pick 3 rfl; simp only [List.eraseIdx_cons_succ, List.eraseIdx_cons_zero] at H'; clear H; have H := H'; clear H'
          have H' := H.pick 3 rfl; simp only [List.eraseIdx_cons_succ, List.eraseIdx_cons_zero] at H'; clear H; have H := H'; clear H'
          have H' := H.pick 4 rfl; simp only [List.eraseIdx_cons_succ, List.eraseIdx_cons_zero] at H'; clear H; have H := H'; clear H'
          have H' := H.pick 4 rfl; simp only [List.eraseIdx_cons_succ, List.eraseIdx_cons_zero] at H'; clear H; have H := H'; clear H'
          have H := HR.more H; clear HR; simp only [List.cons_append, List.nil_append] at H
          refine k_met ?_
          exact ⟨_, _, _, _, _, _, hcc, rfl, H⟩
        · refine up_mk rfl ?_
          refine s_mk Value.bool false (m := m) H rfl rfl rfl (by omega) (by omega) (by omega) Try.underlying53 inf4 rfl ?_
          intro bd _ H'; clear H; have H := H'; clear H'
          refine k_nil ?_
          refine t_on H.only ?_
          refine t_up1 5 (by kernel_rfl) ?_
          refine up_mk rfl ?_
          refine s_mk (Value.int .u64) 0 (m := (8 * m)) H rfl rfl rfl (by omega) (by omega) (by omega) Try.underlying25 inf22 rfl ?_
          intro bf _ H'; clear H; have H := H'; clear H'
          refine k_nil ?_
          refine t_on H.only ?_
          refine t_take 10 rfl (by kernel_rfl) (by kernel_rfl) (by kernel_rfl) rfl (fun _ _ _ _ h => nomatch h.1) rfl (fun _ hS => r_bd (bd114_0_1_2_3_4 _ _ _ _ _ _ _ _ _ _ _ _ _ _ _) rfl) H.only ?_
          refine t_up1 11 (by kernel_rfl) ?_
          refine up_mk rfl ?_
          refine s_box H rfl rfl ?_
          intro p18 _ H'; clear H; have H := H'; clear H'
          refine k_nil ?_
          refine t_on H.only ?_
          refine t_take 12 rfl (by kernel_rfl) (by kernel_rfl) (by kernel_rfl) rfl (fun _ _ _ _ h => nomatch h.1) rfl (fun _ hS => r_as (v := .pointer _) rfl) H.only ?_
          refine t_done (by kernel_rfl) ?_
          have H' := H.pick 4 rfl; simp only [List.eraseIdx_cons_succ, List.eraseIdx_cons_zero] at H'; clear H; have H := H'; clear H'
          have H' := H.pick 2 rfl; simp only [List.eraseIdx_cons_succ, List.eraseIdx_cons_zero] at H'; clear H; have H := H'; clear H'
          have H' := H.pick 3 rfl; simp only [List.eraseIdx_cons_succ, List.eraseIdx_cons_zero] at H'; clear H; have H := H'; clear H'
          have H' := H.pick 4 rfl; simp only [List.eraseIdx_cons_succ, List.eraseIdx_cons_zero] at H'; clear H; have H := H'; clear H'
          have H' := H.pick 4 rfl; simp only [List.eraseIdx_cons_succ, List.eraseIdx_cons_zero] at H'; clear H; have H := H'; clear H'
          have H := HR.more H; clear HR; simp only [List.cons_append, List.nil_append] at H
          refine k_met ?_
          exact ⟨_, _, _, _, _, _, hcc, rfl, H⟩
    · refine up_mk rfl ?_
      refine s_mk (Value.int .u64) 0 (m := (8 * m)) H rfl rfl rfl (by omega) (by omega) (by omega) Try.underlying25 inf22 rfl ?_
      intro bf _ H'; clear H; have H := H'; clear H'
      refine k_nil ?_
      refine t_on H.only ?_
      refine t_up3 2 7 9 (by kernel_rfl) ?_ ?_ ?_
      · refine up_mk rfl ?_
        refine s_call rfl (nClone _ _ _ ws _ (fun _ => ⟨_, _, rfl, by simp, (HR.same H.only).reads0 0 rfl⟩) (by omega) (by omega)) (ca79 rfl) ?_
        rintro e W1 ⟨bc, cc, rfl, hcc, H'⟩
        refine ⟨_, rfl, ?_⟩
        have H := H.more H'; clear H'
        refine k_nil ?_
        refine t_on H.only ?_
        refine t_up2 7 9 (by kernel_rfl) ?_ ?_
        · refine up_mk rfl ?_
          refine s_mk Value.bool false (m := m) H rfl rfl rfl (by omega) (by omega) (by omega) Try.underlying53 inf4 rfl ?_
          intro bd _ H'; clear H; have H := H'; clear H'
          refine k_nil ?_
          refine t_on H.only ?_
          refine t_up1 9 (by kernel_rfl) ?_
          refine up_mk rfl ?_
          refine s_mk Value.bool false (m := m) H rfl rfl rfl (by omega) (by omega) (by omega) Try.underlying53 inf4 rfl ?_
          intro bp _ H'; clear H; have H := H'; clear H'
          refine k_nil ?_
          refine t_on H.only ?_
          refine t_take 10 rfl (by kernel_rfl) (by kernel_rfl) (by kernel_rfl) rfl (fun _ _ _ _ h => nomatch h.1) rfl (fun _ hS => r_bd (bd114_0_1_2_3_4 _ _ _ _ _ _ _ _ _ _ _ _ _ _ _) rfl) H.only ?_
          refine t_up1 11 (by kernel_rfl) ?_
          refine up_mk rfl ?_
          refine s_box H rfl rfl ?_
          intro p18 _ H'; clear H; have H := H'; clear H'
          refine k_nil ?_
          refine t_on H.only ?_
          refine t_take 12 rfl (by kernel_rfl) (by kernel_rfl) (by kernel_rfl) rfl (fun _ _ _ _ h => nomatch h.1) rfl (fun _ hS => r_as (v := .pointer _) rfl) H.only ?_
          refine t_done (by kernel_rfl) ?_
          have H' := H.pick 3 rfl; simp only [List.eraseIdx_cons_succ, List.eraseIdx_cons_zero] at H'; clear H; have H := H'; clear H'
          have H' := H.pick 4 rfl; simp only [List.eraseIdx_cons_succ, List.eraseIdx_cons_zero] at H'; clear H; have H := H'; clear H'
          have H' := H.pick 4 rfl; simp only [List.eraseIdx_cons_succ, List.eraseIdx_cons_zero] at H'; clear H; have H := H'; clear H'
          have H' := H.pick 4 rfl; simp only [List.eraseIdx_cons_succ, List.eraseIdx_cons_zero] at H'; clear H; have H := H'; clear H'
          have H' := H.pick 4 rfl; simp only [List.eraseIdx_cons_succ, List.eraseIdx_cons_zero] at H'; clear H; have H := H'; clear H'
          have H := HR.more H; clear HR; simp only [List.cons_append, List.nil_append] at H
          refine k_met ?_
          exact ⟨_, _, _, _, _, _, hcc, rfl, H⟩
        · refine up_mk rfl ?_
          refine s_mk Value.bool false (m := m) H rfl rfl rfl (by omega) (by omega) (by omega) Try.underlying53 inf4 rfl ?_
          intro bp _ H'; clear H; have H := H'; clear H'
          refine k_nil ?_
          refine t_on H.only ?_
          refine t_up1 7 (by kernel_rfl) ?_
          refine up_mk rfl ?_
          refine s_mk Value.bool false (m := m) H rfl rfl rfl (by omega) (by omega) (by omega) Try.underlying53 inf4 rfl ?_
          intro bd _ H'; clear H; have H := H'; clear H'
          refine k_nil ?_
          refine t_on H.only ?_
          refine t_take 10 rfl (by kernel_rfl) (by kernel_rfl) (by kernel_rfl) rfl (fun _ _ _ _ h => nomatch h.1) rfl (fun _ hS => r_bd (bd114_0_1_2_3_4 _ _ _ _ _ _ _ _ _ _ _ _ _ _ _) rfl) H.only ?_
          refine t_up1 11 (by kernel_rfl) ?_
          refine up_mk rfl ?_
          refine s_box H rfl rfl ?_
          intro p18 _ H'; clear H; have H := H'; clear H'
          refine k_nil ?_
          refine t_on H.only ?_
          refine t_take 12 rfl (by kernel_rfl) (by kernel_rfl) (by kernel_rfl) rfl (fun _ _ _ _ h => nomatch h.1) rfl (fun _ hS => r_as (v := .pointer _) rfl) H.only ?_
          refine t_done (by kernel_rfl) ?_
          have H' := H.pick 3 rfl; simp only [List.eraseIdx_cons_succ, List.eraseIdx_cons_zero] at H'; clear H; have H := H'; clear H'
          have H' := H.pick 4 rfl; simp only [List.eraseIdx_cons_succ, List.eraseIdx_cons_zero] at H'; clear H; have H := H'; clear H'
          have H' := H.pick 3 rfl; simp only [List.eraseIdx_cons_succ, List.eraseIdx_cons_zero] at H'; clear H; have H := H'; clear H'
          have H' := H.pick 4 rfl; simp only [List.eraseIdx_cons_succ, List.eraseIdx_cons_zero] at H'; clear H; have H := H'; clear H'
          have H' := H.pick 4 rfl; simp only [List.eraseIdx_cons_succ, List.eraseIdx_cons_zero] at H'; clear H; have H := H'; clear H'
          have H := HR.more H; clear HR; simp only [List.cons_append, List.nil_append] at H
          refine k_met ?_
          exact ⟨_, _, _, _, _, _, hcc, rfl, H⟩
      · refine up_mk rfl ?_
        refine s_mk Value.bool false (m := m) H rfl rfl rfl (by omega) (by omega) (by omega) Try.underlying53 inf4 rfl ?_
        intro bd _ H'; clear H; have H := H'; clear H'
        refine k_nil ?_
        refine t_on H.only ?_
        refine t_up2 2 9 (by kernel_rfl) ?_ ?_
        · refine up_mk rfl ?_
          refine s_call rfl (nClone _ _ _ ws _ (fun _ => ⟨_, _, rfl, by simp, (HR.same H.only).reads0 0 rfl⟩) (by omega) (by omega)) (ca79 rfl) ?_
          rintro e W1 ⟨bc, cc, rfl, hcc, H'⟩
          refine ⟨_, rfl, ?_⟩
          have H := H.more H'; clear H'
          refine k_nil ?_
          refine t_on H.only ?_
          refine t_up1 9 (by kernel_rfl) ?_
          refine up_mk rfl ?_
          refine s_mk Value.bool false (m := m) H rfl rfl rfl (by omega) (by omega) (by omega) Try.underlying53 inf4 rfl ?_
          intro bp _ H'; clear H; have H := H'; clear H'
          refine k_nil ?_
          refine t_on H.only ?_
          refine t_take 10 rfl (by kernel_rfl) (by kernel_rfl) (by kernel_rfl) rfl (fun _ _ _ _ h => nomatch h.1) rfl (fun _ hS => r_bd (bd114_0_1_2_3_4 _ _ _ _ _ _ _ _ _ _ _ _ _ _ _) rfl) H.only ?_
          refine t_up1 11 (by kernel_rfl) ?_
          refine up_mk rfl ?_
          refine s_box H rfl rfl ?_
          intro p18 _ H'; clear H; have H := H'; clear H'
          refine k_nil ?_
          refine t_on H.only ?_
          refine t_take 12 rfl (by kernel_rfl) (by kernel_rfl) (by kernel_rfl) rfl (fun _ _ _ _ h => nomatch h.1) rfl (fun _ hS => r_as (v := .pointer _) rfl) H.only ?_
          refine t_done (by kernel_rfl) ?_
          have H' := H.pick 2 rfl; simp only [List.eraseIdx_cons_succ, List.eraseIdx_cons_zero] at H'; clear H; have H := H'; clear H'
          have H' := H.pick 4 rfl; simp only [List.eraseIdx_cons_succ, List.eraseIdx_cons_zero] at H'; clear H; have H := H'; clear H'
          have H' := H.pick 4 rfl; simp only [List.eraseIdx_cons_succ, List.eraseIdx_cons_zero] at H'; clear H; have H := H'; clear H'
          have H' := H.pick 4 rfl; simp only [List.eraseIdx_cons_succ, List.eraseIdx_cons_zero] at H'; clear H; have H := H'; clear H'
          have H' := H.pick 4 rfl; simp only [List.eraseIdx_cons_succ, List.eraseIdx_cons_zero] at H'; clear H; have H := H'; clear H'
          have H := HR.more H; clear HR; simp only [List.cons_append, List.nil_append] at H
          refine k_met ?_
          exact ⟨_, _, _, _, _, _, hcc, rfl, H⟩
        · refine up_mk rfl ?_
          refine s_mk Value.bool false (m := m) H rfl rfl rfl (by omega) (by omega) (by omega) Try.underlying53 inf4 rfl ?_
          intro bp _ H'; clear H; have H := H'; clear H'
          refine k_nil ?_
          refine t_on H.only ?_
          refine t_up1 2 (by kernel_rfl) ?_
          refine up_mk rfl ?_
          refine s_call rfl (nClone _ _ _ ws _ (fun _ => ⟨_, _, rfl, by simp, (HR.same H.only).reads0 0 rfl⟩) (by omega) (by omega)) (ca79 rfl) ?_
          rintro e W1 ⟨bc, cc, rfl, hcc, H'⟩
          refine ⟨_, rfl, ?_⟩
          have H := H.more H'; clear H'
          refine k_nil ?_
          refine t_on H.only ?_
          refine t_take 10 rfl (by kernel_rfl) (by kernel_rfl) (by kernel_rfl) rfl (fun _ _ _ _ h => nomatch h.1) rfl (fun _ hS => r_bd (bd114_0_1_2_3_4 _ _ _ _ _ _ _ _ _ _ _ _ _ _ _) rfl) H.only ?_
          refine t_up1 11 (by kernel_rfl) ?_
          refine up_mk rfl ?_
          refine s_box H rfl rfl ?_
          intro p18 _ H'; clear H; have H := H'; clear H'
          refine k_nil ?_
          refine t_on H.only ?_
          refine t_take 12 rfl (by kernel_rfl) (by kernel_rfl) (by kernel_rfl) rfl (fun _ _ _ _ h => nomatch h.1) rfl (fun _ hS => r_as (v := .pointer _) rfl) H.only ?_
          refine t_done (by kernel_rfl) ?_
          have H' := H.pick 1 rfl; simp only [List.eraseIdx_cons_succ, List.eraseIdx_cons_zero] at H'; clear H; have H := H'; clear H'
          have H' := H.pick 4 rfl; simp only [List.eraseIdx_cons_succ, List.eraseIdx_cons_zero] at H'; clear H; have H := H'; clear H'
          have H' := H.pick 4 rfl; simp only [List.eraseIdx_cons_succ, List.eraseIdx_cons_zero] at H'; clear H; have H := H'; clear H'
          have H' := H.pick 4 rfl; simp only [List.eraseIdx_cons_succ, List.eraseIdx_cons_zero] at H'; clear H; have H := H'; clear H'
          have H' := H.pick 4 rfl; simp only [List.eraseIdx_cons_succ, List.eraseIdx_cons_zero] at H'; clear H; have H := H'; clear H'
          have H := HR.more H; clear HR; simp only [List.cons_append, List.nil_append] at H
          refine k_met ?_
          exact ⟨_, _, _, _, _, _, hcc, rfl, H⟩
      · refine up_mk rfl ?_
        refine s_mk Value.bool false (m := m) H rfl rfl rfl (by omega) (by omega) (by omega) Try.underlying53 inf4 rfl ?_
        intro bp _ H'; clear H; have H := H'; clear H'
        refine k_nil ?_
        refine t_on H.only ?_
        refine t_up2 2 7 (by kernel_rfl) ?_ ?_
        · refine up_mk rfl ?_
          refine s_call rfl (nClone _ _ _ ws _ (fun _ => ⟨_, _, rfl, by simp, (HR.same H.only).reads0 0 rfl⟩) (by omega) (by omega)) (ca79 rfl) ?_
          rintro e W1 ⟨bc, cc, rfl, hcc, H'⟩
          refine ⟨_, rfl, ?_⟩
          have H := H.more H'; clear H'
          refine k_nil ?_
          refine t_on H.only ?_
          refine t_up1 7 (by kernel_rfl) ?_
          refine up_mk rfl ?_
          refine s_mk Value.bool false (m := m) H rfl rfl rfl (by omega) (by omega) (by omega) Try.underlying53 inf4 rfl ?_
          intro bd _ H'; clear H; have H := H'; clear H'
          refine k_nil ?_
          refine t_on H.only ?_
          refine t_take 10 rfl (by kernel_rfl) (by kernel_rfl) (by kernel_rfl) rfl (fun _ _ _ _ h => nomatch h.1) rfl (fun _ hS => r_bd (bd114_0_1_2_3_4 _ _ _ _ _ _ _ _ _ _ _ _ _ _ _) rfl) H.only ?_
          refine t_up1 11 (by kernel_rfl) ?_
          refine up_mk rfl ?_
          refine s_box H rfl rfl ?_
          intro p18 _ H'; clear H; have H := H'; clear H'
          refine k_nil ?_
          refine t_on H.only ?_
          refine t_take 12 rfl (by kernel_rfl) (by kernel_rfl) (by kernel_rfl) rfl (fun _ _ _ _ h => nomatch h.1) rfl (fun _ hS => r_as (v := .pointer _) rfl) H.only ?_
          refine t_done (by kernel_rfl) ?_
          have H' := H.pick 2 rfl; simp only [List.eraseIdx_cons_succ, List.eraseIdx_cons_zero] at H'; clear H; have H := H'; clear H'
          have H' := H.pick 4 rfl; simp only [List.eraseIdx_cons_succ, List.eraseIdx_cons_zero] at H'; clear H; have H := H'; clear H'
          have H' := H.pick 3 rfl; simp only [List.eraseIdx_cons_succ, List.eraseIdx_cons_zero] at H'; clear H; have H := H'; clear H'
          have H' := H.pick 4 rfl; simp only [List.eraseIdx_cons_succ, List.eraseIdx_cons_zero] at H'; clear H; have H := H'; clear H'
          have H' := H.pick 4 rfl; simp only [List.eraseIdx_cons_succ, List.eraseIdx_cons_zero] at H'; clear H; have H := H'; clear H'
          have H := HR.more H; clear HR; simp only [List.cons_append, List.nil_append] at H
          refine k_met ?_
          exact ⟨_, _, _, _, _, _, hcc, rfl, H⟩
        · refine up_mk rfl ?_
          refine s_mk Value.bool false (m := m) H rfl rfl rfl (by omega) (by omega) (by omega) Try.underlying53 inf4 rfl ?_
          intro bd _ H'; clear H; have H := H'; clear H'
          refine k_nil ?_
          refine t_on H.only ?_
          refine t_up1 2 (by kernel_rfl) ?_
          refine up_mk rfl ?_
          refine s_call rfl (nClone _ _ _ ws _ (fun _ => ⟨_, _, rfl, by simp, (HR.same H.only).reads0 0 rfl⟩) (by omega) (by omega)) (ca79 rfl) ?_
          rintro e W1 ⟨bc, cc, rfl, hcc, H'⟩
          refine ⟨_, rfl, ?_⟩
          have H := H.more H'; clear H'
          refine k_nil ?_
          refine t_on H.only ?_
          refine t_take 10 rfl (by kernel_rfl) (by kernel_rfl) (by kernel_rfl) rfl (fun _ _ _ _ h => nomatch h.1) rfl (fun _ hS => r_bd (bd114_0_1_2_3_4 _ _ _ _ _ _ _ _ _ _ _ _ _ _ _) rfl) H.only ?_
          refine t_up1 11 (by kernel_rfl) ?_
          refine up_mk rfl ?_
          refine s_box H rfl rfl ?_
          intro p18 _ H'; clear H; have H := H'; clear H'
          refine k_nil ?_
          refine t_on H.only ?_
          refine t_take 12 rfl (by kernel_rfl) (by kernel_rfl) (by kernel_rfl) rfl (fun _ _ _ _ h => nomatch h.1) rfl (fun _ hS => r_as (v := .pointer _) rfl) H.only ?_
          refine t_done (by kernel_rfl) ?_
          have H' := H.pick 1 rfl; simp only [List.eraseIdx_cons_succ, List.eraseIdx_cons_zero] at H'; clear H; have H := H'; clear H'
          have H' := H.pick 4 rfl; simp only [List.eraseIdx_cons_succ, List.eraseIdx_cons_zero] at H'; clear H; have H := H'; clear H'
          have H' := H.pick 3 rfl; simp only [List.eraseIdx_cons_succ, List.eraseIdx_cons_zero] at H'; clear H; have H := H'; clear H'
          have H' := H.pick 4 rfl; simp only [List.eraseIdx_cons_succ, List.eraseIdx_cons_zero] at H'; clear H; have H := H'; clear H'
          have H' := H.pick 4 rfl; simp only [List.eraseIdx_cons_succ, List.eraseIdx_cons_zero] at H'; clear H; have H := H'; clear H'
          have H := HR.more H; clear HR; simp only [List.cons_append, List.nil_append] at H
          refine k_met ?_
          exact ⟨_, _, _, _, _, _, hcc, rfl, H⟩
    · refine up_mk rfl ?_
      refine s_mk Value.bool false (m := m) H rfl rfl rfl (by omega) (by omega) (by omega) Try.underlying53 inf4 rfl ?_
      intro bd _ H'; clear H; have H := H'; clear H'
      refine k_nil ?_
      refine t_on H.only ?_
      refine t_up3 2 5 9 (by kernel_rfl) ?_ ?_ ?_
      · refine up_mk rfl ?_
        refine s_call rfl (nClone _ _ _ ws _ (fun _ => ⟨_, _, rfl, by simp, (HR.same H.only).reads0 0 rfl⟩) (by omega) (by omega)) (ca79 rfl) ?_
        rintro e W1 ⟨bc, cc, rfl, hcc, H'⟩
        refine ⟨_, rfl, ?_⟩
        have H := H.more H'; clear H'
        refine k_nil ?_
        refine t_on H.only ?_
        refine t_up2 5 9 (by kernel_rfl) ?_ ?_
        · refine up_mk rfl ?_
          refine s_mk (Value.int .u64) 0 (m := (8 * m)) H rfl rfl rfl (by omega) (by omega) (by omega) Try.underlying25 inf22 rfl ?_
          intro bf _ H'; clear H; have H := H'; clear H'
          refine k_nil ?_
          refine t_on H.only ?_
          refine t_up1 9 (by kernel_rfl) ?_
          refine up_mk rfl ?_
          refine s_mk Value.bool false (m := m) H rfl rfl rfl (by omega) (by omega) (by omega) Try.underlying53 inf4 rfl ?_
          intro bp _ H'; clear H; have H := H'; clear H'
          refine k_nil ?_
          refine t_on H.only ?_
          refine t_take 10 rfl (by kernel_rfl) (by kernel_rfl) (by kernel_rfl) rfl (fun _ _ _ _ h => nomatch h.1) rfl (fun _ hS => r_bd (bd114_0_1_2_3_4 _ _ _ _ _ _ _ _ _ _ _ _ _ _ _) rfl) H.only ?_
          refine t_up1 11 (by kernel_rfl) ?_
          refine up_mk rfl ?_
          refine s_box H rfl rfl ?_
          intro p18 _ H'; clear H; have H := H'; clear H'
          refine k_nil ?_
          refine t_on H.only ?_
          refine t_take 12 rfl (by kernel_rfl) (by kernel_rfl) (by kernel_rfl) rfl (fun _ _ _ _ h => nomatch h.1) rfl (fun _ hS => r_as (v := .pointer _) rfl) H.only ?_
          refine t_done (by kernel_rfl) ?_
          have H' := H.pick 3 rfl; simp only [List.eraseIdx_cons_succ, List.eraseIdx_cons_zero] at H'; clear H; have H := H'; clear H'
          have H' := H.pick 3 rfl; simp only [List.eraseIdx_cons_succ, List.eraseIdx_cons_zero] at H'; clear H; have H := H'; clear H'
          have H' := H.pick 4 rfl; simp only [List.eraseIdx_cons_succ, List.eraseIdx_cons_zero] at H'; clear H; have H := H'; clear H'
          have H' := H.pick 4 rfl; simp only [List.eraseIdx_cons_succ, List.eraseIdx_cons_zero] at H'; clear H; have H := H'; clear H'
          have H' := H.pick 4 rfl; simp only [List.eraseIdx_cons_succ, List.eraseIdx_cons_zero] at H'; clear H; have H := H'; clear H'
          have H := HR.more H; clear HR; simp only [List.cons_append, List.nil_append] at H
          refine k_met ?_
          exact ⟨_, _, _, _, _, _, hcc, rfl, H⟩
        · refine up_mk rfl ?_
          refine s_mk Value.bool false (m := m) H rfl rfl rfl (by omega) (by omega) (by omega) Try.underlying53 inf4 rfl ?_
          intro bp _ H'; clear H; have H := H'; clear H'
          refine k_nil ?_
          refine t_on H.only ?_
          refine t_up1 5 (by kernel_rfl) ?_
          refine up_mk rfl ?_
          refine s_mk (Value.int .u64) 0 (m := (8 * m)) H rfl rfl rfl (by omega) (by omega) (by omega) Try.underlying25 inf22 rfl ?_
          intro bf _ H'; clear H; have H := H'; clear H'
          refine k_nil ?_
          refine t_on H.only ?_
          refine t_take 10 rfl (by kernel_rfl) (by kernel_rfl) (by kernel_rfl) rfl (fun _ _ _ _ h => nomatch h.1) rfl (fun _ hS => r_bd (bd114_0_1_2_3_4 _ _ _ _ _ _ _ _ _ _ _ _ _ _ _) rfl) H.only ?_
          refine t_up1 11 (by kernel_rfl) ?_
          refine up_mk rfl ?_
          refine s_box H rfl rfl ?_
          intro p18 _ H'; clear H; have H := H'; clear H'
          refine k_nil ?_
          refine t_on H.only ?_
          refine t_take 12 rfl (by kernel_rfl) (by kernel_rfl) (by kernel_rfl) rfl (fun _ _ _ _ h => nomatch h.1) rfl (fun _ hS => r_as (v := .pointer _) rfl) H.only ?_
          refine t_done (by kernel_rfl) ?_
          have H' := H.pick 3 rfl; simp only [List.eraseIdx_cons_succ, List.eraseIdx_cons_zero] at H'; clear H; have H := H'; clear H'
          have H' := H.pick 2 rfl; simp only [List.eraseIdx_cons_succ, List.eraseIdx_cons_zero] at H'; clear H; have H := H'; clear H'
          have H' := H.pick 4 rfl; simp only [List.eraseIdx_cons_succ, List.eraseIdx_cons_zero] at H'; clear H; have H := H'; clear H'
          have H' := H.pick 4 rfl; simp only [List.eraseIdx_cons_succ, List.eraseIdx_cons_zero] at H'; clear H; have H := H'; clear H'
          have H' := H.pick 4 rfl; simp only [List.eraseIdx_cons_succ, List.eraseIdx_cons_zero] at H'; clear H; have H := H'; clear H'
          have H := HR.more H; clear HR; simp only [List.cons_append, List.nil_append] at H
          refine k_met ?_
          exact ⟨_, _, _, _, _, _, hcc, rfl, H⟩
      · refine up_mk rfl ?_
        refine s_mk (Value.int .u64) 0 (m := (8 * m)) H rfl rfl rfl (by omega) (by omega) (by omega) Try.underlying25 inf22 rfl ?_
        intro bf _ H'; clear H; have H := H'; clear H'
        refine k_nil ?_
        refine t_on H.only ?_
        refine t_up2 2 9 (by kernel_rfl) ?_ ?_
        · refine up_mk rfl ?_
          refine s_call rfl (nClone _ _ _ ws _ (fun _ => ⟨_, _, rfl, by simp, (HR.same H.only).reads0 0 rfl⟩) (by omega) (by omega)) (ca79 rfl) ?_
          rintro e W1 ⟨bc, cc, rfl, hcc, H'⟩
          refine ⟨_, rfl, ?_⟩
          have H := H.more H'; clear H'
          refine k_nil ?_
          refine t_on H.only ?_
          refine t_up1 9 (by kernel_rfl) ?_
          refine up_mk rfl ?_
          refine s_mk Value.bool false (m := m) H rfl rfl rfl (by omega) (by omega) (by omega) Try.underlying53 inf4 rfl ?_
          intro bp _ H'; clear H; have H := H'; clear H'
          refine k_nil ?_
          refine t_on H.only ?_
          refine t_take 10 rfl (by kernel_rfl) (by kernel_rfl) (by kernel_rfl) rfl (fun _ _ _ _ h => nomatch h.1) rfl (fun _ hS => r_bd (bd114_0_1_2_3_4 _ _ _ _ _ _ _ _ _ _ _ _ _ _ _) rfl) H.only ?_
          refine t_up1 11 (by kernel_rfl) ?_
          refine up_mk rfl ?_
          refine s_box H rfl rfl ?_
          intro p18 _ H'; clear H; have H := H'; clear H'
          refine k_nil ?_
          refine t_on H.only ?_
          refine t_take 12 rfl (by kernel_rfl) (by kernel_rfl) (by kernel_rfl) rfl (fun _ _ _ _ h => nomatch h.1) rfl (fun _ hS => r_as (v := .pointer _) rfl) H.only ?_
          refine t_done (by kernel_rfl) ?_
          have H' := H.pick 2 rfl; simp only [List.eraseIdx_cons_succ, List.eraseIdx_cons_zero] at H'; clear H; have H := H'; clear H'
          have H' := H.pick 3 rfl; simp only [List.eraseIdx_cons_succ, List.eraseIdx_cons_zero] at H'; clear H; have H := H'; clear H'
          have H' := H.pick 4 rfl; simp only [List.eraseIdx_cons_succ, List.eraseIdx_cons_zero] at H'; clear H; have H := H'; clear H'
          have H' := H.pick 4 rfl; simp only [List.eraseIdx_cons_succ, List.eraseIdx_cons_zero] at H'; clear H; have H := H'; clear H'
          have H' := H.pick 4 rfl; simp only [List.eraseIdx_cons_succ, List.eraseIdx_cons_zero] at H'; clear H; have H := H'; clear H'
          have H := HR.more H; clear HR; simp only [List.cons_append, List.nil_append] at H
          refine k_met ?_
          exact ⟨_, _, _, _, _, _, hcc, rfl, H⟩
        · refine up_mk rfl ?_
          refine s_mk Value.bool false (m := m) H rfl rfl rfl (by omega) (by omega) (by omega) Try.underlying53 inf4 rfl ?_
          intro bp _ H'; clear H; have H := H'; clear H'
          refine k_nil ?_
          refine t_on H.only ?_
          refine t_up1 2 (by kernel_rfl) ?_
          refine up_mk rfl ?_
          refine s_call rfl (nClone _ _ _ ws _ (fun _ => ⟨_, _, rfl, by simp, (HR.same H.only).reads0 0 rfl⟩) (by omega) (by omega)) (ca79 rfl) ?_
          rintro e W1 ⟨bc, cc, rfl, hcc, H'⟩
          refine ⟨_, rfl, ?_⟩
          have H := H.more H'; clear H'
          refine k_nil ?_
          refine t_on H.only ?_
          refine t_take 10 rfl (by kernel_rfl) (by kernel_rfl) (by kernel_rfl) rfl (fun _ _ _ _ h => nomatch h.1) rfl (fun _ hS => r_bd (bd114_0_1_2_3_4 _ _ _ _ _ _ _ _ _ _ _ _ _ _ _) rfl) H.only ?_
          refine t_up1 11 (by kernel_rfl) ?_
          refine up_mk rfl ?_
          refine s_box H rfl rfl ?_
          intro p18 _ H'; clear H; have H := H'; clear H'
          refine k_nil ?_
          refine t_on H.only ?_
          refine t_take 12 rfl (by kernel_rfl) (by kernel_rfl) (by kernel_rfl) rfl (fun _ _ _ _ h => nomatch h.1) rfl (fun _ hS => r_as (v := .pointer _) rfl) H.only ?_
          refine t_done (by kernel_rfl) ?_
          have H' := H.pick 1 rfl; simp only [List.eraseIdx_cons_succ, List.eraseIdx_cons_zero] at H'; clear H; have H := H'; clear H'
          have H' := H.pick 3 rfl; simp only [List.eraseIdx_cons_succ, List.eraseIdx_cons_zero] at H'; clear H; have H := H'; clear H'
          have H' := H.pick 4 rfl; simp only [List.eraseIdx_cons_succ, List.eraseIdx_cons_zero] at H'; clear H; have H := H'; clear H'
          have H' := H.pick 4 rfl; simp only [List.eraseIdx_cons_succ, List.eraseIdx_cons_zero] at H'; clear H; have H := H'; clear H'
          have H' := H.pick 4 rfl; simp only [List.eraseIdx_cons_succ, List.eraseIdx_cons_zero] at H'; clear H; have H := H'; clear H'
          have H := HR.more H; clear HR; simp only [List.cons_append, List.nil_append] at H
          refine k_met ?_
          exact ⟨_, _, _, _, _, _, hcc, rfl, H⟩
      · refine up_mk rfl ?_
        refine s_mk Value.bool false (m := m) H rfl rfl rfl (by omega) (by omega) (by omega) Try.underlying53 inf4 rfl ?_
        intro bp _ H'; clear H; have H := H'; clear H'
        refine k_nil ?_
        refine t_on H.only ?_
        refine t_up2 2 5 (by kernel_rfl) ?_ ?_
        · refine up_mk rfl ?_
          refine s_call rfl (nClone _ _ _ ws _ (fun _ => ⟨_, _, rfl, by simp, (HR.same H.only).reads0 0 rfl⟩) (by omega) (by omega)) (ca79 rfl) ?_
          rintro e W1 ⟨bc, cc, rfl, hcc, H'⟩
          refine ⟨_, rfl, ?_⟩
          have H := H.more H'; clear H'
          refine k_nil ?_
          refine t_on H.only ?_
          refine t_up1 5 (by kernel_rfl) ?_
          refine up_mk rfl ?_
          refine s_mk (Value.int .u64) 0 (m := (8 * m)) H rfl rfl rfl (by omega) (by omega) (by omega) Try.underlying25 inf22 rfl ?_
          intro bf _ H'; clear H; have H := H'; clear H'
          refine k_nil ?_
          refine t_on H.only ?_
          refine t_take 10 rfl (by kernel_rfl) (by kernel_rfl) (by kernel_rfl) rfl (fun _ _ _ _ h => nomatch h.1) rfl (fun _ hS => r_bd (bd114_0_1_2_3_4 _ _ _ _ _ _ _ _ _ _ _ _ _ _ _) rfl) H.only ?_
          refine t_up1 11 (by kernel_rfl) ?_
          refine up_mk rfl ?_
          refine s_box H rfl rfl ?_
          intro p18 _ H'; clear H; have H := H'; clear H'
          refine k_nil ?_
          refine t_on H.only ?_
          refine t_take 12 rfl (by kernel_rfl) (by kernel_rfl) (by kernel_rfl) rfl (fun _ _ _ _ h => nomatch h.1) rfl (fun _ hS => r_as (v := .pointer _) rfl) H.only ?_
          refine t_done (by kernel_rfl) ?_
          have H' := H.pick 2 rfl; simp only [List.eraseIdx_cons_succ, List.eraseIdx_cons_zero] at H'; clear H; have H := H'; clear H'
          have H' := H.pick 2 rfl; simp only [List.eraseIdx_cons_succ, List.eraseIdx_cons_zero] at H'; clear H; have H := H'; clear H'
          have H' := H.pick 4 rfl; simp only [List.eraseIdx_cons_succ, List.eraseIdx_cons_zero] at H'; clear H; have H := H'; clear H'
          have H' := H.pick 4 rfl; simp only [List.eraseIdx_cons_succ, List.eraseIdx_cons_zero] at H'; clear H; have H := H'; clear H'
          have H' := H.pick 4 rfl; simp only [List.eraseIdx_cons_succ, List.eraseIdx_cons_zero] at H'; clear H; have H := H'; clear H'
          have H := HR.more H; clear HR; simp only [List.cons_append, List.nil_append] at H
          refine k_met ?_
          exact ⟨_, _, _, _, _, _, hcc, rfl, H⟩
        · refine up_mk rfl ?_
          refine s_mk (Value.int .u64) 0 (m := (8 * m)) H rfl rfl rfl (by omega) (by omega) (by omega) Try.underlying25 inf22 rfl ?_
          intro bf _ H'; clear H; have H := H'; clear H'
          refine k_nil ?_
          refine t_on H.only ?_
          refine t_up1 2 (by kernel_rfl) ?_
          refine up_mk rfl ?_
          refine s_call rfl (nClone _ _ _ ws _ (fun _ => ⟨_, _, rfl, by simp, (HR.same H.only).reads0 0 rfl⟩) (by omega) (by omega)) (ca79 rfl) ?_
          rintro e W1 ⟨bc, cc, rfl, hcc, H'⟩
          refine ⟨_, rfl, ?_⟩
          have H := H.more H'; clear H'
          refine k_nil ?_
          refine t_on H.only ?_
          refine t_take 10 rfl (by kernel_rfl) (by kernel_rfl) (by kernel_rfl) rfl (fun _ _ _ _ h => nomatch h.1) rfl (fun _ hS => r_bd (bd114_0_1_2_3_4 _ _ _ _ _ _ _ _ _ _ _ _ _ _ _) rfl) H.only ?_
          refine t_up1 11 (by kernel_rfl) ?_
          refine up_mk rfl ?_
          refine s_box H rfl rfl ?_
          intro p18 _ H'; clear H; have H := H'; clear H'
          refine k_nil ?_
          refine t_on H.only ?_
          refine t_take 12 rfl (by kernel_rfl) (by kernel_rfl) (by kernel_rfl) rfl (fun _ _ _ _ h => nomatch h.1) rfl (fun _ hS => r_as (v := .pointer _) rfl) H.only ?_
          refine t_done (by kernel_rfl) ?_
          have H' := H.pick 1 rfl; simp only [List.eraseIdx_cons_succ, List.eraseIdx_cons_zero] at H'; clear H; have H := H'; clear H'
          have H' := H.pick 2 rfl; simp only [List.eraseIdx_cons_succ, List.eraseIdx_cons_zero] at H'; clear H; have H := H'; clear H'
          have H' := H.pick 4 rfl; simp only [List.eraseIdx_cons_succ, List.eraseIdx_cons_zero] at H'; clear H; have H := H'; clear H'
          have H' := H.pick 4 rfl; simp only [List.eraseIdx_cons_succ, List.eraseIdx_cons_zero] at H'; clear H; have H := H'; clear H'
          have H' := H.pick 4 rfl; simp only [List.eraseIdx_cons_succ, List.eraseIdx_cons_zero] at H'; clear H; have H := H'; clear H'
          have H := HR.more H; clear HR; simp only [List.cons_append, List.nil_append] at H
          refine k_met ?_
          exact ⟨_, _, _, _, _, _, hcc, rfl, H⟩
    · refine up_mk rfl ?_
      refine s_mk Value.bool false (m := m) H rfl rfl rfl (by omega) (by omega) (by omega) Try.underlying53 inf4 rfl ?_
      intro bp _ H'; clear H; have H := H'; clear H'
      refine k_nil ?_
      refine t_on H.only ?_
      refine t_up3 2 5 7 (by kernel_rfl) ?_ ?_ ?_
      · refine up_mk rfl ?_
        refine s_call rfl (nClone _ _ _ ws _ (fun _ => ⟨_, _, rfl, by simp, (HR.same H.only).reads0 0 rfl⟩) (by omega) (by omega)) (ca79 rfl) ?_
        rintro e W1 ⟨bc, cc, rfl, hcc, H'⟩
        refine ⟨_, rfl, ?_⟩
        have H := H.more H'; clear H'
        refine k_nil ?_
        refine t_on H.only ?_
        refine t_up2 5 7 (by kernel_rfl) ?_ ?_
        · refine up_mk rfl ?_
          refine s_mk (Value.int .u64) 0 (m := (8 * m)) H rfl rfl rfl (by omega) (by omega) (by omega) Try.underlying25 inf22 rfl ?_
          intro bf _ H'; clear H; have H := H'; clear H'
          refine k_nil ?_
          refine t_on H.only ?_
          refine t_up1 7 (by kernel_rfl) ?_
          refine up_mk rfl ?_
          refine s_mk Value.bool false (m := m) H rfl rfl rfl (by omega) (by omega) (by omega) Try.underlying53 inf4 rfl ?_
          intro bd _ H'; clear H; have H := H'; clear H'
          refine k_nil ?_
          refine t_on H.only ?_
          refine t_take 10 rfl (by kernel_rfl) (by kernel_rfl) (by kernel_rfl) rfl (fun _ _ _ _ h => nomatch h.1) rfl (fun _ hS => r_bd (bd114_0_1_2_3_4 _ _ _ _ _ _ _ _ _ _ _ _ _ _ _) rfl) H.only ?_
          refine t_up1 11 (by kernel_rfl) ?_
          refine up_mk rfl ?_
          refine s_box H rfl rfl ?_
          intro p18 _ H'; clear H; have H := H'; clear H'
          refine k_nil ?_
          refine t_on H.only ?_
          refine t_take 12 rfl (by kernel_rfl) (by kernel_rfl) (by kernel_rfl) rfl (fun _ _ _ _ h => nomatch h.1) rfl (fun _ hS => r_as (v := .pointer _) rfl) H.only ?_
          refine t_done (by kernel_rfl) ?_
          have H' := H.pick 3 rfl; simp only [List.eraseIdx_cons_succ, List.eraseIdx_cons_zero] at H'; clear H; have H := H'; clear H'
          have H' := H.pick 3 rfl; simp only [List.eraseIdx_cons_succ, List.eraseIdx_cons_zero] at H'; clear H; have H := H'; clear H'
          have H' := H.pick 3 rfl; simp only [List.eraseIdx_cons_succ, List.eraseIdx_cons_zero] at H'; clear H; have H := H'; clear H'
          have H' := H.pick 4 rfl; simp only [List.eraseIdx_cons_succ, List.eraseIdx_cons_zero] at H'; clear H; have H := H'; clear H'
          have H' := H.pick 4 rfl; simp only [List.eraseIdx_cons_succ, List.eraseIdx_cons_zero] at H'; clear H; have H := H'; clear H'
          have H := HR.more H; clear HR; simp only [List.cons_append, List.nil_append] at H
          refine k_met ?_
          exact ⟨_, _, _, _, _, _, hcc, rfl, H⟩
        · refine up_mk rfl ?_
          refine s_mk Value.bool false (m := m) H rfl rfl rfl (by omega) (by omega) (by omega) Try.underlying53 inf4 rfl ?_
          intro bd _ H'; clear H; have H := H'; clear H'
          refine k_nil ?_
          refine t_on H.only ?_
          refine t_up1 5 (by kernel_rfl) ?_
          refine up_mk rfl ?_
          refine s_mk (Value.int .u64) 0 (m := (8 * m)) H rfl rfl rfl (by omega) (by omega) (by omega) Try.underlying25 inf22 rfl ?_
          intro bf _ H'; clear H; have H := H'; clear H'
          refine k_nil ?_
          refine t_on H.only ?_
          refine t_take 10 rfl (by kernel_rfl) (by kernel_rfl) (by kernel_rfl) rfl (fun _ _ _ _ h => nomatch h.1) rfl (fun _ hS => r_bd (bd114_0_1_2_3_4 _ _ _ _ _ _ _ _ _ _ _ _ _ _ _) rfl) H.only ?_
          refine t_up1 11 (by kernel_rfl) ?_
          refine up_mk rfl ?_
          refine s_box H rfl rfl ?_
          intro p18 _ H'; clear H; have H := H'; clear H'
          refine k_nil ?_
          refine t_on H.only ?_
          refine t_take 12 rfl (by kernel_rfl) (by kernel_rfl) (by kernel_rfl) rfl (fun _ _ _ _ h => nomatch h.1) rfl (fun _ hS => r_as (v := .pointer _) rfl) H.only ?_
          refine t_done (by kernel_rfl) ?_
          have H' := H.pick 3 rfl; simp only [List.eraseIdx_cons_succ, List.eraseIdx_cons_zero] at H'; clear H; have H := H'; clear H'
          have H' := H.pick 2 rfl; simp only [List.eraseIdx_cons_succ, List.eraseIdx_cons_zero] at H'; clear H; have H := H'; clear H'
          have H' := H.pick 3 rfl; simp only [List.eraseIdx_cons_succ, List.eraseIdx_cons_zero] at H'; clear H; have H := H'; clear H'
          have H' := H.pick 4 rfl; simp only [List.eraseIdx_cons_succ, List.eraseIdx_cons_zero] at H'; clear H; have H := H'; clear H'
          have H' := H.pick 4 rfl; simp only [List.eraseIdx_cons_succ, List.eraseIdx_cons_zero] at H'; clear H; have H := H'; clear H'
          have H := HR.more H; clear HR; simp only [List.cons_append, List.nil_append] at H
          refine k_met ?_
          exact ⟨_, _, _, _, _, _, hcc, rfl, H⟩
      · refine up_mk rfl ?_
        refine s_mk (Value.int .u64) 0 (m := (8 * m)) H rfl rfl rfl (by omega) (by omega) (by omega) Try.underlying25 inf22 rfl ?_
        intro bf _ H'; clear H; have H := H'; clear H'
        refine k_nil ?_
        refine t_on H.only ?_
        refine t_up2 2 7 (by kernel_rfl) ?_ ?_
        · refine up_mk rfl ?_
          refine s_call rfl (nClone _ _ _ ws _ (fun _ => ⟨_, _, rfl, by simp, (HR.same H.only).reads0 0 rfl⟩) (by omega) (by omega)) (ca79 rfl) ?_
          rintro e W1 ⟨bc, cc, rfl, hcc, H'⟩
          refine ⟨_, rfl, ?_⟩
          have H := H.more H'; clear H'
          refine k_nil ?_
          refine t_on H.only ?_
          refine t_up1 7 (by kernel_rfl) ?_
          refine up_mk rfl ?_
          refine s_mk Value.bool false (m := m) H rfl rfl rfl (by omega) (by omega) (by omega) Try.underlying53 inf4 rfl ?_
          intro bd _ H'; clear H; have H := H'; clear H'
          refine k_nil ?_
          refine t_on H.only ?_
          refine t_take 10 rfl (by kernel_rfl) (by kernel_rfl) (by kernel_rfl) rfl (fun _ _ _ _ h => nomatch h.1) rfl (fun _ hS => r_bd (bd114_0_1_2_3_4 _ _ _ _ _ _ _ _ _ _ _ _ _ _ _) rfl) H.only ?_
          refine t_up1 11 (by kernel_rfl) ?_
          refine up_mk rfl ?_
          refine s_box H rfl rfl ?_
          intro p18 _ H'; clear H; have H := H'; clear H'
          refine k_nil ?_
          refine t_on H.only ?_
          refine t_take 12 rfl (by kernel_rfl) (by kernel_rfl) (by kernel_rfl) rfl (fun _ _ _ _ h => nomatch h.1) rfl (fun _ hS => r_as (v := .pointer _) rfl) H.only ?_
          refine t_done (by kernel_rfl) ?_
          have H' := H.pick 2 rfl; simp only [List.eraseIdx_cons_succ, List.eraseIdx_cons_zero] at H'; clear H; have H := H'; clear H'
          have H' := H.pick 3 rfl; simp only [List.eraseIdx_cons_succ, List.eraseIdx_cons_zero] at H'; clear H; have H := H'; clear H'
          have H' := H.pick 3 rfl; simp only [List.eraseIdx_cons_succ, List.eraseIdx_cons_zero] at H'; clear H; have H := H'; clear H'
          have H' := H.pick 4 rfl; simp only [List.eraseIdx_cons_succ, List.eraseIdx_cons_zero] at H'; clear H; have H := H'; clear H'
          have H' := H.pick 4 rfl; simp only [List.eraseIdx_cons_succ, List.eraseIdx_cons_zero] at H'; clear H; have H := H'; clear H'
          have H := HR.more H; clear HR; simp only [List.cons_append, List.nil_append] at H
          refine k_met ?_
          exact ⟨_, _, _, _, _, _, hcc, rfl, H⟩
        · refine up_mk rfl ?_
          refine s_mk Value.bool false (m := m) H rfl rfl rfl (by omega) (by omega) (by omega) Try.underlying53 inf4 rfl ?_
          intro bd _ H'; clear H; have H := H'; clear H'
          refine k_nil ?_
          refine t_on H.only ?_
          refine t_up1 2 (by kernel_rfl) ?_
          refine up_mk rfl ?_
          refine s_call rfl (nClone _ _ _ ws _ (fun _ => ⟨_, _, rfl, by simp, (HR.same H.only).reads0 0 rfl⟩) (by omega) (by omega)) (ca79 rfl) ?_
          rintro e W1 ⟨bc, cc, rfl, hcc, H'⟩
          refine ⟨_, rfl, ?_⟩
          have H := H.more H'; clear H'
          refine k_nil ?_
          refine t_on H.only ?_
          refine t_take 10 rfl (by kernel_rfl) (by kernel_rfl) (by kernel_rfl) rfl (fun _ _ _ _ h => nomatch h.1) rfl (fun _ hS => r_bd (bd114_0_1_2_3_4 _ _ _ _ _ _ _ _ _ _ _ _ _ _ _) rfl) H.only ?_
          refine t_up1 11 (by kernel_rfl) ?_
          refine up_mk rfl ?_
          refine s_box H rfl rfl ?_
          intro p18 _ H'; clear H; have H := H'; clear H'
          refine k_nil ?_
          refine t_on H.only ?_
          refine t_take 12 rfl (by kernel_rfl) (by kernel_rfl) (by kernel_rfl) rfl (fun _ _ _ _ h => nomatch h.1) rfl (fun _ hS => r_as (v := .pointer _) rfl) H.only ?_
          refine t_done (by kernel_rfl) ?_
          have H' := H.pick 1 rfl; simp only [List.eraseIdx_cons_succ, List.eraseIdx_cons_zero] at H'; clear H; have H := H'; clear H'
          have H' := H.pick 3 rfl; simp only [List.eraseIdx_cons_succ, List.eraseIdx_cons_zero] at H'; clear H; have H := H'; clear H'
          have H' := H.pick 3 rfl; simp only [List.eraseIdx_cons_succ, List.eraseIdx_cons_zero] at H'; clear H; have H := H'; clear H'
          have H' := H.pick 4 rfl; simp only [List.eraseIdx_cons_succ, List.eraseIdx_cons_zero] at H'; clear H; have H := H'; clear H'
          have H' := H.pick 4 rfl; simp only [List.eraseIdx_cons_succ, List.eraseIdx_cons_zero] at H'; clear H; have H := H'; clear H'
          have H := HR.more H; clear HR; simp only [List.cons_append, List.nil_append] at H
          refine k_met ?_
          exact ⟨_, _, _, _, _, _, hcc, rfl, H⟩
      · refine up_mk rfl ?_
        refine s_mk Value.bool false (m := m) H rfl rfl rfl (by omega) (by omega) (by omega) Try.underlying53 inf4 rfl ?_
        intro bd _ H'; clear H; have H := H'; clear H'
        refine k_nil ?_
        refine t_on H.only ?_
        refine t_up2 2 5 (by kernel_rfl) ?_ ?_
        · refine up_mk rfl ?_
          refine s_call rfl (nClone _ _ _ ws _ (fun _ => ⟨_, _, rfl, by simp, (HR.same H.only).reads0 0 rfl⟩) (by omega) (by omega)) (ca79 rfl) ?_
          rintro e W1 ⟨bc, cc, rfl, hcc, H'⟩
          refine ⟨_, rfl, ?_⟩
          have H := H.more H'; clear H'
          refine k_nil ?_
          refine t_on H.only ?_
          refine t_up1 5 (by kernel_rfl) ?_
          refine up_mk rfl ?_
          refine s_mk (Value.int .u64) 0 (m := (8 * m)) H rfl rfl rfl (by omega) (by omega) (by omega) Try.underlying25 inf22 rfl ?_
          intro bf _ H'; clear H; have H := H'; clear H'
          refine k_nil ?_
          refine t_on H.only ?_
          refine t_take 10 rfl (by kernel_rfl) (by kernel_rfl) (by kernel_rfl) rfl (fun _ _ _ _ h => nomatch h.1) rfl (fun _ hS => r_bd (bd114_0_1_2_3_4 _ _ _ _ _ _ _ _ _ _ _ _ _ _ _) rfl) H.only ?_
          refine t_up1 11 (by kernel_rfl) ?_
          refine up_mk rfl ?_
          refine s_box H rfl rfl ?_
          intro p18 _ H'; clear H; have H := H'; clear H'
          refine k_nil ?_
          refine t_on H.only ?_
          refine t_take 12 rfl (by kernel_rfl) (by kernel_rfl) (by kernel_rfl) rfl (fun _ _ _ _ h => nomatch h.1) rfl (fun _ hS => r_as (v := .pointer _) rfl) H.only ?_
          refine t_done (by kernel_rfl) ?_
          have H' := H.pick 2 rfl; simp only [List.eraseIdx_cons_succ, List.eraseIdx_cons_zero] at H'; clear H; have H := H'; clear H'
          have H' := H.pick 2 rfl; simp only [List.eraseIdx_cons_succ, List.eraseIdx_cons_zero] at H'; clear H; have H := H'; clear H'
          have H' := H.pick 3 rfl; simp only [List.eraseIdx_cons_succ, List.eraseIdx_cons_zero] at H'; clear H; have H := H'; clear H'
          have H' := H.pick 4 rfl; simp only [List.eraseIdx_cons_succ, List.eraseIdx_cons_zero] at H'; clear H; have H := H'; clear H'
          have H' := H.pick 4 rfl; simp only [List.eraseIdx_cons_succ, List.eraseIdx_cons_zero] at H'; clear H; have H := H'; clear H'
          have H := HR.more H; clear HR; simp only [List.cons_append, List.nil_append] at H
          refine k_met ?_
          exact ⟨_, _, _, _, _, _, hcc, rfl, H⟩
        · refine up_mk rfl ?_
          refine s_mk (Value.int .u64) 0 (m := (8 * m)) H rfl rfl rfl (by omega) (by omega) (by omega) Try.underlying25 inf22 rfl ?_
          intro bf _ H'; clear H; have H := H'; clear H'
          refine k_nil ?_
          refine t_on H.only ?_
          refine t_up1 2 (by kernel_rfl) ?_
          refine up_mk rfl ?_
          refine s_call rfl (nClone _ _ _ ws _ (fun _ => ⟨_, _, rfl, by simp, (HR.same H.only).reads0 0 rfl⟩) (by omega) (by omega)) (ca79 rfl) ?_
          rintro e W1 ⟨bc, cc, rfl, hcc, H'⟩
          refine ⟨_, rfl, ?_⟩
          have H := H.more H'; clear H'
          refine k_nil ?_
          refine t_on H.only ?_
          refine t_take 10 rfl (by kernel_rfl) (by kernel_rfl) (by kernel_rfl) rfl (fun _ _ _ _ h => nomatch h.1) rfl (fun _ hS => r_bd (bd114_0_1_2_3_4 _ _ _ _ _ _ _ _ _ _ _ _ _ _ _) rfl) H.only ?_
          refine t_up1 11 (by kernel_rfl) ?_
          refine up_mk rfl ?_
          refine s_box H rfl rfl ?_
          intro p18 _ H'; clear H; have H := H'; clear H'
          refine k_nil ?_
          refine t_on H.only ?_
          refine t_take 12 rfl (by kernel_rfl) (by kernel_rfl) (by kernel_rfl) rfl (fun _ _ _ _ h => nomatch h.1) rfl (fun _ hS => r_as (v := .pointer _) rfl) H.only ?_
          refine t_done (by kernel_rfl) ?_
          have H' := H.pick 1 rfl; simp only [List.eraseIdx_cons_succ, List.eraseIdx_cons_zero] at H'; clear H; have H := H'; clear H'
          have H' := H.pick 2 rfl; simp only [List.eraseIdx_cons_succ, List.eraseIdx_cons_zero] at H'; clear H; have H := H'; clear H'
          have H' := H.pick 3 rfl; simp only [List.eraseIdx_cons_succ, List.eraseIdx_cons_zero] at H'; clear H; have H := H'; clear H'
          have H' := H.pick 4 rfl; simp only [List.eraseIdx_cons_succ, List.eraseIdx_cons_zero] at H'; clear H; have H := H'; clear H'
          have H' := H.pick 4 rfl; simp only [List.eraseIdx_cons_succ, List.eraseIdx_cons_zero] at H'; clear H; have H := H'; clear H'
          have H := HR.more H; clear HR; simp only [List.cons_append, List.nil_append] at H
          refine k_met ?_
          exact ⟨_, _, _, _, _, _, hcc, rfl, H⟩
  clear H
  rintro f' W ⟨p, bc, cc, bf, bd, bp, hcc, h2, H⟩
  obtain ⟨f', rfl⟩ := live1 h2
  refine c_norm ?_
  refine k_ret ?_
  refine fin1r (v := .pointer _) rfl rfl ?_
  refine ⟨⟨p, b, bc, bf, bd, bp, c, cc, 8 * m, m, m⟩, rfl, ⟨hc, hcc, by simp; omega, by simp; omega, by simp; omega⟩, ?_⟩
  unfold devL devCells Nv.load
  simp only [hl, List.length_replicate]
  refine H.perm ?_
  refine List.Perm.cons _ ?_
  exact (List.reverse_perm [vec (Value.int .u64) b ws 22, vec (Value.int .u64) bc ws 22, vec (Value.int .u64) bf (List.replicate (8 * m) 0) 22, vec Value.bool bd (List.replicate m false) 4, vec Value.bool bp (List.replicate m false) 4])
theorem nUp (n : Int) (w : World) (h : -9223372036854775808 ≤ n ∧ n ≤ 9223372036854775807) :
    Calls Try.prog 64 [.int .i64 n, .int .i64 8].toArray w fun e w' => e = .returned (.int .i64 (((n.toNat + 7) / 8 : Nat) : Int)) ∧ Only [] w w' := by
  have H := Heap.nil w
  by_cases h0 : n ≤ 0
  · refine k_in (N := 16) Try.func64 rfl rfl rfl ?_
    refine k_seq ?_
    refine k_rg ?_
    refine s_run rfl rfl (r_as (v := .int _ _) rfl) ?_
    refine k_nil ?_
    refine c_norm ?_
    refine k_seq ?_
    refine k_seq ?_
    refine k_rg ?_
    refine s_run rfl rfl (r_mv (v := .int _ _) rfl) ?_
    refine s_run rfl rfl (r_leqT rfl rfl (by omega)) ?_
    refine s_run rfl rfl (r_mv (v := .bool _) rfl) ?_
    refine s_off rfl (g_off 7 (by kernel_rfl) rfl rfl) ?_
    refine s_off rfl (g_off 7 (by kernel_rfl) rfl rfl) ?_
    refine s_run rfl rfl (r_pkT (v := .bool _) rfl rfl) ?_
    refine k_nil ?_
    refine c_norm ?_
    refine k_t rfl ?_
    refine k_seq ?_
    refine k_rg ?_
    refine s_run rfl rfl (r_as (v := .int _ _) rfl) ?_
    refine k_nil ?_
    refine c_norm ?_
    refine k_ret ?_
    refine c_ret ?_
    refine fin1r (v := .int _ _) rfl rfl ?_
    exact ⟨by rw [show ((n.toNat + 7) / 8 : Nat) = 0 from by omega]; rfl, H.only⟩
  · refine k_in (N := 16) Try.func64 rfl rfl rfl ?_
    refine k_seq ?_
    refine k_rg ?_
    refine s_run rfl rfl (r_as (v := .int _ _) rfl) ?_
    refine k_nil ?_
    refine c_norm ?_
    refine k_seq ?_
    refine k_seq ?_
    refine k_rg ?_
    refine s_run rfl rfl (r_mv (v := .int _ _) rfl) ?_
    refine s_run rfl rfl (r_leqF rfl rfl (by omega)) ?_
    refine s_run rfl rfl (r_mv (v := .bool _) rfl) ?_
    refine s_run rfl (g_on 7 (by kernel_rfl) rfl) (r_mv (v := .int _ _) rfl) ?_
    refine s_run rfl (g_on 7 (by kernel_rfl) rfl) (r_leqF rfl rfl (by omega)) ?_
    refine s_run rfl rfl (r_pkF (v := .bool _) rfl rfl) ?_
    refine k_nil ?_
    refine c_norm ?_
    refine k_f rfl ?_
    refine k_skip ?_
    refine c_norm ?_
    refine k_seq ?_
    refine k_rg ?_
    refine s_run rfl rfl (r_mv (v := .int _ _) rfl) ?_
    refine s_run rfl rfl (r_sub rfl rfl (wI (by omega))) ?_
    refine s_run rfl rfl (r_mv (v := .int _ _) rfl) ?_
    refine s_run rfl rfl (r_quo rfl rfl (by omega) (wI (by omega))) ?_
    refine s_run rfl rfl (r_add rfl rfl (wI (by omega))) ?_
    refine s_run rfl rfl (r_as (v := .int _ _) rfl) ?_
    refine k_nil ?_
    refine c_norm ?_
    refine k_ret ?_
    refine fin1r (v := .int _ _) rfl rfl ?_
    exact ⟨ret_int (by omega), H.only⟩
theorem nAll (g : Geo) (d : Nv.D) (m : Nat) (w : World) (hE : Ents (devL g d) w) (ho : Nv.Ok d m) (hm : m ≤ 100000) :
    Calls Try.prog 47 [ptr g.p].toArray w fun e w' => ∃ b c', e = .returned (.slice (some ⟨b, 0, none⟩) (8 * m) c') ∧ (8 * m ≤ c' ∧ c' ≤ 9223372036854775807) ∧ Heap w [] [vec (Value.int .u64) b d.last 22] w' := by
  have HR := Heap.start hE
  have H := Heap.nil w
  have hl := ho.hl
  generalize hF : ids (devL g d) = F at HR
  unfold devL devCells at HR
  rw [hl] at HR
  refine k_in (N := 8) Try.func47 rfl rfl rfl ?_
  refine k_seq ?_
  refine k_rg ?_
  refine s_run rfl rfl (r_as (v := .slice _ _ _) rfl) ?_
  refine k_nil ?_
  refine c_norm ?_
  refine k_seq ?_
  refine k_rg ?_
  refine s_run rfl rfl (r_mv (v := .pointer _) rfl) ?_
  refine s_run rfl rfl (r_nc rfl) ?_
  refine s_run rfl rfl (r_fa0 rfl fo114_0) ?_
  refine s_run rfl rfl (r_lo (HR.same H.only) 0 rfl rfl rfl ag25) ?_
  refine s_call rfl (nClone _ _ _ d.last _ (fun _ => ⟨_, _, rfl, by simp, HR.reads0 1 rfl⟩) (by omega) (by omega)) (ca79 rfl) ?_
  rintro e W1 ⟨b, c', rfl, hc, H'⟩
  refine ⟨_, rfl, ?_⟩
  have H := H.more H'; clear H'
  refine s_run rfl rfl (r_as (v := .slice _ _ _) rfl) ?_
  refine k_nil ?_
  refine c_norm ?_
  refine k_ret ?_
  refine fin1r (v := .slice _ _ _) rfl rfl ?_
  exact ⟨b, c', rfl, hc, H⟩
theorem nLoad (A : Option Addr) (n c : Nat) (zs : List Int) (w : World) (hz : Sees (Value.int .u64) w [] A zs) (hl : zs.length = n) (hn : n ≤ 500000) :
    Calls Try.prog 16 [.slice A n c].toArray w fun e w' => ∃ g, e = .returned (ptr g.p) ∧ GOk g ((n + 7) / 8) ∧ Heap w [] (devL g (Nv.load (zs ++ List.replicate (8 * ((n + 7) / 8) - n) 0) ((n + 7) / 8))) w' := by
  have H := Heap.nil w
  have hq : (n + 7) / 8 ≤ 100000 ∧ n ≤ 8 * ((n + 7) / 8) := by omega
  have hU := nUp n w (by omega)
  rw [Int.toNat_natCast] at hU
  generalize (n + 7) / 8 = m at hq hU ⊢
  refine k_in (N := 14) Try.func16 rfl rfl rfl ?_
  refine k_seq ?_
  refine k_rg ?_
  refine s_run rfl rfl (r_as (v := .pointer _) rfl) ?_
  refine k_nil ?_
  refine c_norm ?_
  refine k_seq ?_
  refine k_rg ?_
  refine s_run rfl rfl (r_mv (v := .slice _ _ _) rfl) ?_
  refine s_run rfl rfl (r_len rfl Try.underlying25) ?_
  refine s_call rfl (hU) (ca64 rfl) ?_
  rintro e W1 ⟨rfl, H'⟩
  refine ⟨_, rfl, ?_⟩
  have H := H.same H'; clear H'
  refine s_run rfl rfl (r_mul rfl rfl (wI (by omega))) ?_
  refine s_mk (Value.int .u64) 0 (m := (8 * m)) H rfl rfl rfl (by omega) (by omega) (by omega) Try.underlying25 inf22 rfl ?_
  intro b _ H'; clear H; have H := H'; clear H'
  refine s_run rfl rfl (r_as (v := .slice _ _ _) rfl) ?_
  refine k_nil ?_
  refine c_norm ?_
  refine k_seq ?_
  refine k_rg ?_
  refine s_run rfl rfl (r_mv (v := .slice _ _ _) rfl) ?_
  refine s_run rfl rfl (r_mv (v := .slice _ _ _) rfl) ?_
  refine s_cpr (enc := (Value.int .u64)) H 0 rfl rfl rfl rfl (hz) (hl) (fun _ => rfl) (by first | omega | (simp; omega)) Try.underlying25 inf22 ?_
  intro _ H'; simp only [List.set_cons_zero, List.set_cons_succ, List.take_succ_cons, List.take_zero, List.drop_succ_cons, List.drop_zero, List.cons_append, List.nil_append, List.append_nil, List.length_cons, List.length_nil, Nat.reduceAdd] at H'; clear H; have H := H'; clear H'
  refine k_nil ?_
  refine c_norm ?_
  refine k_seq ?_
  refine k_rg ?_
  refine s_run rfl rfl (r_mv (v := .slice _ _ _) rfl) ?_
  refine s_call rfl (nload b (8 * m) m _ _ H.ents (by simp; omega) hq.1 (by omega)) (ca65 rfl) ?_
  rintro e W1 ⟨g, rfl, hg, H'⟩
  refine ⟨_, rfl, ?_⟩
  have H := H.whole H'; clear H'
  refine s_run rfl rfl (r_as (v := .pointer _) rfl) ?_
  refine k_nil ?_
  refine c_norm ?_
  refine k_ret ?_
  refine fin1r (v := .pointer _) rfl rfl ?_
  refine ⟨g, rfl, hg, ?_⟩
  rw [List.drop_replicate] at H
  exact H
end Go.Proofs.Ytmekhdclnhhhbaa
end

section
namespace Go.Proofs.Ytmekhdclnhhhbaa
open Go.RowKit
set_option linter.unusedSimpArgs false
set_option linter.unusedVariables false
theorem dirtyTo_len (l : List Bool) : ∀ k, (Nv.dirtyTo l k).length ≤ k
  | 0 => by simp [Nv.dirtyTo]
  | k + 1 => by
    have := dirtyTo_len l k
    unfold Nv.dirtyTo; split
    · simp; omega
    · omega
theorem nDirty (g : Geo) (d : Nv.D) (m : Nat) (w : World) (hE : Ents (devL g d) w) (ho : Nv.Ok d m) (hm : m ≤ 100000) :
    Calls Try.prog 27 [ptr g.p].toArray w fun e w' => ∃ A c, e = .returned (.slice A (Nv.dirtyTo d.dirty m).length c) ∧ Heap w [] [ownN 1 (.slice A (Nv.dirtyTo d.dirty m).length c) (Nv.dirtyTo d.dirty m).length ((Nv.dirtyTo d.dirty m).map (Value.int .i64)) 3] w' := by
  have HR := Heap.start hE
  have H := Heap.nil w
  have hd := ho.hd
  generalize hF : ids (devL g d) = F at HR
  unfold devL devCells at HR
  rw [hd] at HR
  refine k_in (N := 23) Try.func27 rfl rfl rfl ?_
  refine k_seq ?_
  refine k_rg ?_
  refine s_run rfl rfl (r_as (v := .slice _ _ _) rfl) ?_
  refine k_nil ?_
  refine c_norm ?_
  refine k_seq ?_
  refine k_rg ?_
  refine s_run rfl rfl (r_as (v := .slice _ _ _) rfl) ?_
  refine k_nil ?_
  refine c_norm ?_
  refine k_seq ?_
  refine k_seq ?_
  refine k_rg ?_
  refine s_run rfl rfl (r_mv (v := .pointer _) rfl) ?_
  refine s_run rfl rfl (r_nc rfl) ?_
  refine s_run rfl rfl (r_fa0 rfl fo114_3) ?_
  refine s_run rfl rfl (r_lo (HR.same H.only) 0 rfl rfl rfl ag53) ?_
  refine s_run rfl rfl (r_len rfl Try.underlying53) ?_
  refine s_run rfl rfl (r_mv (v := .int _ _) rfl) ?_
  refine k_nil ?_
  refine c_norm ?_
  refine k_b ?_
  refine k_loop (fun q f W => ∃ (k : Nat) (A : Option Addr) (c : Nat), k ≤ m ∧ q = m - k ∧ f 3 = .slice A (Nv.dirtyTo d.dirty k).length c ∧ f 9 = .slice (some ⟨g.bd, 0, none⟩) m g.cd ∧ f 10 = .int .i64 m ∧ f 11 = .int .i64 k ∧ Heap w [] [ownN 1 (.slice A (Nv.dirtyTo d.dirty k).length c) (Nv.dirtyTo d.dirty k).length ((Nv.dirtyTo d.dirty k).map (Value.int .i64)) 3] W) m ⟨0, none, 0, by omega, rfl, rfl, rfl, rfl, rfl, H.own_nil 1 3⟩ ?_
  clear H
  rintro q f W ⟨k, A, c, hk, rfl, h3, h9, h10, h11, H⟩
  obtain ⟨f, rfl⟩ := live4 h3 h9 h10 h11
  clear h3 h9 h10 h11
  have hlen := dirtyTo_len d.dirty k
  by_cases hlt : k < m
  · by_cases hv : d.dirty.getD k false = true
    · have e : Nv.dirtyTo d.dirty (k + 1) = Nv.dirtyTo d.dirty k ++ [(k : Int)] := by rw [Nv.dirtyTo, if_pos hv]
      have el : (Nv.dirtyTo d.dirty (k + 1)).length = (Nv.dirtyTo d.dirty k).length + 1 := by rw [e]; simp
      have hv' : d.dirty[k]? = some true := by rw [getE (by omega)]; exact congrArg some hv
      refine k_seq ?_
      refine k_rg ?_
      refine s_run rfl rfl (r_lssT rfl rfl (by omega)) ?_
      refine k_nil ?_
      refine c_norm ?_
      refine k_seq ?_
      refine k_t rfl ?_
      refine k_skip ?_
      refine c_norm ?_
      refine k_seq ?_
      refine k_b ?_
      refine k_seq ?_
      refine k_rg ?_
      refine s_run rfl rfl (r_mv (v := .int _ _) rfl) ?_
      refine s_run rfl rfl (r_ix1 rfl rfl rfl (by omega) Try.underlying53 sz4) ?_
      refine s_run rfl rfl (r_lv (HR.same H.only) 4 rfl rfl (by assumption) ag4) ?_
      refine s_run rfl rfl (r_as (v := .int _ _) rfl) ?_
      refine s_run rfl rfl (r_as (v := .bool _) rfl) ?_
      refine k_nil ?_
      refine c_norm ?_
      refine k_seq ?_
      refine k_rg ?_
      refine s_run rfl rfl (r_mv (v := .bool _) rfl) ?_
      refine k_nil ?_
      refine c_norm ?_
      refine k_t rfl ?_
      refine k_rg ?_
      refine s_run rfl rfl (r_mv (v := .slice _ _ _) rfl) ?_
      refine s_run rfl rfl (r_mv (v := .int _ _) rfl) ?_
      refine s_app1 (enc := (Value.int .i64)) H 0 rfl rfl rfl rfl rfl rfl rfl (by omega) Try.underlying42 inf3 rfl ?_
      intro _ An cn _ H'; simp only [List.set_cons_zero, List.set_cons_succ, List.take_succ_cons, List.take_zero, List.drop_succ_cons, List.drop_zero, List.cons_append, List.nil_append, List.append_nil, List.length_cons, List.length_nil, Nat.reduceAdd] at H'; clear H; have H := H'; clear H'
      refine s_run rfl rfl (r_as (v := .slice _ _ _) rfl) ?_
      refine k_nil ?_
      refine b_norm ?_
      refine c_norm ?_
      refine k_rg ?_
      refine s_run rfl rfl (r_add rfl rfl (wI (by omega))) ?_
      refine s_run rfl rfl (r_mv (v := .int _ _) rfl) ?_
      refine k_nil ?_
      refine c_round ?_
      rw [← e, ← el] at H
      refine ⟨_, _, ?_, rfl, k + 1, _, _, by omega, rfl, ?_, rfl, rfl, rfl, H⟩
      · omega
      · rw [el]; rfl
    · have e : Nv.dirtyTo d.dirty (k + 1) = Nv.dirtyTo d.dirty k := by rw [Nv.dirtyTo, if_neg hv]
      have hv' : d.dirty[k]? = some false := by rw [getE (by omega)]; exact congrArg some (by simpa using hv)
      refine k_seq ?_
      refine k_rg ?_
      refine s_run rfl rfl (r_lssT rfl rfl (by omega)) ?_
      refine k_nil ?_
      refine c_norm ?_
      refine k_seq ?_
      refine k_t rfl ?_
      refine k_skip ?_
      refine c_norm ?_
      refine k_seq ?_
      refine k_b ?_
      refine k_seq ?_
      refine k_rg ?_
      refine s_run rfl rfl (r_mv (v := .int _ _) rfl) ?_
      refine s_run rfl rfl (r_ix1 rfl rfl rfl (by omega) Try.underlying53 sz4) ?_
      refine s_run rfl rfl (r_lv (HR.same H.only) 4 rfl rfl (by assumption) ag4) ?_
      refine s_run rfl rfl (r_as (v := .int _ _) rfl) ?_
      refine s_run rfl rfl (r_as (v := .bool _) rfl) ?_
      refine k_nil ?_
      refine c_norm ?_
      refine k_seq ?_
      refine k_rg ?_
      refine s_run rfl rfl (r_mv (v := .bool _) rfl) ?_
      refine k_nil ?_
      refine c_norm ?_
      refine k_f rfl ?_
      refine k_skip ?_
      refine b_norm ?_
      refine c_norm ?_
      refine k_rg ?_
      refine s_run rfl rfl (r_add rfl rfl (wI (by omega))) ?_
      refine s_run rfl rfl (r_mv (v := .int _ _) rfl) ?_
      refine k_nil ?_
      refine c_round ?_
      rw [← e] at H
      refine ⟨_, _, ?_, rfl, k + 1, A, c, by omega, rfl, ?_, rfl, rfl, rfl, H⟩
      · omega
      · rw [e]; rfl
  · obtain rfl : k = m := by omega
    refine k_seq ?_
    refine k_rg ?_
    refine s_run rfl rfl (r_lssF rfl rfl (by omega)) ?_
    refine k_nil ?_
    refine c_norm ?_
    refine k_seq ?_
    refine k_f rfl ?_
    refine k_exit ?_
    refine c_exit ?_
    refine c_exit ?_
    refine b_hit ?_
    refine c_norm ?_
    refine k_seq ?_
    refine k_rg ?_
    refine s_run rfl rfl (r_mv (v := .slice _ _ _) rfl) ?_
    refine s_run rfl rfl (r_as (v := .slice _ _ _) rfl) ?_
    refine k_nil ?_
    refine c_norm ?_
    refine k_ret ?_
    refine fin1r (v := .slice _ _ _) rfl rfl ?_
    exact ⟨A, c, rfl, H⟩
theorem nFence (g : Geo) (d : Nv.D) (m : Nat) (w : World) (hE : Ents (devL g d) w) (ho : Nv.Ok d m) (hg : GOk g m) (hm : m ≤ 100000) :
    Calls Try.prog 35 [ptr g.p].toArray w fun e w' => e = .returned (.int .i64 (Nv.fence d m).2) ∧ Heap w (ids (devL g d)) (devL g (Nv.fence d m).1) w' := by
  have H0 := Heap.start hE
  by_cases hs : Nv.stops d = true
  · have er : Nv.fence d m = (Nv.killed d, 3) := by rw [Nv.fence, if_pos hs]
    rw [er]
    generalize hF : ids (devL g d) = F at H0 ⊢
    have H := H0
    refine k_in (N := 63) Try.func35 rfl rfl rfl ?_
    refine k_seq ?_
    refine k_rg ?_
    refine s_run rfl rfl (r_as (v := .int _ _) rfl) ?_
    refine k_nil ?_
    refine c_norm ?_
    refine k_seq ?_
    refine k_seq ?_
    refine k_rg ?_
    refine s_run rfl rfl (r_mv (v := .pointer _) rfl) ?_
    refine s_call rfl (nStep_no g d _ H0.ents hs) (ca70 rfl) ?_
    rintro e W1 ⟨rfl, H'⟩
    refine ⟨_, rfl, ?_⟩
    have H := H0.whole H'
    refine s_run rfl rfl (r_notF rfl) ?_
    refine k_nil ?_
    refine c_norm ?_
    refine k_t rfl ?_
    refine k_seq ?_
    refine k_rg ?_
    refine s_run rfl rfl (r_as (v := .int _ _) rfl) ?_
    refine k_nil ?_
    refine c_norm ?_
    refine k_ret ?_
    refine c_ret ?_
    refine fin1r (v := .int _ _) rfl rfl ?_
    exact ⟨rfl, H⟩
  · have hs : Nv.stops d = false := by simpa using hs
    have er : Nv.fence d m = (Nv.fenceTo (Nv.stepped d) m, 0) := by rw [Nv.fence, if_neg (by simp [hs])]
    rw [er]
    have ho1 := ho.stepped
    generalize hF : ids (devL g d) = F at H0 ⊢
    have H := H0
    have hp1 := ho1.hp
    refine k_in (N := 63) Try.func35 rfl rfl rfl ?_
    refine k_seq ?_
    refine k_rg ?_
    refine s_run rfl rfl (r_as (v := .int _ _) rfl) ?_
    refine k_nil ?_
    refine c_norm ?_
    refine k_seq ?_
    refine k_seq ?_
    refine k_rg ?_
    refine s_run rfl rfl (r_mv (v := .pointer _) rfl) ?_
    refine s_call rfl (nStep_yes g d _ H0.ents hs) (ca70 rfl) ?_
    rintro e W1 ⟨rfl, H'⟩
    refine ⟨_, rfl, ?_⟩
    clear H; have H := H0.whole H'; clear H'; have HD := H; unfold devL devCells at H
    refine s_run rfl rfl (r_notT rfl) ?_
    refine k_nil ?_
    refine c_norm ?_
    refine k_f rfl ?_
    refine k_skip ?_
    refine c_norm ?_
    refine k_seq ?_
    refine k_seq ?_
    refine k_rg ?_
    refine s_run rfl rfl (r_mv (v := .pointer _) rfl) ?_
    refine s_run rfl rfl (r_nc rfl) ?_
    refine s_run rfl rfl (r_fa0 rfl fo114_4) ?_
    refine s_run rfl rfl (r_lo H 0 rfl rfl rfl ag53) ?_
    refine s_run rfl rfl (r_len rfl Try.underlying53) ?_
    refine s_run rfl rfl (r_mv (v := .int _ _) rfl) ?_
    refine k_nil ?_
    refine c_norm ?_
    refine k_b ?_
    clear H
    refine k_loop (fun q f W => ∃ (k : Nat), k ≤ m ∧ q = m - k ∧ f 0 = ptr g.p ∧ f 11 = .slice (some ⟨g.bp, 0, none⟩) m g.cp ∧ f 12 = .int .i64 m ∧ f 13 = .int .i64 k ∧ Heap w F (devL g (Nv.fenceTo (Nv.stepped d) k)) W) m ⟨0, by omega, rfl, rfl, by rw [← hp1]; rfl, by rw [← hp1]; rfl, rfl, HD⟩ ?_
    clear HD
    rintro q f W ⟨k, hk, rfl, h0, h11, h12, h13, H⟩
    obtain ⟨f, rfl⟩ := live4 h0 h11 h12 h13
    clear h0 h11 h12 h13
    have hok := ho1.fenceTo k hk
    by_cases hlt : k < m
    · have e : Nv.fenceTo (Nv.stepped d) (k + 1) = Nv.fenceLine (Nv.fenceTo (Nv.stepped d) k) k := rfl
      generalize Nv.fenceTo (Nv.stepped d) k = x at hok H e
      have hl := hok.hl
      have hc := hok.hc
      have hf := hok.hf
      have hd := hok.hd
      have hp := hok.hp
      have hgl := hg.l
      have hgc := hg.c
      have hgf := hg.f
      by_cases hv : x.pend.getD k false = true
      · have hv' : x.pend[k]? = some true := by rw [getE (by omega)]; exact congrArg some hv
        have er : Nv.fenceLine x k = { x with last := Nv.setPart x.last k (Nv.part x.fl k), pend := x.pend.set k false, dirty := x.dirty.set k (!Nv.same (Nv.part x.fl k) (Nv.part x.cache k)) } := by rw [Nv.fenceLine, if_pos hv]
        have es : Nv.setPart x.last k (Nv.part x.fl k) = x.last.take (8 * k) ++ ((x.fl.drop (8 * k)).take 8 ++ x.last.drop (8 * k + 8)) := by simp [Nv.setPart, Nv.part]
        have hl2 : (Nv.setPart x.last k (Nv.part x.fl k)).length = x.last.length := Nv.length_setPart (by omega) (Nv.length_part (by omega))
        have ep : ((Nv.setPart x.last k (Nv.part x.fl k)).drop (8 * k)).take 8 = Nv.part x.fl k := by
          unfold Nv.setPart
          rw [List.append_assoc, List.drop_append, List.drop_of_length_le (by simp; exact Nat.min_le_left _ _), List.nil_append, show 8 * k - (x.last.take (8 * k)).length = 0 from by simp; omega, List.drop_zero, List.take_append, List.take_of_length_le (by rw [Nv.length_part (by omega)]; omega), Nv.length_part (by omega), Nat.sub_self, List.take_zero, List.append_nil]
        unfold devL devCells at H
        refine k_seq ?_
        refine k_rg ?_
        refine s_run rfl rfl (r_lssT rfl rfl (by omega)) ?_
        refine k_nil ?_
        refine c_norm ?_
        refine k_seq ?_
        refine k_t rfl ?_
        refine k_skip ?_
        refine c_norm ?_
        refine k_seq ?_
        refine k_b ?_
        refine k_seq ?_
        refine k_rg ?_
        refine s_run rfl rfl (r_mv (v := .int _ _) rfl) ?_
        refine s_run rfl rfl (r_ix1 rfl rfl rfl (by omega) Try.underlying53 sz4) ?_
        refine s_run rfl rfl (r_lv H 5 rfl rfl (by assumption) ag4) ?_
        refine s_run rfl rfl (r_as (v := .int _ _) rfl) ?_
        refine s_run rfl rfl (r_as (v := .bool _) rfl) ?_
        refine k_nil ?_
        refine c_norm ?_
        refine k_seq ?_
        refine k_rg ?_
        refine s_run rfl rfl (r_mv (v := .bool _) rfl) ?_
        refine k_nil ?_
        refine c_norm ?_
        refine k_t rfl ?_
        refine k_seq ?_
        refine k_qt 14 mixed (by kernel_rfl) H rfl rfl ?_
        refine q_run rfl rfl (fun _ H => r_mv (v := .pointer _) rfl) ?_
        refine q_run rfl rfl (fun _ H => r_mv (v := .pointer _) rfl) ?_
        refine q_run rfl rfl (fun _ H => r_nc rfl) ?_
        refine q_run rfl rfl (fun _ H => r_fa0 rfl fo114_0) ?_
        refine q_run rfl rfl (fun _ H => r_lo H 0 rfl rfl rfl ag25) ?_
        refine q_run rfl rfl (fun _ H => r_mv (v := .int _ _) rfl) ?_
        refine q_call rfl rfl (fun _ H => nPart g.bl g.cl k _ _ _ (by omega)) (ca77 rfl) ?_
        refine q_run rfl rfl (fun _ H => r_mv (v := .pointer _) rfl) ?_
        refine q_run rfl rfl (fun _ H => r_mv (v := .pointer _) rfl) ?_
        refine q_run rfl rfl (fun _ H => r_nc rfl) ?_
        refine q_run rfl rfl (fun _ H => r_fa0 rfl fo114_2) ?_
        refine q_run rfl rfl (fun _ H => r_lo H 0 rfl rfl rfl ag25) ?_
        refine q_run rfl rfl (fun _ H => r_mv (v := .int _ _) rfl) ?_
        refine q_call rfl rfl (fun _ H => nPart g.bf g.cf k _ _ _ (by omega)) (ca77 rfl) ?_
        refine q_nil ?_
        intro _ H'; clear H; have H := H'; clear H'
        refine s_cp (enc := (Value.int .u64)) H 1 3 rfl rfl rfl rfl rfl (fun _ => rfl) (by omega) Try.underlying25 inf22 ?_
        intro _ H'; simp only [List.set_cons_zero, List.set_cons_succ, List.take_succ_cons, List.take_zero, List.drop_succ_cons, List.drop_zero, List.cons_append, List.nil_append, List.append_nil, List.length_cons, List.length_nil, Nat.reduceAdd] at H'; clear H; have H := H'; clear H'
        refine k_nil ?_
        refine c_norm ?_
        refine k_seq ?_
        refine k_rg ?_
        refine s_run rfl rfl (r_mv (v := .pointer _) rfl) ?_
        refine s_run rfl rfl (r_nc rfl) ?_
        refine s_run rfl rfl (r_fa0 rfl fo114_4) ?_
        refine s_run rfl rfl (r_lo H 0 rfl rfl rfl ag53) ?_
        refine s_run rfl rfl (r_mv (v := .int _ _) rfl) ?_
        refine s_run rfl rfl (r_ix1 rfl rfl rfl (by omega) Try.underlying53 sz4) ?_
        refine s_sv (u := .bool _) H 5 rfl rfl rfl rfl rfl (by omega) (fun _ => rfl) sz4 ?_
        intro _ H'; simp only [List.set_cons_zero, List.set_cons_succ, List.take_succ_cons, List.take_zero, List.drop_succ_cons, List.drop_zero, List.cons_append, List.nil_append, List.append_nil, List.length_cons, List.length_nil, Nat.reduceAdd] at H'; clear H; have H := H'; clear H'
        refine k_nil ?_
        refine c_norm ?_
        rw [← es] at H
        refine k_qt 21 mixed (by kernel_rfl) H rfl rfl ?_
        refine q_run rfl rfl (fun _ H => r_mv (v := .pointer _) rfl) ?_
        refine q_run rfl rfl (fun _ H => r_nc rfl) ?_
        refine q_run rfl rfl (fun _ H => r_fa0 rfl fo114_3) ?_
        refine q_run rfl rfl (fun _ H => r_lo H 0 rfl rfl rfl ag53) ?_
        refine q_run rfl rfl (fun _ H => r_mv (v := .int _ _) rfl) ?_
        refine q_run rfl rfl (fun _ H => r_mv (v := .pointer _) rfl) ?_
        refine q_run rfl rfl (fun _ H => r_mv (v := .pointer _) rfl) ?_
        refine q_run rfl rfl (fun _ H => r_nc rfl) ?_
        refine q_run rfl rfl (fun _ H => r_fa0 rfl fo114_0) ?_
        refine q_run rfl rfl (fun _ H => r_lo H 0 rfl rfl rfl ag25) ?_
        refine q_run rfl rfl (fun _ H => r_mv (v := .int _ _) rfl) ?_
        refine q_call rfl rfl (fun _ H => nPart g.bl g.cl k _ _ _ (by omega)) (ca77 rfl) ?_
        refine q_run rfl rfl (fun _ H => r_mv (v := .pointer _) rfl) ?_
        refine q_run rfl rfl (fun _ H => r_mv (v := .pointer _) rfl) ?_
        refine q_run rfl rfl (fun _ H => r_nc rfl) ?_
        refine q_run rfl rfl (fun _ H => r_fa0 rfl fo114_1) ?_
        refine q_run rfl rfl (fun _ H => r_lo H 0 rfl rfl rfl ag25) ?_
        refine q_run rfl rfl (fun _ H => r_mv (v := .int _ _) rfl) ?_
        refine q_call rfl rfl (fun _ H => nPart g.bc g.cc k _ _ _ (by omega)) (ca77 rfl) ?_
        refine q_call rfl rfl (fun _ H => nEqual _ _ _ _ _ _ 8 _ _ _ (by have := H.reads 1 rfl (8 * k) 8; rw [ep] at this; exact this) (H.reads 2 rfl (8 * k) 8) (Nv.length_part (by omega)) (Nv.length_part (by omega)) (by omega)) (ca78 rfl) ?_
        refine q_run rfl rfl (fun _ H => r_not rfl) ?_
        refine q_nil ?_
        intro _ H'; clear H; have H := H'; clear H'
        refine s_run rfl rfl (r_ix1 rfl rfl rfl (by omega) Try.underlying53 sz4) ?_
        refine s_sv (u := .bool _) H 4 rfl rfl rfl rfl rfl (by omega) (fun _ => rfl) sz4 ?_
        intro _ H'; simp only [List.set_cons_zero, List.set_cons_succ, List.take_succ_cons, List.take_zero, List.drop_succ_cons, List.drop_zero, List.cons_append, List.nil_append, List.append_nil, List.length_cons, List.length_nil, Nat.reduceAdd] at H'; clear H; have H := H'; clear H'
        refine k_nil ?_
        refine b_norm ?_
        refine c_norm ?_
        refine k_rg ?_
        refine s_run rfl rfl (r_add rfl rfl (wI (by omega))) ?_
        refine s_run rfl rfl (r_mv (v := .int _ _) rfl) ?_
        refine k_nil ?_
        refine c_round ?_
        refine ⟨_, _, ?_, rfl, k + 1, by omega, rfl, rfl, rfl, rfl, rfl, ?_⟩
        · omega
        · rw [e, er]
          unfold devL devCells
          simp only [hl2, List.length_set]
          simpa [Nv.part] using H
      · have hv' : x.pend[k]? = some false := by rw [getE (by omega)]; exact congrArg some (by simpa using hv)
        have er : Nv.fenceLine x k = x := by rw [Nv.fenceLine, if_neg hv]
        have H2 := H
        unfold devL devCells at H
        refine k_seq ?_
        refine k_rg ?_
        refine s_run rfl rfl (r_lssT rfl rfl (by omega)) ?_
        refine k_nil ?_
        refine c_norm ?_
        refine k_seq ?_
        refine k_t rfl ?_
        refine k_skip ?_
        refine c_norm ?_
        refine k_seq ?_
        refine k_b ?_
        refine k_seq ?_
        refine k_rg ?_
        refine s_run rfl rfl (r_mv (v := .int _ _) rfl) ?_
        refine s_run rfl rfl (r_ix1 rfl rfl rfl (by omega) Try.underlying53 sz4) ?_
        refine s_run rfl rfl (r_lv H 5 rfl rfl (by assumption) ag4) ?_
        refine s_run rfl rfl (r_as (v := .int _ _) rfl) ?_
        refine s_run rfl rfl (r_as (v := .bool _) rfl) ?_
        refine k_nil ?_
        refine c_norm ?_
        refine k_seq ?_
        refine k_rg ?_
        refine s_run rfl rfl (r_mv (v := .bool _) rfl) ?_
        refine k_nil ?_
        refine c_norm ?_
        refine k_f rfl ?_
        refine k_skip ?_
        refine b_norm ?_
        refine c_norm ?_
        refine k_rg ?_
        refine s_run rfl rfl (r_add rfl rfl (wI (by omega))) ?_
        refine s_run rfl rfl (r_mv (v := .int _ _) rfl) ?_
        refine k_nil ?_
        refine c_round ?_
        refine ⟨_, _, ?_, rfl, k + 1, by omega, rfl, rfl, rfl, rfl, rfl, ?_⟩
        · omega
        · rw [e, er]; exact H
    · obtain rfl : k = m := by omega
      refine k_seq ?_
      refine k_rg ?_
      refine s_run rfl rfl (r_lssF rfl rfl (by omega)) ?_
      refine k_nil ?_
      refine c_norm ?_
      refine k_seq ?_
      refine k_f rfl ?_
      refine k_exit ?_
      refine c_exit ?_
      refine c_exit ?_
      refine b_hit ?_
      refine c_norm ?_
      refine k_seq ?_
      refine k_rg ?_
      refine s_run rfl rfl (r_as (v := .int _ _) rfl) ?_
      refine k_nil ?_
      refine c_norm ?_
      refine k_ret ?_
      refine fin1r (v := .int _ _) rfl rfl ?_
      exact ⟨rfl, H⟩
end Go.Proofs.Ytmekhdclnhhhbaa
end
