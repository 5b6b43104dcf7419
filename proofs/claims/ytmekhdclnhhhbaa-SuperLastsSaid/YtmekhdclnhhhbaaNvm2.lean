/- Store, Flush, Evict and what they stand on; what only reads. -/
import Derived.Test.YtmekhdclnhhhbaaNvm1
namespace Go.Proofs.Ytmekhdclnhhhbaa
open Go.RowKit
set_option linter.unusedSimpArgs false
set_option linter.unusedVariables false
/-- the rows have room -/
structure GOk (g : Geo) (m : Nat) : Prop where
  l : 8 * m ≤ g.cl ∧ g.cl ≤ 9223372036854775807
  c : 8 * m ≤ g.cc ∧ g.cc ≤ 9223372036854775807
  f : 8 * m ≤ g.cf ∧ g.cf ≤ 9223372036854775807
  d : m ≤ g.cd ∧ g.cd ≤ 9223372036854775807
  p : m ≤ g.cp ∧ g.cp ≤ 9223372036854775807
theorem nPart (b c i : Nat) (l : Nat) (P : Option Addr) (w : World) (h : 8 * i + 8 ≤ c ∧ c ≤ 9223372036854775807) :
    Calls Try.prog 77 [.pointer P, .slice (some ⟨b, 0, none⟩) l c, .int .i64 i].toArray w fun e w' => e = .returned (.slice (some ⟨b, 8 * i, none⟩) 8 (c - 8 * i)) ∧ Only [] w w' := by
  have H := Heap.nil w
  refine k_in (N := 14) Try.func77 rfl rfl rfl ?_
  refine k_seq ?_
  refine k_rg ?_
  refine s_run rfl rfl (r_as (v := .slice _ _ _) rfl) ?_
  refine k_nil ?_
  refine c_norm ?_
  refine k_seq ?_
  refine k_rg ?_
  refine s_run rfl rfl (r_mv (v := .slice _ _ _) rfl) ?_
  refine s_run rfl rfl (r_mv (v := .int _ _) rfl) ?_
  refine s_run rfl rfl (r_mul rfl rfl (wI (by omega))) ?_
  refine s_run rfl rfl (r_mv (v := .int _ _) rfl) ?_
  refine s_run rfl rfl (r_add rfl rfl (wI (by omega))) ?_
  refine s_run rfl rfl (r_mul rfl rfl (wI (by omega))) ?_
  refine s_run rfl rfl (r_sl (i := 8 * i) (j := 8 * i + 8) rfl rfl rfl (by omega) (by omega) (by omega) Try.underlying25 sz22) ?_
  refine s_run rfl rfl (r_as (v := .slice _ _ _) rfl) ?_
  refine k_nil ?_
  refine c_norm ?_
  refine k_ret ?_
  refine fin1r (v := .slice _ _ _) rfl rfl ?_
  refine ⟨?_, H.only⟩
  have h1 : ¬ c = 8 * i := by omega
  rw [if_neg h1, show 8 * i + 8 - 8 * i = 8 from by omega, Nat.mul_one, Nat.zero_add]
theorem nStore (g : Geo) (d : Nv.D) (m : Nat) (a v : Int) (w : World) (hE : Ents (devL g d) w) (ho : Nv.Ok d m) (hm : m ≤ 100000) :
    Calls Try.prog 30 [ptr g.p, .int .i64 a, .int .u64 v].toArray w fun e w' => e = .returned (.int .i64 (Nv.store d m a v).2) ∧ Heap w (ids (devL g d)) (devL g (Nv.store d m a v).1) w' := by
  have H0 := Heap.start hE
  have hc := ho.hc
  by_cases hin : 0 ≤ a ∧ a < 8 * (m : Int)
  · by_cases hs : Nv.stops d = true
    · have er : Nv.store d m a v = (Nv.killed d, 3) := by rw [Nv.store, if_pos hin, if_pos hs]
      rw [er]
      generalize hF : ids (devL g d) = F at H0 ⊢
      have H := H0
      unfold devL devCells at H
      refine k_in (N := 37) Try.func30 rfl rfl rfl ?_
      refine k_seq ?_
      refine k_rg ?_
      refine s_run rfl rfl (r_as (v := .int _ _) rfl) ?_
      refine k_nil ?_
      refine c_norm ?_
      refine k_seq ?_
      refine k_b ?_
      refine k_seq ?_
      refine k_rg ?_
      refine s_run rfl rfl (r_mv (v := .int _ _) rfl) ?_
      refine s_run rfl rfl (r_lssF rfl rfl (by omega)) ?_
      refine s_run rfl rfl (r_mv (v := .bool _) rfl) ?_
      refine s_run rfl (g_on 10 (by kernel_rfl) rfl) (r_mv (v := .int _ _) rfl) ?_
      refine s_run rfl (g_on 10 (by kernel_rfl) rfl) (r_mv (v := .pointer _) rfl) ?_
      refine s_run rfl (g_on 10 (by kernel_rfl) rfl) (r_nc rfl) ?_
      refine s_run rfl (g_on 10 (by kernel_rfl) rfl) (r_fa0 rfl fo114_1) ?_
      refine s_run rfl (g_on 10 (by kernel_rfl) rfl) (r_lo H 0 rfl rfl rfl ag25) ?_
      refine s_run rfl (g_on 10 (by kernel_rfl) rfl) (r_len rfl Try.underlying25) ?_
      refine s_run rfl (g_on 10 (by kernel_rfl) rfl) (r_geqF rfl rfl (by omega)) ?_
      refine s_run rfl rfl (r_pkF (v := .bool _) rfl rfl) ?_
      refine s_run rfl rfl (r_as (v := .bool _) rfl) ?_
      refine k_nil ?_
      refine c_norm ?_
      refine k_f rfl ?_
      refine k_seq ?_
      refine k_rg ?_
      refine s_run rfl rfl (r_mv (v := .pointer _) rfl) ?_
      refine s_call rfl (nStep_no g d _ H0.ents hs) (ca70 rfl) ?_
      rintro e W1 ⟨rfl, H'⟩
      refine ⟨_, rfl, ?_⟩
      have H := H0.whole H'
      refine s_run rfl rfl (r_notF rfl) ?_
      refine s_run rfl rfl (r_as (v := .bool _) rfl) ?_
      refine k_nil ?_
      refine c_norm ?_
      refine k_t rfl ?_
      refine k_seq ?_
      refine k_rg ?_
      refine s_run rfl rfl (r_as (v := .int _ _) rfl) ?_
      refine k_nil ?_
      refine c_norm ?_
      refine k_ret ?_
      refine b_ret ?_
      refine c_ret ?_
      refine fin1r (v := .int _ _) rfl rfl ?_
      exact ⟨rfl, H⟩
    · have hs : Nv.stops d = false := by simpa using hs
      have er : Nv.store d m a v = (Nv.put (Nv.stepped d) a.toNat v, 0) := by rw [Nv.store, if_pos hin, if_neg (by simp [hs])]
      rw [er]
      obtain ⟨i, rfl⟩ : ∃ i : Nat, a = (i : Int) := ⟨a.toNat, by omega⟩
      rw [Int.toNat_natCast]
      have hd := ho.hd
      generalize hF : ids (devL g d) = F at H0 ⊢
      have H := H0
      unfold devL devCells at H
      refine k_in (N := 37) Try.func30 rfl rfl rfl ?_
      refine k_seq ?_
      refine k_rg ?_
      refine s_run rfl rfl (r_as (v := .int _ _) rfl) ?_
      refine k_nil ?_
      refine c_norm ?_
      refine k_seq ?_
      refine k_b ?_
      refine k_seq ?_
      refine k_rg ?_
      refine s_run rfl rfl (r_mv (v := .int _ _) rfl) ?_
      refine s_run rfl rfl (r_lssF rfl rfl (by omega)) ?_
      refine s_run rfl rfl (r_mv (v := .bool _) rfl) ?_
      refine s_run rfl (g_on 10 (by kernel_rfl) rfl) (r_mv (v := .int _ _) rfl) ?_
      refine s_run rfl (g_on 10 (by kernel_rfl) rfl) (r_mv (v := .pointer _) rfl) ?_
      refine s_run rfl (g_on 10 (by kernel_rfl) rfl) (r_nc rfl) ?_
      refine s_run rfl (g_on 10 (by kernel_rfl) rfl) (r_fa0 rfl fo114_1) ?_
      refine s_run rfl (g_on 10 (by kernel_rfl) rfl) (r_lo H 0 rfl rfl rfl ag25) ?_
      refine s_run rfl (g_on 10 (by kernel_rfl) rfl) (r_len rfl Try.underlying25) ?_
      refine s_run rfl (g_on 10 (by kernel_rfl) rfl) (r_geqF rfl rfl (by omega)) ?_
      refine s_run rfl rfl (r_pkF (v := .bool _) rfl rfl) ?_
      refine s_run rfl rfl (r_as (v := .bool _) rfl) ?_
      refine k_nil ?_
      refine c_norm ?_
      refine k_f rfl ?_
      refine k_seq ?_
      refine k_rg ?_
      refine s_run rfl rfl (r_mv (v := .pointer _) rfl) ?_
      refine s_call rfl (nStep_yes g d _ H0.ents hs) (ca70 rfl) ?_
      rintro e W1 ⟨rfl, H'⟩
      refine ⟨_, rfl, ?_⟩
      have H := H0.whole H'; unfold devL devCells Nv.stepped at H; simp only at H
      refine s_run rfl rfl (r_notT rfl) ?_
      refine s_run rfl rfl (r_as (v := .bool _) rfl) ?_
      refine k_nil ?_
      refine c_norm ?_
      refine k_f rfl ?_
      refine k_skip ?_
      refine b_norm ?_
      refine c_norm ?_
      refine k_seq ?_
      refine k_rg ?_
      refine s_run rfl rfl (r_mv (v := .pointer _) rfl) ?_
      refine s_run rfl rfl (r_nc rfl) ?_
      refine s_run rfl rfl (r_fa0 rfl fo114_1) ?_
      refine s_run rfl rfl (r_lo H 0 rfl rfl rfl ag25) ?_
      refine s_run rfl rfl (r_mv (v := .int _ _) rfl) ?_
      refine s_run rfl rfl (r_mv (v := .int _ _) rfl) ?_
      refine s_run rfl rfl (r_ix1 rfl rfl rfl (by omega) Try.underlying25 sz22) ?_
      refine s_sv (u := .int _ _) H 2 rfl rfl rfl rfl rfl (by omega) (fun _ => rfl) sz22 ?_
      intro _ H'; simp only [List.set_cons_zero, List.set_cons_succ, List.take_succ_cons, List.take_zero, List.drop_succ_cons, List.drop_zero, List.cons_append, List.nil_append, List.append_nil, List.length_cons, List.length_nil, Nat.reduceAdd] at H'; clear H; have H := H'; clear H'
      refine k_nil ?_
      refine c_norm ?_
      refine k_seq ?_
      refine k_rg ?_
      refine s_run rfl rfl (r_mv (v := .pointer _) rfl) ?_
      refine s_run rfl rfl (r_nc rfl) ?_
      refine s_run rfl rfl (r_fa0 rfl fo114_3) ?_
      refine s_run rfl rfl (r_lo H 0 rfl rfl rfl ag53) ?_
      refine s_run rfl rfl (r_mv (v := .int _ _) rfl) ?_
      refine s_run rfl rfl (r_quo rfl rfl (by omega) (wI (by omega))) ?_
      refine s_run rfl rfl (r_ix1 (i := i / 8) rfl rfl (by omega) (by omega) Try.underlying53 sz4) ?_
      refine s_sv (u := .bool _) H 4 rfl rfl rfl rfl rfl (by omega) (fun _ => rfl) sz4 ?_
      intro _ H'; simp only [List.set_cons_zero, List.set_cons_succ, List.take_succ_cons, List.take_zero, List.drop_succ_cons, List.drop_zero, List.cons_append, List.nil_append, List.append_nil, List.length_cons, List.length_nil, Nat.reduceAdd] at H'; clear H; have H := H'; clear H'
      refine k_nil ?_
      refine c_norm ?_
      refine k_seq ?_
      refine k_rg ?_
      refine s_run rfl rfl (r_as (v := .int _ _) rfl) ?_
      refine k_nil ?_
      refine c_norm ?_
      refine k_ret ?_
      refine fin1r (v := .int _ _) rfl rfl ?_
      refine ⟨rfl, ?_⟩
      unfold devL devCells Nv.put Nv.stepped
      simpa using H
  · have er : Nv.store d m a v = (d, 2) := by rw [Nv.store, if_neg hin]
    rw [er]
    generalize hF : ids (devL g d) = F at H0 ⊢
    have H := H0
    unfold devL devCells at H
    by_cases h1 : a < 0
    · refine k_in (N := 37) Try.func30 rfl rfl rfl ?_
      refine k_seq ?_
      refine k_rg ?_
      refine s_run rfl rfl (r_as (v := .int _ _) rfl) ?_
      refine k_nil ?_
      refine c_norm ?_
      refine k_seq ?_
      refine k_b ?_
      refine k_seq ?_
      refine k_rg ?_
      refine s_run rfl rfl (r_mv (v := .int _ _) rfl) ?_
      refine s_run rfl rfl (r_lssT rfl rfl (by omega)) ?_
      refine s_run rfl rfl (r_mv (v := .bool _) rfl) ?_
      refine s_off rfl (g_off 10 (by kernel_rfl) rfl rfl) ?_
      refine s_off rfl (g_off 10 (by kernel_rfl) rfl rfl) ?_
      refine s_off rfl (g_off 10 (by kernel_rfl) rfl rfl) ?_
      refine s_off rfl (g_off 10 (by kernel_rfl) rfl rfl) ?_
      refine s_off rfl (g_off 10 (by kernel_rfl) rfl rfl) ?_
      refine s_off rfl (g_off 10 (by kernel_rfl) rfl rfl) ?_
      refine s_off rfl (g_off 10 (by kernel_rfl) rfl rfl) ?_
      refine s_run rfl rfl (r_pkT (v := .bool _) rfl rfl) ?_
      refine s_run rfl rfl (r_as (v := .bool _) rfl) ?_
      refine k_nil ?_
      refine c_norm ?_
      refine k_t rfl ?_
      refine k_seq ?_
      refine k_rg ?_
      refine s_run rfl rfl (r_as (v := .int _ _) rfl) ?_
      refine k_nil ?_
      refine c_norm ?_
      refine k_ret ?_
      refine b_ret ?_
      refine c_ret ?_
      refine fin1r (v := .int _ _) rfl rfl ?_
      exact ⟨rfl, H⟩
    · refine k_in (N := 37) Try.func30 rfl rfl rfl ?_
      refine k_seq ?_
      refine k_rg ?_
      refine s_run rfl rfl (r_as (v := .int _ _) rfl) ?_
      refine k_nil ?_
      refine c_norm ?_
      refine k_seq ?_
      refine k_b ?_
      refine k_seq ?_
      refine k_rg ?_
      refine s_run rfl rfl (r_mv (v := .int _ _) rfl) ?_
      refine s_run rfl rfl (r_lssF rfl rfl (by omega)) ?_
      refine s_run rfl rfl (r_mv (v := .bool _) rfl) ?_
      refine s_run rfl (g_on 10 (by kernel_rfl) rfl) (r_mv (v := .int _ _) rfl) ?_
      refine s_run rfl (g_on 10 (by kernel_rfl) rfl) (r_mv (v := .pointer _) rfl) ?_
      refine s_run rfl (g_on 10 (by kernel_rfl) rfl) (r_nc rfl) ?_
      refine s_run rfl (g_on 10 (by kernel_rfl) rfl) (r_fa0 rfl fo114_1) ?_
      refine s_run rfl (g_on 10 (by kernel_rfl) rfl) (r_lo H 0 rfl rfl rfl ag25) ?_
      refine s_run rfl (g_on 10 (by kernel_rfl) rfl) (r_len rfl Try.underlying25) ?_
      refine s_run rfl (g_on 10 (by kernel_rfl) rfl) (r_geqT rfl rfl (by omega)) ?_
      refine s_run rfl rfl (r_pkF (v := .bool _) rfl rfl) ?_
      refine s_run rfl rfl (r_as (v := .bool _) rfl) ?_
      refine k_nil ?_
      refine c_norm ?_
      refine k_t rfl ?_
      refine k_seq ?_
      refine k_rg ?_
      refine s_run rfl rfl (r_as (v := .int _ _) rfl) ?_
      refine k_nil ?_
      refine c_norm ?_
      refine k_ret ?_
      refine b_ret ?_
      refine c_ret ?_
      refine fin1r (v := .int _ _) rfl rfl ?_
      exact ⟨rfl, H⟩
end Go.Proofs.Ytmekhdclnhhhbaa
