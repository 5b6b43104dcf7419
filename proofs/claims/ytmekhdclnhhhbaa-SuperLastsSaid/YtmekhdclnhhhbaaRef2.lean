/- The document's Store, Flush, Evict, Get. -/
import Derived.Test.YtmekhdclnhhhbaaRef1
namespace Go.Proofs.Ytmekhdclnhhhbaa
open Go.RowKit
set_option linter.unusedSimpArgs false
set_option linter.unusedVariables false
theorem Sees.nilF {α : Type} {enc : α → Value} {w : World} {F : List Nat} {A : Option Addr} {xs : List α} (h : Sees enc w F A xs) : Sees enc w [] A xs := h.mono (by simp)
theorem refE (s : RefS) (d : Nv.D) (m : Nat) : refCells s d m = [.slice s.A0 m s.c0, .slice s.A1 m s.c1, .slice s.A2 m s.c2, .slice s.A3 m s.c3, .slice s.A4 m s.c4, .int .i64 d.steps, .int .i64 s.rf, .bool d.dead] := rfl
theorem rStore (s : RefS) (d : Nv.D) (m : Nat) (a v : Int) (F : List Nat) (w : World) (hr : RefOk w F s d m) (hF : ∀ i ∈ F, i < w.heap.size) (hm : m ≤ 100000) :
    Calls Try.prog 71 [.agg (refCells s d m).toArray, .int .i64 a, .int .u64 v].toArray w fun e w' => ∃ s', e = .returned (.tuple #[.agg (refCells s' (Nv.store d m a v).1 m).toArray, .int .i64 (Nv.store d m a v).2]) ∧ Heap w [] [] w' ∧ RefOk w' F s' (Nv.store d m a v).1 m := by
  have H := Heap.nil w
  have hok := hr.ok
  have hc := hok.hc
  have hdd := hok.hd
  by_cases hin : 0 ≤ a ∧ a < 8 * (m : Int)
  · have hS := rStep s d m
    by_cases hs : Nv.stops d = true
    · have er : Nv.store d m a v = (Nv.killed d, 3) := by rw [Nv.store, if_pos hin, if_pos hs]
      rw [er]
      simp only [hs, if_true, Bool.not_true] at hS
      rw [refE]
      refine k_in (N := 51) Try.func71 rfl rfl rfl ?_
      refine k_seq ?_
      refine k_rg ?_
      refine s_box H rfl rfl ?_
      intro p3 _ H'; clear H; have H := H'; clear H'
      refine s_al H rfl inf55 ?_
      intro p6 _ H'; clear H; have H := H'; clear H'
      refine s_run rfl rfl (r_as (v := .int _ _) rfl) ?_
      refine k_nil ?_
      refine c_norm ?_
      refine k_seq ?_
      refine k_seq ?_
      refine k_rg ?_
      refine s_run rfl rfl (r_mv (v := .int _ _) rfl) ?_
      refine s_run rfl rfl (r_lssF rfl rfl (by omega)) ?_
      refine s_run rfl rfl (r_mv (v := .bool _) rfl) ?_
      refine s_run rfl (g_on 11 (by kernel_rfl) rfl) (r_mv (v := .int _ _) rfl) ?_
      refine s_run rfl (g_on 11 (by kernel_rfl) rfl) (r_fa0 rfl fo55_0) ?_
      refine s_run rfl (g_on 11 (by kernel_rfl) rfl) (r_lo H 1 rfl rfl rfl ag52) ?_
      refine s_run rfl (g_on 11 (by kernel_rfl) rfl) (r_len rfl Try.underlying52) ?_
      refine s_run rfl (g_on 11 (by kernel_rfl) rfl) (r_mul rfl rfl (wI (by omega))) ?_
      refine s_run rfl (g_on 11 (by kernel_rfl) rfl) (r_geqF rfl rfl (by omega)) ?_
      refine s_run rfl rfl (r_pkF (v := .bool _) rfl rfl) ?_
      refine k_nil ?_
      refine c_norm ?_
      refine k_f rfl ?_
      refine k_skip ?_
      refine c_norm ?_
      refine k_seq ?_
      refine k_rg ?_
      refine s_run rfl rfl (r_la H 1 rfl rfl rfl ag55 sz55) ?_
      refine s_call rfl (hS _ hr.fuse) (ca110 rfl) ?_
      rintro e W1 ⟨rf, rfl, H', hf'⟩
      refine ⟨_, rfl, ?_⟩
      have H := H.same H'; clear H'; simp only [refE]
      refine s_run rfl rfl (r_mv (v := .tuple _) rfl) ?_
      refine s_run rfl rfl (r_ext (v := .agg _) rfl rfl) ?_
      refine s_run rfl rfl (r_ext (v := .bool _) rfl rfl) ?_
      refine s_sw H 1 rfl rfl rfl rfl rfl rfl rfl sz55 ?_
      intro _ H'; simp only [List.set_cons_zero, List.set_cons_succ, List.take_succ_cons, List.take_zero, List.drop_succ_cons, List.drop_zero, List.cons_append, List.nil_append, List.append_nil, List.length_cons, List.length_nil, Nat.reduceAdd] at H'; clear H; have H := H'; clear H'
      refine s_run rfl rfl (r_as (v := .bool _) rfl) ?_
      refine k_nil ?_
      refine c_norm ?_
      refine k_seq ?_
      refine k_seq ?_
      refine k_rg ?_
      refine s_run rfl rfl (r_mv (v := .bool _) rfl) ?_
      refine s_run rfl rfl (r_notF rfl) ?_
      refine k_nil ?_
      refine c_norm ?_
      refine k_t rfl ?_
      refine k_seq ?_
      refine k_rg ?_
      refine s_run rfl rfl (r_la H 1 rfl rfl rfl ag55 sz55) ?_
      refine s_sw H 0 rfl rfl rfl rfl rfl rfl rfl sz55 ?_
      intro _ H'; simp only [List.set_cons_zero, List.set_cons_succ, List.take_succ_cons, List.take_zero, List.drop_succ_cons, List.drop_zero, List.cons_append, List.nil_append, List.append_nil, List.length_cons, List.length_nil, Nat.reduceAdd] at H'; clear H; have H := H'; clear H'
      refine s_run rfl rfl (r_as (v := .int _ _) rfl) ?_
      refine k_nil ?_
      refine c_norm ?_
      refine k_ret ?_
      refine c_ret ?_
      refine fx2r rfl (rv_a H 0 rfl rfl rfl ag55 sz55) (rv_t (v := .int _ _) rfl) ?_
      exact ⟨{ s with rf := rf }, rfl, H.clear, ⟨hr.now.later H.only (by simp), hr.last.later H.only (by simp), hr.wait.later H.only (by simp), hr.dirty.later H.only (by simp), hr.pend.later H.only (by simp), hf', hok.killed⟩⟩
    · have hs : Nv.stops d = false := by simpa using hs
      obtain ⟨i, rfl⟩ : ∃ i : Nat, a = (i : Int) := ⟨a.toNat, by omega⟩
      have er : Nv.store d m i v = (Nv.put (Nv.stepped d) i v, 0) := by rw [Nv.store, if_pos hin, if_neg (by simp [hs]), Int.toNat_natCast]
      rw [er]
      simp only [hs, Bool.false_eq_true, if_false, Bool.not_false] at hS
      rw [refE]
      refine k_in (N := 51) Try.func71 rfl rfl rfl ?_
      refine k_seq ?_
      refine k_rg ?_
      refine s_box H rfl rfl ?_
      intro p3 _ H'; clear H; have H := H'; clear H'
      refine s_al H rfl inf55 ?_
      intro p6 _ H'; clear H; have H := H'; clear H'
      refine s_run rfl rfl (r_as (v := .int _ _) rfl) ?_
      refine k_nil ?_
      refine c_norm ?_
      refine k_seq ?_
      refine k_seq ?_
      refine k_rg ?_
      refine s_run rfl rfl (r_mv (v := .int _ _) rfl) ?_
      refine s_run rfl rfl (r_lssF rfl rfl (by omega)) ?_
      refine s_run rfl rfl (r_mv (v := .bool _) rfl) ?_
      refine s_run rfl (g_on 11 (by kernel_rfl) rfl) (r_mv (v := .int _ _) rfl) ?_
      refine s_run rfl (g_on 11 (by kernel_rfl) rfl) (r_fa0 rfl fo55_0) ?_
      refine s_run rfl (g_on 11 (by kernel_rfl) rfl) (r_lo H 1 rfl rfl rfl ag52) ?_
      refine s_run rfl (g_on 11 (by kernel_rfl) rfl) (r_len rfl Try.underlying52) ?_
      refine s_run rfl (g_on 11 (by kernel_rfl) rfl) (r_mul rfl rfl (wI (by omega))) ?_
      refine s_run rfl (g_on 11 (by kernel_rfl) rfl) (r_geqF rfl rfl (by omega)) ?_
      refine s_run rfl rfl (r_pkF (v := .bool _) rfl rfl) ?_
      refine k_nil ?_
      refine c_norm ?_
      refine k_f rfl ?_
      refine k_skip ?_
      refine c_norm ?_
      refine k_seq ?_
      refine k_rg ?_
      refine s_run rfl rfl (r_la H 1 rfl rfl rfl ag55 sz55) ?_
      refine s_call rfl (hS _ hr.fuse) (ca110 rfl) ?_
      rintro e W1 ⟨rf, rfl, H', hf'⟩
      refine ⟨_, rfl, ?_⟩
      have H := H.same H'; clear H'; simp only [refE, Nv.stepped]
      refine s_run rfl rfl (r_mv (v := .tuple _) rfl) ?_
      refine s_run rfl rfl (r_ext (v := .agg _) rfl rfl) ?_
      refine s_run rfl rfl (r_ext (v := .bool _) rfl rfl) ?_
      refine s_sw H 1 rfl rfl rfl rfl rfl rfl rfl sz55 ?_
      intro _ H'; simp only [List.set_cons_zero, List.set_cons_succ, List.take_succ_cons, List.take_zero, List.drop_succ_cons, List.drop_zero, List.cons_append, List.nil_append, List.append_nil, List.length_cons, List.length_nil, Nat.reduceAdd] at H'; clear H; have H := H'; clear H'
      refine s_run rfl rfl (r_as (v := .bool _) rfl) ?_
      refine k_nil ?_
      refine c_norm ?_
      refine k_seq ?_
      refine k_seq ?_
      refine k_rg ?_
      refine s_run rfl rfl (r_mv (v := .bool _) rfl) ?_
      refine s_run rfl rfl (r_notT rfl) ?_
      refine k_nil ?_
      refine c_norm ?_
      refine k_f rfl ?_
      refine k_skip ?_
      refine c_norm ?_
      refine k_seq ?_
      refine k_trF mixed ?_; have H' := H.drew; clear H; have H := H'; clear H'
      refine t_take 0 rfl (by kernel_rfl) (by kernel_rfl) (by kernel_rfl) rfl (fun _ _ _ _ h => h) rfl (fun _ hS => r_fa0 rfl fo55_0) trivial ?_
      refine t_take 3 rfl (by kernel_rfl) (by kernel_rfl) (by kernel_rfl) rfl (fun _ _ _ _ h => h) rfl (fun _ hS => r_fa0 rfl fo55_3) trivial ?_
      refine t_up2 1 4 (by kernel_rfl) ?_ ?_
      · refine up_mk rfl ?_
        refine s_run rfl rfl (r_lo H 1 rfl rfl rfl ag52) ?_
        refine k_nil ?_
        refine t_on trivial ?_
        refine t_up2 2 4 (by kernel_rfl) ?_ ?_
        · refine up_mk rfl ?_
          refine s_call rfl (rLines s.A0 m _ d.cache _ (hr.now.nilF.later H.only (by simp)) (by omega) hm) (ca111 rfl) ?_
          rintro e W1 ⟨A1, b1, c1, rfl, hb1, H'⟩
          refine ⟨_, rfl, ?_⟩
          obtain rfl := hb1 (by omega); have H := H.more H'; clear H'
          refine k_nil ?_
          refine t_on trivial ?_
          refine t_up1 4 (by kernel_rfl) ?_
          refine up_mk rfl ?_
          refine s_run rfl rfl (r_lo H 2 rfl rfl rfl ag53) ?_
          refine k_nil ?_
          refine t_on trivial ?_
          refine t_take 6 rfl (by kernel_rfl) (by kernel_rfl) (by kernel_rfl) rfl (fun _ _ _ _ h => h) rfl (fun _ hS => r_fa0 rfl fo55_0) trivial ?_
          refine t_up1 5 (by kernel_rfl) ?_
          refine up_mk rfl ?_
          refine s_call rfl (rFlags s.A3 m _ d.dirty _ (hr.dirty.nilF.later H.only (by simp)) (by omega) hm) (ca112 rfl) ?_
          rintro e W1 ⟨A2, b2, c2, rfl, hb2, H'⟩
          refine ⟨_, rfl, ?_⟩
          obtain rfl := hb2 (by omega); have H := H.more H'; clear H'
          refine k_nil ?_
          refine t_on trivial ?_
          refine t_up1 7 (by kernel_rfl) ?_
          refine up_mk rfl ?_
          refine s_st (u := .slice _ _ _) H 3 rfl rfl rfl rfl rfl rfl sz52 ?_
          intro _ H'; simp only [List.set_cons_zero, List.set_cons_succ, List.take_succ_cons, List.take_zero, List.drop_succ_cons, List.drop_zero, List.cons_append, List.nil_append, List.append_nil, List.length_cons, List.length_nil, Nat.reduceAdd] at H'; clear H; have H := H'; clear H'
          refine k_nil ?_
          refine t_on trivial ?_
          refine t_take 8 rfl (by kernel_rfl) (by kernel_rfl) (by kernel_rfl) rfl (fun _ _ _ _ h => h) rfl (fun _ hS => r_fa0 rfl fo55_3) trivial ?_
          refine t_up1 9 (by kernel_rfl) ?_
          refine up_mk rfl ?_
          refine s_st (u := .slice _ _ _) H 3 rfl rfl rfl rfl rfl rfl sz53 ?_
          intro _ H'; simp only [List.set_cons_zero, List.set_cons_succ, List.take_succ_cons, List.take_zero, List.drop_succ_cons, List.drop_zero, List.cons_append, List.nil_append, List.append_nil, List.length_cons, List.length_nil, Nat.reduceAdd] at H'; clear H; have H := H'; clear H'
          refine k_nil ?_
          refine t_on trivial ?_
          refine t_done (by kernel_rfl) ?_
          refine c_norm ?_
          refine k_seq ?_
          refine k_rg ?_
          refine s_run rfl rfl (r_fa0 rfl fo55_0) ?_
          refine s_run rfl rfl (r_lo H 3 rfl rfl rfl ag52) ?_
          refine s_run rfl rfl (r_mv (v := .int _ _) rfl) ?_
          refine s_run rfl rfl (r_quo rfl rfl (by omega) (wI (by omega))) ?_
          refine s_run rfl rfl (r_mv (v := .int _ _) rfl) ?_
          refine s_run rfl rfl (r_rem rfl rfl (by omega)) ?_
          refine s_run rfl rfl (r_mv (v := .int _ _) rfl) ?_
          refine s_run rfl rfl (r_ix0 (i := i / 8) rfl rfl (by omega) (by omega) Try.underlying52 sz124) ?_
          refine s_run rfl rfl (r_ia1 (i := i % 8) rfl rfl (by omega) (by omega) Try.underlying124 sz22) ?_
          refine s_sv (u := .int _ _) H 1 rfl rfl rfl rfl rfl (by omega) (fun _ => rfl) sz22 ?_
          intro _ H'; simp only [List.set_cons_zero, List.set_cons_succ, List.take_succ_cons, List.take_zero, List.drop_succ_cons, List.drop_zero, List.cons_append, List.nil_append, List.append_nil, List.length_cons, List.length_nil, Nat.reduceAdd] at H'; clear H; have H := H'; clear H'
          refine k_nil ?_
          refine c_norm ?_
          refine k_seq ?_
          refine k_rg ?_
          refine s_run rfl rfl (r_fa0 rfl fo55_3) ?_
          refine s_run rfl rfl (r_lo H 3 rfl rfl rfl ag53) ?_
          refine s_run rfl rfl (r_mv (v := .int _ _) rfl) ?_
          refine s_run rfl rfl (r_quo rfl rfl (by omega) (wI (by omega))) ?_
          refine s_run rfl rfl (r_ix1 (i := i / 8) rfl rfl (by omega) (by omega) Try.underlying53 sz4) ?_
          refine s_sv (u := .bool _) H 0 rfl rfl rfl rfl rfl (by omega) (fun _ => rfl) sz4 ?_
          intro _ H'; simp only [List.set_cons_zero, List.set_cons_succ, List.take_succ_cons, List.take_zero, List.drop_succ_cons, List.drop_zero, List.cons_append, List.nil_append, List.append_nil, List.length_cons, List.length_nil, Nat.reduceAdd] at H'; clear H; have H := H'; clear H'
          refine k_nil ?_
          refine c_norm ?_
          refine k_seq ?_
          refine k_rg ?_
          refine s_run rfl rfl (r_la H 3 rfl rfl rfl ag55 sz55) ?_
          refine s_sw H 2 rfl rfl rfl rfl rfl rfl rfl sz55 ?_
          intro _ H'; simp only [List.set_cons_zero, List.set_cons_succ, List.take_succ_cons, List.take_zero, List.drop_succ_cons, List.drop_zero, List.cons_append, List.nil_append, List.append_nil, List.length_cons, List.length_nil, Nat.reduceAdd] at H'; clear H; have H := H'; clear H'
          refine s_run rfl rfl (r_as (v := .int _ _) rfl) ?_
          refine k_nil ?_
          refine c_norm ?_
          refine k_ret ?_
          refine fx2r rfl (rv_a H 2 rfl rfl rfl ag55 sz55) (rv_t (v := .int _ _) rfl) ?_
          have e1 : i / 8 * 8 + i % 8 = i := by omega
          rw [e1] at H
          refine ⟨⟨some ⟨b1, 0, none⟩, c1, s.A1, s.c1, s.A2, s.c2, some ⟨b2, 0, none⟩, c2, s.A4, s.c4, rf⟩, rfl, H.clear, ⟨?_, hr.last.later H.only (by simp), hr.wait.later H.only (by simp), ?_, hr.pend.later H.only (by simp), hf', hok.stepped.put _ _⟩⟩
          · exact H.sees 1 rfl hF (m := 1) (fun _ => rfl) (fun _ => by simp)
          · exact H.sees 0 rfl hF (m := 1) (fun _ => rfl) (fun _ => by simp)
        · refine up_mk rfl ?_
          refine s_run rfl rfl (r_lo H 1 rfl rfl rfl ag53) ?_
          refine k_nil ?_
          refine t_on trivial ?_
          refine t_up1 2 (by kernel_rfl) ?_
          refine up_mk rfl ?_
          refine s_call rfl (rLines s.A0 m _ d.cache _ (hr.now.nilF.later H.only (by simp)) (by omega) hm) (ca111 rfl) ?_
          rintro e W1 ⟨A1, b1, c1, rfl, hb1, H'⟩
          refine ⟨_, rfl, ?_⟩
          obtain rfl := hb1 (by omega); have H := H.more H'; clear H'
          refine k_nil ?_
          refine t_on trivial ?_
          refine t_take 6 rfl (by kernel_rfl) (by kernel_rfl) (by kernel_rfl) rfl (fun _ _ _ _ h => h) rfl (fun _ hS => r_fa0 rfl fo55_0) trivial ?_
          refine t_up1 5 (by kernel_rfl) ?_
          refine up_mk rfl ?_
          refine s_call rfl (rFlags s.A3 m _ d.dirty _ (hr.dirty.nilF.later H.only (by simp)) (by omega) hm) (ca112 rfl) ?_
          rintro e W1 ⟨A2, b2, c2, rfl, hb2, H'⟩
          refine ⟨_, rfl, ?_⟩
          obtain rfl := hb2 (by omega); have H := H.more H'; clear H'
          refine k_nil ?_
          refine t_on trivial ?_
          refine t_up1 7 (by kernel_rfl) ?_
          refine up_mk rfl ?_
          refine s_st (u := .slice _ _ _) H 3 rfl rfl rfl rfl rfl rfl sz52 ?_
          intro _ H'; simp only [List.set_cons_zero, List.set_cons_succ, List.take_succ_cons, List.take_zero, List.drop_succ_cons, List.drop_zero, List.cons_append, List.nil_append, List.append_nil, List.length_cons, List.length_nil, Nat.reduceAdd] at H'; clear H; have H := H'; clear H'
          refine k_nil ?_
          refine t_on trivial ?_
          refine t_take 8 rfl (by kernel_rfl) (by kernel_rfl) (by kernel_rfl) rfl (fun _ _ _ _ h => h) rfl (fun _ hS => r_fa0 rfl fo55_3) trivial ?_
          refine t_up1 9 (by kernel_rfl) ?_
          refine up_mk rfl ?_
          refine s_st (u := .slice _ _ _) H 3 rfl rfl rfl rfl rfl rfl sz53 ?_
          intro _ H'; simp only [List.set_cons_zero, List.set_cons_succ, List.take_succ_cons, List.take_zero, List.drop_succ_cons, List.drop_zero, List.cons_append, List.nil_append, List.append_nil, List.length_cons, List.length_nil, Nat.reduceAdd] at H'; clear H; have H := H'; clear H'
          refine k_nil ?_
          refine t_on trivial ?_
          refine t_done (by kernel_rfl) ?_
          refine c_norm ?_
          refine k_seq ?_
          refine k_rg ?_
          refine s_run rfl rfl (r_fa0 rfl fo55_0) ?_
          refine s_run rfl rfl (r_lo H 3 rfl rfl rfl ag52) ?_
          refine s_run rfl rfl (r_mv (v := .int _ _) rfl) ?_
          refine s_run rfl rfl (r_quo rfl rfl (by omega) (wI (by omega))) ?_
          refine s_run rfl rfl (r_mv (v := .int _ _) rfl) ?_
          refine s_run rfl rfl (r_rem rfl rfl (by omega)) ?_
          refine s_run rfl rfl (r_mv (v := .int _ _) rfl) ?_
          refine s_run rfl rfl (r_ix0 (i := i / 8) rfl rfl (by omega) (by omega) Try.underlying52 sz124) ?_
          refine s_run rfl rfl (r_ia1 (i := i % 8) rfl rfl (by omega) (by omega) Try.underlying124 sz22) ?_
          refine s_sv (u := .int _ _) H 1 rfl rfl rfl rfl rfl (by omega) (fun _ => rfl) sz22 ?_
          intro _ H'; simp only [List.set_cons_zero, List.set_cons_succ, List.take_succ_cons, List.take_zero, List.drop_succ_cons, List.drop_zero, List.cons_append, List.nil_append, List.append_nil, List.length_cons, List.length_nil, Nat.reduceAdd] at H'; clear H; have H := H'; clear H'
          refine k_nil ?_
          refine c_norm ?_
          refine k_seq ?_
          refine k_rg ?_
          refine s_run rfl rfl (r_fa0 rfl fo55_3) ?_
          refine s_run rfl rfl (r_lo H 3 rfl rfl rfl ag53) ?_
          refine s_run rfl rfl (r_mv (v := .int _ _) rfl) ?_
          refine s_run rfl rfl (r_quo rfl rfl (by omega) (wI (by omega))) ?_
          refine s_run rfl rfl (r_ix1 (i := i / 8) rfl rfl (by omega) (by omega) Try.underlying53 sz4) ?_
          refine s_sv (u := .bool _) H 0 rfl rfl rfl rfl rfl (by omega) (fun _ => rfl) sz4 ?_
          intro _ H'; simp only [List.set_cons_zero, List.set_cons_succ, List.take_succ_cons, List.take_zero, List.drop_succ_cons, List.drop_zero, List.cons_append, List.nil_append, List.append_nil, List.length_cons, List.length_nil, Nat.reduceAdd] at H'; clear H; have H := H'; clear H'
          refine k_nil ?_
          refine c_norm ?_
          refine k_seq ?_
          refine k_rg ?_
          refine s_run rfl rfl (r_la H 3 rfl rfl rfl ag55 sz55) ?_
          refine s_sw H 2 rfl rfl rfl rfl rfl rfl rfl sz55 ?_
          intro _ H'; simp only [List.set_cons_zero, List.set_cons_succ, List.take_succ_cons, List.take_zero, List.drop_succ_cons, List.drop_zero, List.cons_append, List.nil_append, List.append_nil, List.length_cons, List.length_nil, Nat.reduceAdd] at H'; clear H; have H := H'; clear H'
          refine s_run rfl rfl (r_as (v := .int _ _) rfl) ?_
          refine k_nil ?_
          refine c_norm ?_
          refine k_ret ?_
          refine fx2r rfl (rv_a H 2 rfl rfl rfl ag55 sz55) (rv_t (v := .int _ _) rfl) ?_
          have e1 : i / 8 * 8 + i % 8 = i := by omega
          rw [e1] at H
          refine ⟨⟨some ⟨b1, 0, none⟩, c1, s.A1, s.c1, s.A2, s.c2, some ⟨b2, 0, none⟩, c2, s.A4, s.c4, rf⟩, rfl, H.clear, ⟨?_, hr.last.later H.only (by simp), hr.wait.later H.only (by simp), ?_, hr.pend.later H.only (by simp), hf', hok.stepped.put _ _⟩⟩
          · exact H.sees 1 rfl hF (m := 1) (fun _ => rfl) (fun _ => by simp)
          · exact H.sees 0 rfl hF (m := 1) (fun _ => rfl) (fun _ => by simp)
      · refine up_mk rfl ?_
        refine s_run rfl rfl (r_lo H 1 rfl rfl rfl ag53) ?_
        refine k_nil ?_
        refine t_on trivial ?_
        refine t_up1 1 (by kernel_rfl) ?_
        refine up_mk rfl ?_
        refine s_run rfl rfl (r_lo H 1 rfl rfl rfl ag52) ?_
        refine k_nil ?_
        refine t_on trivial ?_
        refine t_up1 2 (by kernel_rfl) ?_
        refine up_mk rfl ?_
        refine s_call rfl (rLines s.A0 m _ d.cache _ (hr.now.nilF.later H.only (by simp)) (by omega) hm) (ca111 rfl) ?_
        rintro e W1 ⟨A1, b1, c1, rfl, hb1, H'⟩
        refine ⟨_, rfl, ?_⟩
        obtain rfl := hb1 (by omega); have H := H.more H'; clear H'
        refine k_nil ?_
        refine t_on trivial ?_
        refine t_take 6 rfl (by kernel_rfl) (by kernel_rfl) (by kernel_rfl) rfl (fun _ _ _ _ h => h) rfl (fun _ hS => r_fa0 rfl fo55_0) trivial ?_
        refine t_up1 5 (by kernel_rfl) ?_
        refine up_mk rfl ?_
        refine s_call rfl (rFlags s.A3 m _ d.dirty _ (hr.dirty.nilF.later H.only (by simp)) (by omega) hm) (ca112 rfl) ?_
        rintro e W1 ⟨A2, b2, c2, rfl, hb2, H'⟩
        refine ⟨_, rfl, ?_⟩
        obtain rfl := hb2 (by omega); have H := H.more H'; clear H'
        refine k_nil ?_
        refine t_on trivial ?_
        refine t_up1 7 (by kernel_rfl) ?_
        refine up_mk rfl ?_
        refine s_st (u := .slice _ _ _) H 3 rfl rfl rfl rfl rfl rfl sz52 ?_
        intro _ H'; simp only [List.set_cons_zero, List.set_cons_succ, List.take_succ_cons, List.take_zero, List.drop_succ_cons, List.drop_zero, List.cons_append, List.nil_append, List.append_nil, List.length_cons, List.length_nil, Nat.reduceAdd] at H'; clear H; have H := H'; clear H'
        refine k_nil ?_
        refine t_on trivial ?_
        refine t_take 8 rfl (by kernel_rfl) (by kernel_rfl) (by kernel_rfl) rfl (fun _ _ _ _ h => h) rfl (fun _ hS => r_fa0 rfl fo55_3) trivial ?_
        refine t_up1 9 (by kernel_rfl) ?_
        refine up_mk rfl ?_
        refine s_st (u := .slice _ _ _) H 3 rfl rfl rfl rfl rfl rfl sz53 ?_
        intro _ H'; simp only [List.set_cons_zero, List.set_cons_succ, List.take_succ_cons, List.take_zero, List.drop_succ_cons, List.drop_zero, List.cons_append, List.nil_append, List.append_nil, List.length_cons, List.length_nil, Nat.reduceAdd] at H'; clear H; have H := H'; clear H'
        refine k_nil ?_
        refine t_on trivial ?_
        refine t_done (by kernel_rfl) ?_
        refine c_norm ?_
        refine k_seq ?_
        refine k_rg ?_
        refine s_run rfl rfl (r_fa0 rfl fo55_0) ?_
        refine s_run rfl rfl (r_lo H 3 rfl rfl rfl ag52) ?_
        refine s_run rfl rfl (r_mv (v := .int _ _) rfl) ?_
        refine s_run rfl rfl (r_quo rfl rfl (by omega) (wI (by omega))) ?_
        refine s_run rfl rfl (r_mv (v := .int _ _) rfl) ?_
        refine s_run rfl rfl (r_rem rfl rfl (by omega)) ?_
        refine s_run rfl rfl (r_mv (v := .int _ _) rfl) ?_
        refine s_run rfl rfl (r_ix0 (i := i / 8) rfl rfl (by omega) (by omega) Try.underlying52 sz124) ?_
        refine s_run rfl rfl (r_ia1 (i := i % 8) rfl rfl (by omega) (by omega) Try.underlying124 sz22) ?_
        refine s_sv (u := .int _ _) H 1 rfl rfl rfl rfl rfl (by omega) (fun _ => rfl) sz22 ?_
        intro _ H'; simp only [List.set_cons_zero, List.set_cons_succ, List.take_succ_cons, List.take_zero, List.drop_succ_cons, List.drop_zero, List.cons_append, List.nil_append, List.append_nil, List.length_cons, List.length_nil, Nat.reduceAdd] at H'; clear H; have H := H'; clear H'
        refine k_nil ?_
        refine c_norm ?_
        refine k_seq ?_
        refine k_rg ?_
        refine s_run rfl rfl (r_fa0 rfl fo55_3) ?_
        refine s_run rfl rfl (r_lo H 3 rfl rfl rfl ag53) ?_
        refine s_run rfl rfl (r_mv (v := .int _ _) rfl) ?_
        refine s_run rfl rfl (r_quo rfl rfl (by omega) (wI (by omega))) ?_
        refine s_run rfl rfl (r_ix1 (i := i / 8) rfl rfl (by omega) (by omega) Try.underlying53 sz4) ?_
        refine s_sv (u := .bool _) H 0 rfl rfl rfl rfl rfl (by omega) (fun _ => rfl) sz4 ?_
        intro _ H'; simp only [List.set_cons_zero, List.set_cons_succ, List.take_succ_cons, List.take_zero, List.drop_succ_cons, List.drop_zero, List.cons_append, List.nil_append, List.append_nil, List.length_cons, List.length_nil, Nat.reduceAdd] at H'; clear H; have H := H'; clear H'
        refine k_nil ?_
        refine c_norm ?_
        refine k_seq ?_
        refine k_rg ?_
        refine s_run rfl rfl (r_la H 3 rfl rfl rfl ag55 sz55) ?_
        refine s_sw H 2 rfl rfl rfl rfl rfl rfl rfl sz55 ?_
        intro _ H'; simp only [List.set_cons_zero, List.set_cons_succ, List.take_succ_cons, List.take_zero, List.drop_succ_cons, List.drop_zero, List.cons_append, List.nil_append, List.append_nil, List.length_cons, List.length_nil, Nat.reduceAdd] at H'; clear H; have H := H'; clear H'
        refine s_run rfl rfl (r_as (v := .int _ _) rfl) ?_
        refine k_nil ?_
        refine c_norm ?_
        refine k_ret ?_
        refine fx2r rfl (rv_a H 2 rfl rfl rfl ag55 sz55) (rv_t (v := .int _ _) rfl) ?_
        have e1 : i / 8 * 8 + i % 8 = i := by omega
        rw [e1] at H
        refine ⟨⟨some ⟨b1, 0, none⟩, c1, s.A1, s.c1, s.A2, s.c2, some ⟨b2, 0, none⟩, c2, s.A4, s.c4, rf⟩, rfl, H.clear, ⟨?_, hr.last.later H.only (by simp), hr.wait.later H.only (by simp), ?_, hr.pend.later H.only (by simp), hf', hok.stepped.put _ _⟩⟩
        · exact H.sees 1 rfl hF (m := 1) (fun _ => rfl) (fun _ => by simp)
        · exact H.sees 0 rfl hF (m := 1) (fun _ => rfl) (fun _ => by simp)
  · have er : Nv.store d m a v = (d, 2) := by rw [Nv.store, if_neg hin]
    rw [er, refE]
    by_cases h1 : a < 0
    · refine k_in (N := 51) Try.func71 rfl rfl rfl ?_
      refine k_seq ?_
      refine k_rg ?_
      refine s_box H rfl rfl ?_
      intro p3 _ H'; clear H; have H := H'; clear H'
      refine s_al H rfl inf55 ?_
      intro p6 _ H'; clear H; have H := H'; clear H'
      refine s_run rfl rfl (r_as (v := .int _ _) rfl) ?_
      refine k_nil ?_
      refine c_norm ?_
      refine k_seq ?_
      refine k_seq ?_
      refine k_rg ?_
      refine s_run rfl rfl (r_mv (v := .int _ _) rfl) ?_
      refine s_run rfl rfl (r_lssT rfl rfl (by omega)) ?_
      refine s_run rfl rfl (r_mv (v := .bool _) rfl) ?_
      refine s_off rfl (g_off 11 (by kernel_rfl) rfl rfl) ?_
      refine s_off rfl (g_off 11 (by kernel_rfl) rfl rfl) ?_
      refine s_off rfl (g_off 11 (by kernel_rfl) rfl rfl) ?_
      refine s_off rfl (g_off 11 (by kernel_rfl) rfl rfl) ?_
      refine s_off rfl (g_off 11 (by kernel_rfl) rfl rfl) ?_
      refine s_off rfl (g_off 11 (by kernel_rfl) rfl rfl) ?_
      refine s_run rfl rfl (r_pkT (v := .bool _) rfl rfl) ?_
      refine k_nil ?_
      refine c_norm ?_
      refine k_t rfl ?_
      refine k_seq ?_
      refine k_rg ?_
      refine s_run rfl rfl (r_la H 1 rfl rfl rfl ag55 sz55) ?_
      refine s_sw H 0 rfl rfl rfl rfl rfl rfl rfl sz55 ?_
      intro _ H'; simp only [List.set_cons_zero, List.set_cons_succ, List.take_succ_cons, List.take_zero, List.drop_succ_cons, List.drop_zero, List.cons_append, List.nil_append, List.append_nil, List.length_cons, List.length_nil, Nat.reduceAdd] at H'; clear H; have H := H'; clear H'
      refine s_run rfl rfl (r_as (v := .int _ _) rfl) ?_
      refine k_nil ?_
      refine c_norm ?_
      refine k_ret ?_
      refine c_ret ?_
      refine fx2r rfl (rv_a H 0 rfl rfl rfl ag55 sz55) (rv_t (v := .int _ _) rfl) ?_
      exact ⟨s, rfl, H.clear, hr.later H.only (by simp)⟩
    · refine k_in (N := 51) Try.func71 rfl rfl rfl ?_
      refine k_seq ?_
      refine k_rg ?_
      refine s_box H rfl rfl ?_
      intro p3 _ H'; clear H; have H := H'; clear H'
      refine s_al H rfl inf55 ?_
      intro p6 _ H'; clear H; have H := H'; clear H'
      refine s_run rfl rfl (r_as (v := .int _ _) rfl) ?_
      refine k_nil ?_
      refine c_norm ?_
      refine k_seq ?_
      refine k_seq ?_
      refine k_rg ?_
      refine s_run rfl rfl (r_mv (v := .int _ _) rfl) ?_
      refine s_run rfl rfl (r_lssF rfl rfl (by omega)) ?_
      refine s_run rfl rfl (r_mv (v := .bool _) rfl) ?_
      refine s_run rfl (g_on 11 (by kernel_rfl) rfl) (r_mv (v := .int _ _) rfl) ?_
      refine s_run rfl (g_on 11 (by kernel_rfl) rfl) (r_fa0 rfl fo55_0) ?_
      refine s_run rfl (g_on 11 (by kernel_rfl) rfl) (r_lo H 1 rfl rfl rfl ag52) ?_
      refine s_run rfl (g_on 11 (by kernel_rfl) rfl) (r_len rfl Try.underlying52) ?_
      refine s_run rfl (g_on 11 (by kernel_rfl) rfl) (r_mul rfl rfl (wI (by omega))) ?_
      refine s_run rfl (g_on 11 (by kernel_rfl) rfl) (r_geqT rfl rfl (by omega)) ?_
      refine s_run rfl rfl (r_pkF (v := .bool _) rfl rfl) ?_
      refine k_nil ?_
      refine c_norm ?_
      refine k_t rfl ?_
      refine k_seq ?_
      refine k_rg ?_
      refine s_run rfl rfl (r_la H 1 rfl rfl rfl ag55 sz55) ?_
      refine s_sw H 0 rfl rfl rfl rfl rfl rfl rfl sz55 ?_
      intro _ H'; simp only [List.set_cons_zero, List.set_cons_succ, List.take_succ_cons, List.take_zero, List.drop_succ_cons, List.drop_zero, List.cons_append, List.nil_append, List.append_nil, List.length_cons, List.length_nil, Nat.reduceAdd] at H'; clear H; have H := H'; clear H'
      refine s_run rfl rfl (r_as (v := .int _ _) rfl) ?_
      refine k_nil ?_
      refine c_norm ?_
      refine k_ret ?_
      refine c_ret ?_
      refine fx2r rfl (rv_a H 0 rfl rfl rfl ag55 sz55) (rv_t (v := .int _ _) rfl) ?_
      exact ⟨s, rfl, H.clear, hr.later H.only (by simp)⟩
end Go.Proofs.Ytmekhdclnhhhbaa
