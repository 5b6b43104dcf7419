/- One call at a device and at the document's device of no words; NvmStops. -/
import Derived.Test.YtmekhdclnhhhbaaLw6
namespace Go.Proofs.Ytmekhdclnhhhbaa
open Go.RowKit
set_option linter.unusedSimpArgs false
set_option linter.unusedVariables false
theorem rNew (F : List Nat) (w : World) (hF : ∀ i ∈ F, i < w.heap.size) :
    Calls Try.prog 34 [.int .i64 0].toArray w fun e w' => ∃ s', e = .returned (.agg (refCells s' (Nv.load [] 0) 0).toArray) ∧ Only [] w w' ∧ RefOk w' F s' (Nv.load [] 0) 0 := by
  have H := Heap.nil w
  refine k_in (N := 7) Try.func34 rfl rfl rfl ?_
  refine k_seq ?_
  refine k_rg ?_
  refine s_al H rfl inf55 ?_
  intro p2 _ H'; clear H; have H := H'; clear H'
  refine k_nil ?_
  refine c_norm ?_
  refine k_seq ?_
  refine k_rg ?_
  refine s_run rfl rfl (r_mv (v := .int _ _) rfl) ?_
  refine s_run rfl rfl (r_max (c := 0) rfl rfl rfl) ?_
  refine s_mk (Value.int .u64) 0 (m := 0) H rfl rfl rfl (by omega) (by omega) (by omega) Try.underlying25 inf22 rfl ?_
  intro b _ H'; clear H; have H := H'; clear H'
  refine s_call rfl (rLoad _ 0 _ [] _ _ (fun h => absurd rfl h) rfl (by omega) (H.fl hF)) (ca44 rfl) ?_
  rintro e W1 ⟨s', rfl, H', hr⟩
  refine ⟨_, rfl, ?_⟩
  have H := H.same H'.only; clear H'; rw [refE]; have HB := H; clear H; have H := Heap.start HB.ents
  refine s_sw H 1 rfl rfl rfl rfl rfl rfl rfl sz55 ?_
  intro _ H'; simp only [List.set_cons_zero, List.set_cons_succ, List.take_succ_cons, List.take_zero, List.drop_succ_cons, List.drop_zero, List.cons_append, List.nil_append, List.append_nil, List.length_cons, List.length_nil, Nat.reduceAdd] at H'; clear H; have H := H'; clear H'
  refine k_nil ?_
  refine c_norm ?_
  refine k_ret ?_
  refine fx1r rfl (rv_a H 1 rfl rfl rfl ag55 sz55) ?_
  exact ⟨s', rfl, (HB.whole H).only, (hr.later H.only (fun _ h => List.mem_append_right _ h)).news (fun i hi => .inl (List.mem_append_left _ hi))⟩
def DoPost2 (g : Geo) (d : Nv.D) (d' : Nv.D) (w : World) (e : Ending) (w' : World) : Prop :=
  ∃ V b, e = .returned (.tuple #[ptr g.p, .agg V, .bool b]) ∧ Heap w (ids (devL g d)) (devL g d') w'
section
variable (g : Geo) (d d2 : Nv.D) (s : RefS) (m m2 : Nat) (k a n v : Int) (A : Option Addr) (nc cc : Nat) (w : World)

theorem lDs0 (hk : k = 0) (hE : Ents (devL g d) w) (hr : RefOk w (ids (devL g d)) s d2 m2) (ho : Nv.Ok d m) (hg : GOk g m) (hm : m ≤ 60000) (hm2 : m2 ≤ 60000) :
    Calls Try.prog 33 [ptr g.p, .agg (refCells s d2 m2).toArray, opV k a n v A nc cc].toArray w (DoPost2 g d (Nv.store d m a v).1 w) := by
  subst hk
  have hr := RefOk.news (G := ids (devL g d) ++ []) hr (fun i hi => Or.inl (by simpa using hi))
  have hF : ∀ i ∈ ids (devL g d) ++ [], i < w.heap.size := fun i hi => (Heap.start hE).idlt i (by simpa using hi)
  have H := grp_start hE
  rw [refE]
  unfold opV
  by_cases hcode : (Nv.store d m a v).2 = (Nv.store d2 m2 a v).2
  · refine k_in (N := 113) Try.func33 rfl rfl rfl ?_
    refine k_seq ?_
    refine k_rg ?_
    refine s_box H rfl rfl ?_
    intro p4 _ H'; clear H; have H := H'; clear H'
    refine s_box H rfl rfl ?_
    intro p5 _ H'; clear H; have H := H'; clear H'
    refine s_run rfl rfl (r_as (v := .pointer _) rfl) ?_
    refine s_al H rfl inf55 ?_
    intro p7 _ H'; clear H; have H := H'; clear H'
    refine s_run rfl rfl (r_as (v := .bool _) rfl) ?_
    refine k_nil ?_
    refine c_norm ?_
    refine k_seq ?_
    refine k_rg ?_
    refine s_run rfl rfl (r_as (v := .int _ _) rfl) ?_
    refine s_run rfl rfl (r_as (v := .int _ _) rfl) ?_
    refine k_nil ?_
    refine c_norm ?_
    refine k_seq ?_
    refine k_seq ?_
    refine k_rg ?_
    refine s_run rfl rfl (r_fa0 rfl fo51_0) ?_
    refine s_run rfl rfl (r_lo H 1 rfl rfl rfl ag3) ?_
    refine k_nil ?_
    refine c_norm ?_
    refine k_b ?_
    refine k_seq ?_
    refine k_rg ?_
    refine s_run rfl rfl (r_eqlT rfl rfl (by omega)) ?_
    refine s_run rfl rfl (r_as (v := .bool _) rfl) ?_
    refine k_nil ?_
    refine c_norm ?_
    refine k_t rfl ?_
    refine k_seq ?_
    refine k_rg ?_
    refine s_run rfl rfl (r_mv (v := .pointer _) rfl) ?_
    refine s_run rfl rfl (r_fa0 rfl fo51_1) ?_
    refine s_run rfl rfl (r_lo H 1 rfl rfl rfl ag3) ?_
    refine s_run rfl rfl (r_fa0 rfl fo51_3) ?_
    refine s_run rfl rfl (r_lo H 1 rfl rfl rfl ag22) ?_
    refine s_call rfl (nStore g d m a v _ (H.grp_ents 3 rfl) ho (by omega)) (ca30 rfl) ?_
    rintro e W1 ⟨rfl, H'⟩
    refine ⟨_, rfl, ?_⟩
    have H1 := H.grp_at 3 rfl H'; clear H H'; have H := H1; clear H1; simp only [List.set_cons_succ, List.set_cons_zero] at H
    refine s_run rfl rfl (r_as (v := .int _ _) rfl) ?_
    refine k_nil ?_
    refine c_norm ?_
    refine k_rg ?_
    refine s_run rfl rfl (r_la H 2 rfl rfl rfl ag55 sz55) ?_
    refine s_run rfl rfl (r_fa0 rfl fo51_1) ?_
    refine s_run rfl rfl (r_lo H 1 rfl rfl rfl ag3) ?_
    refine s_run rfl rfl (r_fa0 rfl fo51_3) ?_
    refine s_run rfl rfl (r_lo H 1 rfl rfl rfl ag22) ?_
    refine s_call rfl (rStore s d2 m2 a v _ _ (hr.at H) (H.fl hF) (by omega)) (ca71 rfl) ?_
    rintro e W1 ⟨s2, rfl, H', hr'⟩
    refine ⟨_, rfl, ?_⟩
    have H := H.same H'.only; clear H'; simp only [refE]; have HB := H; clear H; have H := Heap.start HB.ents
    refine s_run rfl rfl (r_mv (v := .tuple _) rfl) ?_
    refine s_run rfl rfl (r_ext (v := .agg _) rfl rfl) ?_
    refine s_run rfl rfl (r_ext (v := .int _ _) rfl rfl) ?_
    refine s_sw H 2 rfl rfl rfl rfl rfl rfl rfl sz55 ?_
    intro _ H'; simp only [List.set_cons_zero, List.set_cons_succ, List.take_succ_cons, List.take_zero, List.drop_succ_cons, List.drop_zero, List.cons_append, List.nil_append, List.append_nil, List.length_cons, List.length_nil, Nat.reduceAdd] at H'; clear H; have H := H'; clear H'
    refine s_run rfl rfl (r_as (v := .int _ _) rfl) ?_
    refine k_nil ?_
    refine b_norm ?_
    refine c_norm ?_
    refine k_seq ?_
    refine k_trF mixed ?_; have H' := H.drew; clear H; have H := H'; clear H'
    refine t_take 0 rfl (by kernel_rfl) (by kernel_rfl) (by kernel_rfl) rfl (fun _ _ _ _ h => h) rfl (fun _ hS => r_mv (v := .pointer _) rfl) trivial ?_
    refine t_take 2 rfl (by kernel_rfl) (by kernel_rfl) (by kernel_rfl) rfl (fun _ _ _ _ h => h) rfl (fun _ hS => r_mv (v := .pointer _) rfl) trivial ?_
    refine t_take 3 rfl (by kernel_rfl) (by kernel_rfl) (by kernel_rfl) rfl (fun _ _ _ _ h => h) rfl (fun _ hS => r_ptnnilT rfl rfl Try.underlying26) trivial ?_
    refine t_take 4 rfl (by kernel_rfl) (by kernel_rfl) (by kernel_rfl) rfl (fun _ _ _ _ h => h) rfl (fun _ hS => r_mv (v := .bool _) rfl) trivial ?_
    refine t_take 5 rfl (by kernel_rfl) (by kernel_rfl) (by kernel_rfl) rfl (fun _ _ _ _ h => h) (g_on 108 (by kernel_rfl) rfl) (fun _ hS => r_mv (v := .int _ _) rfl) trivial ?_
    refine t_take 6 rfl (by kernel_rfl) (by kernel_rfl) (by kernel_rfl) rfl (fun _ _ _ _ h => h) (g_on 108 (by kernel_rfl) rfl) (fun _ hS => r_mv (v := .int _ _) rfl) trivial ?_
    refine t_take 7 rfl (by kernel_rfl) (by kernel_rfl) (by kernel_rfl) rfl (fun _ _ _ _ h => h) (g_on 108 (by kernel_rfl) rfl) (fun _ hS => r_eqlT rfl rfl (by omega)) trivial ?_
    refine t_take 8 rfl (by kernel_rfl) (by kernel_rfl) (by kernel_rfl) rfl (fun _ _ _ _ h => h) rfl (fun _ hS => r_pkT (v := .bool _) rfl rfl) trivial ?_
    refine t_take 9 rfl (by kernel_rfl) (by kernel_rfl) (by kernel_rfl) rfl (fun _ _ _ _ h => h) rfl (fun _ hS => r_as (v := .pointer _) rfl) trivial ?_
    refine t_up1 1 (by kernel_rfl) ?_
    refine up_mk rfl ?_
    refine s_run rfl rfl (r_la H 2 rfl rfl rfl ag55 sz55) ?_
    refine k_nil ?_
    refine t_on trivial ?_
    refine t_up1 10 (by kernel_rfl) ?_
    refine up_mk rfl ?_
    refine s_sw H 0 rfl rfl rfl rfl rfl rfl rfl sz55 ?_
    intro _ H'; simp only [List.set_cons_zero, List.set_cons_succ, List.take_succ_cons, List.take_zero, List.drop_succ_cons, List.drop_zero, List.cons_append, List.nil_append, List.append_nil, List.length_cons, List.length_nil, Nat.reduceAdd] at H'; clear H; have H := H'; clear H'
    refine k_nil ?_
    refine t_on trivial ?_
    refine t_take 11 rfl (by kernel_rfl) (by kernel_rfl) (by kernel_rfl) rfl (fun _ _ _ _ h => h) rfl (fun _ hS => r_as (v := .bool _) rfl) trivial ?_
    refine t_done (by kernel_rfl) ?_
    refine c_norm ?_
    refine k_ret ?_
    refine fx3r rfl (rv_t (v := .pointer _) rfl) (rv_a H 0 rfl rfl rfl ag55 sz55) (rv_t (v := .bool _) rfl) ?_
    exact ⟨_, _, rfl, grp_open (HB.whole H).drop.drop.drop⟩
  · refine k_in (N := 113) Try.func33 rfl rfl rfl ?_
    refine k_seq ?_
    refine k_rg ?_
    refine s_box H rfl rfl ?_
    intro p4 _ H'; clear H; have H := H'; clear H'
    refine s_box H rfl rfl ?_
    intro p5 _ H'; clear H; have H := H'; clear H'
    refine s_run rfl rfl (r_as (v := .pointer _) rfl) ?_
    refine s_al H rfl inf55 ?_
    intro p7 _ H'; clear H; have H := H'; clear H'
    refine s_run rfl rfl (r_as (v := .bool _) rfl) ?_
    refine k_nil ?_
    refine c_norm ?_
    refine k_seq ?_
    refine k_rg ?_
    refine s_run rfl rfl (r_as (v := .int _ _) rfl) ?_
    refine s_run rfl rfl (r_as (v := .int _ _) rfl) ?_
    refine k_nil ?_
    refine c_norm ?_
    refine k_seq ?_
    refine k_seq ?_
    refine k_rg ?_
    refine s_run rfl rfl (r_fa0 rfl fo51_0) ?_
    refine s_run rfl rfl (r_lo H 1 rfl rfl rfl ag3) ?_
    refine k_nil ?_
    refine c_norm ?_
    refine k_b ?_
    refine k_seq ?_
    refine k_rg ?_
    refine s_run rfl rfl (r_eqlT rfl rfl (by omega)) ?_
    refine s_run rfl rfl (r_as (v := .bool _) rfl) ?_
    refine k_nil ?_
    refine c_norm ?_
    refine k_t rfl ?_
    refine k_seq ?_
    refine k_rg ?_
    refine s_run rfl rfl (r_mv (v := .pointer _) rfl) ?_
    refine s_run rfl rfl (r_fa0 rfl fo51_1) ?_
    refine s_run rfl rfl (r_lo H 1 rfl rfl rfl ag3) ?_
    refine s_run rfl rfl (r_fa0 rfl fo51_3) ?_
    refine s_run rfl rfl (r_lo H 1 rfl rfl rfl ag22) ?_
    refine s_call rfl (nStore g d m a v _ (H.grp_ents 3 rfl) ho (by omega)) (ca30 rfl) ?_
    rintro e W1 ⟨rfl, H'⟩
    refine ⟨_, rfl, ?_⟩
    have H1 := H.grp_at 3 rfl H'; clear H H'; have H := H1; clear H1; simp only [List.set_cons_succ, List.set_cons_zero] at H
    refine s_run rfl rfl (r_as (v := .int _ _) rfl) ?_
    refine k_nil ?_
    refine c_norm ?_
    refine k_rg ?_
    refine s_run rfl rfl (r_la H 2 rfl rfl rfl ag55 sz55) ?_
    refine s_run rfl rfl (r_fa0 rfl fo51_1) ?_
    refine s_run rfl rfl (r_lo H 1 rfl rfl rfl ag3) ?_
    refine s_run rfl rfl (r_fa0 rfl fo51_3) ?_
    refine s_run rfl rfl (r_lo H 1 rfl rfl rfl ag22) ?_
    refine s_call rfl (rStore s d2 m2 a v _ _ (hr.at H) (H.fl hF) (by omega)) (ca71 rfl) ?_
    rintro e W1 ⟨s2, rfl, H', hr'⟩
    refine ⟨_, rfl, ?_⟩
    have H := H.same H'.only; clear H'; simp only [refE]; have HB := H; clear H; have H := Heap.start HB.ents
    refine s_run rfl rfl (r_mv (v := .tuple _) rfl) ?_
    refine s_run rfl rfl (r_ext (v := .agg _) rfl rfl) ?_
    refine s_run rfl rfl (r_ext (v := .int _ _) rfl rfl) ?_
    refine s_sw H 2 rfl rfl rfl rfl rfl rfl rfl sz55 ?_
    intro _ H'; simp only [List.set_cons_zero, List.set_cons_succ, List.take_succ_cons, List.take_zero, List.drop_succ_cons, List.drop_zero, List.cons_append, List.nil_append, List.append_nil, List.length_cons, List.length_nil, Nat.reduceAdd] at H'; clear H; have H := H'; clear H'
    refine s_run rfl rfl (r_as (v := .int _ _) rfl) ?_
    refine k_nil ?_
    refine b_norm ?_
    refine c_norm ?_
    refine k_seq ?_
    refine k_trF mixed ?_; have H' := H.drew; clear H; have H := H'; clear H'
    refine t_take 0 rfl (by kernel_rfl) (by kernel_rfl) (by kernel_rfl) rfl (fun _ _ _ _ h => h) rfl (fun _ hS => r_mv (v := .pointer _) rfl) trivial ?_
    refine t_take 2 rfl (by kernel_rfl) (by kernel_rfl) (by kernel_rfl) rfl (fun _ _ _ _ h => h) rfl (fun _ hS => r_mv (v := .pointer _) rfl) trivial ?_
    refine t_take 3 rfl (by kernel_rfl) (by kernel_rfl) (by kernel_rfl) rfl (fun _ _ _ _ h => h) rfl (fun _ hS => r_ptnnilT rfl rfl Try.underlying26) trivial ?_
    refine t_take 4 rfl (by kernel_rfl) (by kernel_rfl) (by kernel_rfl) rfl (fun _ _ _ _ h => h) rfl (fun _ hS => r_mv (v := .bool _) rfl) trivial ?_
    refine t_take 5 rfl (by kernel_rfl) (by kernel_rfl) (by kernel_rfl) rfl (fun _ _ _ _ h => h) (g_on 108 (by kernel_rfl) rfl) (fun _ hS => r_mv (v := .int _ _) rfl) trivial ?_
    refine t_take 6 rfl (by kernel_rfl) (by kernel_rfl) (by kernel_rfl) rfl (fun _ _ _ _ h => h) (g_on 108 (by kernel_rfl) rfl) (fun _ hS => r_mv (v := .int _ _) rfl) trivial ?_
    refine t_take 7 rfl (by kernel_rfl) (by kernel_rfl) (by kernel_rfl) rfl (fun _ _ _ _ h => h) (g_on 108 (by kernel_rfl) rfl) (fun _ hS => r_eqlF rfl rfl (by omega)) trivial ?_
    refine t_take 8 rfl (by kernel_rfl) (by kernel_rfl) (by kernel_rfl) rfl (fun _ _ _ _ h => h) rfl (fun _ hS => r_pkT (v := .bool _) rfl rfl) trivial ?_
    refine t_take 9 rfl (by kernel_rfl) (by kernel_rfl) (by kernel_rfl) rfl (fun _ _ _ _ h => h) rfl (fun _ hS => r_as (v := .pointer _) rfl) trivial ?_
    refine t_up1 1 (by kernel_rfl) ?_
    refine up_mk rfl ?_
    refine s_run rfl rfl (r_la H 2 rfl rfl rfl ag55 sz55) ?_
    refine k_nil ?_
    refine t_on trivial ?_
    refine t_up1 10 (by kernel_rfl) ?_
    refine up_mk rfl ?_
    refine s_sw H 0 rfl rfl rfl rfl rfl rfl rfl sz55 ?_
    intro _ H'; simp only [List.set_cons_zero, List.set_cons_succ, List.take_succ_cons, List.take_zero, List.drop_succ_cons, List.drop_zero, List.cons_append, List.nil_append, List.append_nil, List.length_cons, List.length_nil, Nat.reduceAdd] at H'; clear H; have H := H'; clear H'
    refine k_nil ?_
    refine t_on trivial ?_
    refine t_take 11 rfl (by kernel_rfl) (by kernel_rfl) (by kernel_rfl) rfl (fun _ _ _ _ h => h) rfl (fun _ hS => r_as (v := .bool _) rfl) trivial ?_
    refine t_done (by kernel_rfl) ?_
    refine c_norm ?_
    refine k_ret ?_
    refine fx3r rfl (rv_t (v := .pointer _) rfl) (rv_a H 0 rfl rfl rfl ag55 sz55) (rv_t (v := .bool _) rfl) ?_
    exact ⟨_, _, rfl, grp_open (HB.whole H).drop.drop.drop⟩
theorem lDs1 (hk : k = 1) (hE : Ents (devL g d) w) (hr : RefOk w (ids (devL g d)) s d2 m2) (ho : Nv.Ok d m) (hg : GOk g m) (hm : m ≤ 60000) (hm2 : m2 ≤ 60000) :
    Calls Try.prog 33 [ptr g.p, .agg (refCells s d2 m2).toArray, opV k a n v A nc cc].toArray w (DoPost2 g d (Nv.flush d m a).1 w) := by
  subst hk
  have hr := RefOk.news (G := ids (devL g d) ++ []) hr (fun i hi => Or.inl (by simpa using hi))
  have hF : ∀ i ∈ ids (devL g d) ++ [], i < w.heap.size := fun i hi => (Heap.start hE).idlt i (by simpa using hi)
  have H := grp_start hE
  rw [refE]
  unfold opV
  by_cases hcode : (Nv.flush d m a).2 = (Nv.flush d2 m2 a).2
  · refine k_in (N := 113) Try.func33 rfl rfl rfl ?_
    refine k_seq ?_
    refine k_rg ?_
    refine s_box H rfl rfl ?_
    intro p4 _ H'; clear H; have H := H'; clear H'
    refine s_box H rfl rfl ?_
    intro p5 _ H'; clear H; have H := H'; clear H'
    refine s_run rfl rfl (r_as (v := .pointer _) rfl) ?_
    refine s_al H rfl inf55 ?_
    intro p7 _ H'; clear H; have H := H'; clear H'
    refine s_run rfl rfl (r_as (v := .bool _) rfl) ?_
    refine k_nil ?_
    refine c_norm ?_
    refine k_seq ?_
    refine k_rg ?_
    refine s_run rfl rfl (r_as (v := .int _ _) rfl) ?_
    refine s_run rfl rfl (r_as (v := .int _ _) rfl) ?_
    refine k_nil ?_
    refine c_norm ?_
    refine k_seq ?_
    refine k_seq ?_
    refine k_rg ?_
    refine s_run rfl rfl (r_fa0 rfl fo51_0) ?_
    refine s_run rfl rfl (r_lo H 1 rfl rfl rfl ag3) ?_
    refine k_nil ?_
    refine c_norm ?_
    refine k_b ?_
    refine k_seq ?_
    refine k_rg ?_
    refine s_run rfl rfl (r_eqlF rfl rfl (by omega)) ?_
    refine s_run rfl rfl (r_as (v := .bool _) rfl) ?_
    refine k_nil ?_
    refine c_norm ?_
    refine k_f rfl ?_
    refine k_seq ?_
    refine k_rg ?_
    refine s_run rfl rfl (r_eqlT rfl rfl (by omega)) ?_
    refine s_run rfl rfl (r_as (v := .bool _) rfl) ?_
    refine k_nil ?_
    refine c_norm ?_
    refine k_t rfl ?_
    refine k_seq ?_
    refine k_rg ?_
    refine s_run rfl rfl (r_mv (v := .pointer _) rfl) ?_
    refine s_run rfl rfl (r_fa0 rfl fo51_1) ?_
    refine s_run rfl rfl (r_lo H 1 rfl rfl rfl ag3) ?_
    refine s_call rfl (nFlush g d m a _ (H.grp_ents 3 rfl) ho hg (by omega)) (ca49 rfl) ?_
    rintro e W1 ⟨rfl, H'⟩
    refine ⟨_, rfl, ?_⟩
    have H1 := H.grp_at 3 rfl H'; clear H H'; have H := H1; clear H1; simp only [List.set_cons_succ, List.set_cons_zero] at H
    refine s_run rfl rfl (r_as (v := .int _ _) rfl) ?_
    refine k_nil ?_
    refine c_norm ?_
    refine k_rg ?_
    refine s_run rfl rfl (r_la H 2 rfl rfl rfl ag55 sz55) ?_
    refine s_run rfl rfl (r_fa0 rfl fo51_1) ?_
    refine s_run rfl rfl (r_lo H 1 rfl rfl rfl ag3) ?_
    refine s_call rfl (rFlush s d2 m2 a _ _ (hr.at H) (H.fl hF) (by omega)) (ca72 rfl) ?_
    rintro e W1 ⟨s2, rfl, H', hr'⟩
    refine ⟨_, rfl, ?_⟩
    have H := H.same H'.only; clear H'; simp only [refE]; have HB := H; clear H; have H := Heap.start HB.ents
    refine s_run rfl rfl (r_mv (v := .tuple _) rfl) ?_
    refine s_run rfl rfl (r_ext (v := .agg _) rfl rfl) ?_
    refine s_run rfl rfl (r_ext (v := .int _ _) rfl rfl) ?_
    refine s_sw H 2 rfl rfl rfl rfl rfl rfl rfl sz55 ?_
    intro _ H'; simp only [List.set_cons_zero, List.set_cons_succ, List.take_succ_cons, List.take_zero, List.drop_succ_cons, List.drop_zero, List.cons_append, List.nil_append, List.append_nil, List.length_cons, List.length_nil, Nat.reduceAdd] at H'; clear H; have H := H'; clear H'
    refine s_run rfl rfl (r_as (v := .int _ _) rfl) ?_
    refine k_nil ?_
    refine b_norm ?_
    refine c_norm ?_
    refine k_seq ?_
    refine k_trF mixed ?_; have H' := H.drew; clear H; have H := H'; clear H'
    refine t_take 0 rfl (by kernel_rfl) (by kernel_rfl) (by kernel_rfl) rfl (fun _ _ _ _ h => h) rfl (fun _ hS => r_mv (v := .pointer _) rfl) trivial ?_
    refine t_take 2 rfl (by kernel_rfl) (by kernel_rfl) (by kernel_rfl) rfl (fun _ _ _ _ h => h) rfl (fun _ hS => r_mv (v := .pointer _) rfl) trivial ?_
    refine t_take 3 rfl (by kernel_rfl) (by kernel_rfl) (by kernel_rfl) rfl (fun _ _ _ _ h => h) rfl (fun _ hS => r_ptnnilT rfl rfl Try.underlying26) trivial ?_
    refine t_take 4 rfl (by kernel_rfl) (by kernel_rfl) (by kernel_rfl) rfl (fun _ _ _ _ h => h) rfl (fun _ hS => r_mv (v := .bool _) rfl) trivial ?_
    refine t_take 5 rfl (by kernel_rfl) (by kernel_rfl) (by kernel_rfl) rfl (fun _ _ _ _ h => h) (g_on 108 (by kernel_rfl) rfl) (fun _ hS => r_mv (v := .int _ _) rfl) trivial ?_
    refine t_take 6 rfl (by kernel_rfl) (by kernel_rfl) (by kernel_rfl) rfl (fun _ _ _ _ h => h) (g_on 108 (by kernel_rfl) rfl) (fun _ hS => r_mv (v := .int _ _) rfl) trivial ?_
    refine t_take 7 rfl (by kernel_rfl) (by kernel_rfl) (by kernel_rfl) rfl (fun _ _ _ _ h => h) (g_on 108 (by kernel_rfl) rfl) (fun _ hS => r_eqlT rfl rfl (by omega)) trivial ?_
    refine t_take 8 rfl (by kernel_rfl) (by kernel_rfl) (by kernel_rfl) rfl (fun _ _ _ _ h => h) rfl (fun _ hS => r_pkT (v := .bool _) rfl rfl) trivial ?_
    refine t_take 9 rfl (by kernel_rfl) (by kernel_rfl) (by kernel_rfl) rfl (fun _ _ _ _ h => h) rfl (fun _ hS => r_as (v := .pointer _) rfl) trivial ?_
    refine t_up1 1 (by kernel_rfl) ?_
    refine up_mk rfl ?_
    refine s_run rfl rfl (r_la H 2 rfl rfl rfl ag55 sz55) ?_
    refine k_nil ?_
    refine t_on trivial ?_
    refine t_up1 10 (by kernel_rfl) ?_
    refine up_mk rfl ?_
    refine s_sw H 0 rfl rfl rfl rfl rfl rfl rfl sz55 ?_
    intro _ H'; simp only [List.set_cons_zero, List.set_cons_succ, List.take_succ_cons, List.take_zero, List.drop_succ_cons, List.drop_zero, List.cons_append, List.nil_append, List.append_nil, List.length_cons, List.length_nil, Nat.reduceAdd] at H'; clear H; have H := H'; clear H'
    refine k_nil ?_
    refine t_on trivial ?_
    refine t_take 11 rfl (by kernel_rfl) (by kernel_rfl) (by kernel_rfl) rfl (fun _ _ _ _ h => h) rfl (fun _ hS => r_as (v := .bool _) rfl) trivial ?_
    refine t_done (by kernel_rfl) ?_
    refine c_norm ?_
    refine k_ret ?_
    refine fx3r rfl (rv_t (v := .pointer _) rfl) (rv_a H 0 rfl rfl rfl ag55 sz55) (rv_t (v := .bool _) rfl) ?_
    exact ⟨_, _, rfl, grp_open (HB.whole H).drop.drop.drop⟩
  · refine k_in (N := 113) Try.func33 rfl rfl rfl ?_
    refine k_seq ?_
    refine k_rg ?_
    refine s_box H rfl rfl ?_
    intro p4 _ H'; clear H; have H := H'; clear H'
    refine s_box H rfl rfl ?_
    intro p5 _ H'; clear H; have H := H'; clear H'
    refine s_run rfl rfl (r_as (v := .pointer _) rfl) ?_
    refine s_al H rfl inf55 ?_
    intro p7 _ H'; clear H; have H := H'; clear H'
    refine s_run rfl rfl (r_as (v := .bool _) rfl) ?_
    refine k_nil ?_
    refine c_norm ?_
    refine k_seq ?_
    refine k_rg ?_
    refine s_run rfl rfl (r_as (v := .int _ _) rfl) ?_
    refine s_run rfl rfl (r_as (v := .int _ _) rfl) ?_
    refine k_nil ?_
    refine c_norm ?_
    refine k_seq ?_
    refine k_seq ?_
    refine k_rg ?_
    refine s_run rfl rfl (r_fa0 rfl fo51_0) ?_
    refine s_run rfl rfl (r_lo H 1 rfl rfl rfl ag3) ?_
    refine k_nil ?_
    refine c_norm ?_
    refine k_b ?_
    refine k_seq ?_
    refine k_rg ?_
    refine s_run rfl rfl (r_eqlF rfl rfl (by omega)) ?_
    refine s_run rfl rfl (r_as (v := .bool _) rfl) ?_
    refine k_nil ?_
    refine c_norm ?_
    refine k_f rfl ?_
    refine k_seq ?_
    refine k_rg ?_
    refine s_run rfl rfl (r_eqlT rfl rfl (by omega)) ?_
    refine s_run rfl rfl (r_as (v := .bool _) rfl) ?_
    refine k_nil ?_
    refine c_norm ?_
    refine k_t rfl ?_
    refine k_seq ?_
    refine k_rg ?_
    refine s_run rfl rfl (r_mv (v := .pointer _) rfl) ?_
    refine s_run rfl rfl (r_fa0 rfl fo51_1) ?_
    refine s_run rfl rfl (r_lo H 1 rfl rfl rfl ag3) ?_
    refine s_call rfl (nFlush g d m a _ (H.grp_ents 3 rfl) ho hg (by omega)) (ca49 rfl) ?_
    rintro e W1 ⟨rfl, H'⟩
    refine ⟨_, rfl, ?_⟩
    have H1 := H.grp_at 3 rfl H'; clear H H'; have H := H1; clear H1; simp only [List.set_cons_succ, List.set_cons_zero] at H
    refine s_run rfl rfl (r_as (v := .int _ _) rfl) ?_
    refine k_nil ?_
    refine c_norm ?_
    refine k_rg ?_
    refine s_run rfl rfl (r_la H 2 rfl rfl rfl ag55 sz55) ?_
    refine s_run rfl rfl (r_fa0 rfl fo51_1) ?_
    refine s_run rfl rfl (r_lo H 1 rfl rfl rfl ag3) ?_
    refine s_call rfl (rFlush s d2 m2 a _ _ (hr.at H) (H.fl hF) (by omega)) (ca72 rfl) ?_
    rintro e W1 ⟨s2, rfl, H', hr'⟩
    refine ⟨_, rfl, ?_⟩
    have H := H.same H'.only; clear H'; simp only [refE]; have HB := H; clear H; have H := Heap.start HB.ents
    refine s_run rfl rfl (r_mv (v := .tuple _) rfl) ?_
    refine s_run rfl rfl (r_ext (v := .agg _) rfl rfl) ?_
    refine s_run rfl rfl (r_ext (v := .int _ _) rfl rfl) ?_
    refine s_sw H 2 rfl rfl rfl rfl rfl rfl rfl sz55 ?_
    intro _ H'; simp only [List.set_cons_zero, List.set_cons_succ, List.take_succ_cons, List.take_zero, List.drop_succ_cons, List.drop_zero, List.cons_append, List.nil_append, List.append_nil, List.length_cons, List.length_nil, Nat.reduceAdd] at H'; clear H; have H := H'; clear H'
    refine s_run rfl rfl (r_as (v := .int _ _) rfl) ?_
    refine k_nil ?_
    refine b_norm ?_
    refine c_norm ?_
    refine k_seq ?_
    refine k_trF mixed ?_; have H' := H.drew; clear H; have H := H'; clear H'
    refine t_take 0 rfl (by kernel_rfl) (by kernel_rfl) (by kernel_rfl) rfl (fun _ _ _ _ h => h) rfl (fun _ hS => r_mv (v := .pointer _) rfl) trivial ?_
    refine t_take 2 rfl (by kernel_rfl) (by kernel_rfl) (by kernel_rfl) rfl (fun _ _ _ _ h => h) rfl (fun _ hS => r_mv (v := .pointer _) rfl) trivial ?_
    refine t_take 3 rfl (by kernel_rfl) (by kernel_rfl) (by kernel_rfl) rfl (fun _ _ _ _ h => h) rfl (fun _ hS => r_ptnnilT rfl rfl Try.underlying26) trivial ?_
    refine t_take 4 rfl (by kernel_rfl) (by kernel_rfl) (by kernel_rfl) rfl (fun _ _ _ _ h => h) rfl (fun _ hS => r_mv (v := .bool _) rfl) trivial ?_
    refine t_take 5 rfl (by kernel_rfl) (by kernel_rfl) (by kernel_rfl) rfl (fun _ _ _ _ h => h) (g_on 108 (by kernel_rfl) rfl) (fun _ hS => r_mv (v := .int _ _) rfl) trivial ?_
    refine t_take 6 rfl (by kernel_rfl) (by kernel_rfl) (by kernel_rfl) rfl (fun _ _ _ _ h => h) (g_on 108 (by kernel_rfl) rfl) (fun _ hS => r_mv (v := .int _ _) rfl) trivial ?_
    refine t_take 7 rfl (by kernel_rfl) (by kernel_rfl) (by kernel_rfl) rfl (fun _ _ _ _ h => h) (g_on 108 (by kernel_rfl) rfl) (fun _ hS => r_eqlF rfl rfl (by omega)) trivial ?_
    refine t_take 8 rfl (by kernel_rfl) (by kernel_rfl) (by kernel_rfl) rfl (fun _ _ _ _ h => h) rfl (fun _ hS => r_pkT (v := .bool _) rfl rfl) trivial ?_
    refine t_take 9 rfl (by kernel_rfl) (by kernel_rfl) (by kernel_rfl) rfl (fun _ _ _ _ h => h) rfl (fun _ hS => r_as (v := .pointer _) rfl) trivial ?_
    refine t_up1 1 (by kernel_rfl) ?_
    refine up_mk rfl ?_
    refine s_run rfl rfl (r_la H 2 rfl rfl rfl ag55 sz55) ?_
    refine k_nil ?_
    refine t_on trivial ?_
    refine t_up1 10 (by kernel_rfl) ?_
    refine up_mk rfl ?_
    refine s_sw H 0 rfl rfl rfl rfl rfl rfl rfl sz55 ?_
    intro _ H'; simp only [List.set_cons_zero, List.set_cons_succ, List.take_succ_cons, List.take_zero, List.drop_succ_cons, List.drop_zero, List.cons_append, List.nil_append, List.append_nil, List.length_cons, List.length_nil, Nat.reduceAdd] at H'; clear H; have H := H'; clear H'
    refine k_nil ?_
    refine t_on trivial ?_
    refine t_take 11 rfl (by kernel_rfl) (by kernel_rfl) (by kernel_rfl) rfl (fun _ _ _ _ h => h) rfl (fun _ hS => r_as (v := .bool _) rfl) trivial ?_
    refine t_done (by kernel_rfl) ?_
    refine c_norm ?_
    refine k_ret ?_
    refine fx3r rfl (rv_t (v := .pointer _) rfl) (rv_a H 0 rfl rfl rfl ag55 sz55) (rv_t (v := .bool _) rfl) ?_
    exact ⟨_, _, rfl, grp_open (HB.whole H).drop.drop.drop⟩
theorem lDs2 (hk : k = 2) (hE : Ents (devL g d) w) (hr : RefOk w (ids (devL g d)) s d2 m2) (ho : Nv.Ok d m) (hg : GOk g m) (hm : m ≤ 60000) (hm2 : m2 ≤ 60000) :
    Calls Try.prog 33 [ptr g.p, .agg (refCells s d2 m2).toArray, opV k a n v A nc cc].toArray w (DoPost2 g d (Nv.fence d m).1 w) := by
  subst hk
  have hr := RefOk.news (G := ids (devL g d) ++ []) hr (fun i hi => Or.inl (by simpa using hi))
  have hF : ∀ i ∈ ids (devL g d) ++ [], i < w.heap.size := fun i hi => (Heap.start hE).idlt i (by simpa using hi)
  have H := grp_start hE
  rw [refE]
  unfold opV
  by_cases hcode : (Nv.fence d m).2 = (Nv.fence d2 m2).2
  · refine k_in (N := 113) Try.func33 rfl rfl rfl ?_
    refine k_seq ?_
    refine k_rg ?_
    refine s_box H rfl rfl ?_
    intro p4 _ H'; clear H; have H := H'; clear H'
    refine s_box H rfl rfl ?_
    intro p5 _ H'; clear H; have H := H'; clear H'
    refine s_run rfl rfl (r_as (v := .pointer _) rfl) ?_
    refine s_al H rfl inf55 ?_
    intro p7 _ H'; clear H; have H := H'; clear H'
    refine s_run rfl rfl (r_as (v := .bool _) rfl) ?_
    refine k_nil ?_
    refine c_norm ?_
    refine k_seq ?_
    refine k_rg ?_
    refine s_run rfl rfl (r_as (v := .int _ _) rfl) ?_
    refine s_run rfl rfl (r_as (v := .int _ _) rfl) ?_
    refine k_nil ?_
    refine c_norm ?_
    refine k_seq ?_
    refine k_seq ?_
    refine k_rg ?_
    refine s_run rfl rfl (r_fa0 rfl fo51_0) ?_
    refine s_run rfl rfl (r_lo H 1 rfl rfl rfl ag3) ?_
    refine k_nil ?_
    refine c_norm ?_
    refine k_b ?_
    refine k_seq ?_
    refine k_rg ?_
    refine s_run rfl rfl (r_eqlF rfl rfl (by omega)) ?_
    refine s_run rfl rfl (r_as (v := .bool _) rfl) ?_
    refine k_nil ?_
    refine c_norm ?_
    refine k_f rfl ?_
    refine k_seq ?_
    refine k_rg ?_
    refine s_run rfl rfl (r_eqlF rfl rfl (by omega)) ?_
    refine s_run rfl rfl (r_as (v := .bool _) rfl) ?_
    refine k_nil ?_
    refine c_norm ?_
    refine k_f rfl ?_
    refine k_seq ?_
    refine k_rg ?_
    refine s_run rfl rfl (r_eqlT rfl rfl (by omega)) ?_
    refine s_run rfl rfl (r_as (v := .bool _) rfl) ?_
    refine k_nil ?_
    refine c_norm ?_
    refine k_t rfl ?_
    refine k_seq ?_
    refine k_rg ?_
    refine s_run rfl rfl (r_mv (v := .pointer _) rfl) ?_
    refine s_call rfl (nFence g d m _ (H.grp_ents 3 rfl) ho hg (by omega)) (ca35 rfl) ?_
    rintro e W1 ⟨rfl, H'⟩
    refine ⟨_, rfl, ?_⟩
    have H1 := H.grp_at 3 rfl H'; clear H H'; have H := H1; clear H1; simp only [List.set_cons_succ, List.set_cons_zero] at H
    refine s_run rfl rfl (r_as (v := .int _ _) rfl) ?_
    refine k_nil ?_
    refine c_norm ?_
    refine k_rg ?_
    refine s_run rfl rfl (r_la H 2 rfl rfl rfl ag55 sz55) ?_
    refine s_call rfl (rFence s d2 m2 _ _ (hr.at H) (H.fl hF) (by omega)) (ca73 rfl) ?_
    rintro e W1 ⟨s2, rfl, H', hr'⟩
    refine ⟨_, rfl, ?_⟩
    have H := H.same H'.only; clear H'; simp only [refE]; have HB := H; clear H; have H := Heap.start HB.ents
    refine s_run rfl rfl (r_mv (v := .tuple _) rfl) ?_
    refine s_run rfl rfl (r_ext (v := .agg _) rfl rfl) ?_
    refine s_run rfl rfl (r_ext (v := .int _ _) rfl rfl) ?_
    refine s_sw H 2 rfl rfl rfl rfl rfl rfl rfl sz55 ?_
    intro _ H'; simp only [List.set_cons_zero, List.set_cons_succ, List.take_succ_cons, List.take_zero, List.drop_succ_cons, List.drop_zero, List.cons_append, List.nil_append, List.append_nil, List.length_cons, List.length_nil, Nat.reduceAdd] at H'; clear H; have H := H'; clear H'
    refine s_run rfl rfl (r_as (v := .int _ _) rfl) ?_
    refine k_nil ?_
    refine b_norm ?_
    refine c_norm ?_
    refine k_seq ?_
    refine k_trF mixed ?_; have H' := H.drew; clear H; have H := H'; clear H'
    refine t_take 0 rfl (by kernel_rfl) (by kernel_rfl) (by kernel_rfl) rfl (fun _ _ _ _ h => h) rfl (fun _ hS => r_mv (v := .pointer _) rfl) trivial ?_
    refine t_take 2 rfl (by kernel_rfl) (by kernel_rfl) (by kernel_rfl) rfl (fun _ _ _ _ h => h) rfl (fun _ hS => r_mv (v := .pointer _) rfl) trivial ?_
    refine t_take 3 rfl (by kernel_rfl) (by kernel_rfl) (by kernel_rfl) rfl (fun _ _ _ _ h => h) rfl (fun _ hS => r_ptnnilT rfl rfl Try.underlying26) trivial ?_
    refine t_take 4 rfl (by kernel_rfl) (by kernel_rfl) (by kernel_rfl) rfl (fun _ _ _ _ h => h) rfl (fun _ hS => r_mv (v := .bool _) rfl) trivial ?_
    refine t_take 5 rfl (by kernel_rfl) (by kernel_rfl) (by kernel_rfl) rfl (fun _ _ _ _ h => h) (g_on 108 (by kernel_rfl) rfl) (fun _ hS => r_mv (v := .int _ _) rfl) trivial ?_
    refine t_take 6 rfl (by kernel_rfl) (by kernel_rfl) (by kernel_rfl) rfl (fun _ _ _ _ h => h) (g_on 108 (by kernel_rfl) rfl) (fun _ hS => r_mv (v := .int _ _) rfl) trivial ?_
    refine t_take 7 rfl (by kernel_rfl) (by kernel_rfl) (by kernel_rfl) rfl (fun _ _ _ _ h => h) (g_on 108 (by kernel_rfl) rfl) (fun _ hS => r_eqlT rfl rfl (by omega)) trivial ?_
    refine t_take 8 rfl (by kernel_rfl) (by kernel_rfl) (by kernel_rfl) rfl (fun _ _ _ _ h => h) rfl (fun _ hS => r_pkT (v := .bool _) rfl rfl) trivial ?_
    refine t_take 9 rfl (by kernel_rfl) (by kernel_rfl) (by kernel_rfl) rfl (fun _ _ _ _ h => h) rfl (fun _ hS => r_as (v := .pointer _) rfl) trivial ?_
    refine t_up1 1 (by kernel_rfl) ?_
    refine up_mk rfl ?_
    refine s_run rfl rfl (r_la H 2 rfl rfl rfl ag55 sz55) ?_
    refine k_nil ?_
    refine t_on trivial ?_
    refine t_up1 10 (by kernel_rfl) ?_
    refine up_mk rfl ?_
    refine s_sw H 0 rfl rfl rfl rfl rfl rfl rfl sz55 ?_
    intro _ H'; simp only [List.set_cons_zero, List.set_cons_succ, List.take_succ_cons, List.take_zero, List.drop_succ_cons, List.drop_zero, List.cons_append, List.nil_append, List.append_nil, List.length_cons, List.length_nil, Nat.reduceAdd] at H'; clear H; have H := H'; clear H'
    refine k_nil ?_
    refine t_on trivial ?_
    refine t_take 11 rfl (by kernel_rfl) (by kernel_rfl) (by kernel_rfl) rfl (fun _ _ _ _ h => h) rfl (fun _ hS => r_as (v := .bool _) rfl) trivial ?_
    refine t_done (by kernel_rfl) ?_
    refine c_norm ?_
    refine k_ret ?_
    refine fx3r rfl (rv_t (v := .pointer _) rfl) (rv_a H 0 rfl rfl rfl ag55 sz55) (rv_t (v := .bool _) rfl) ?_
    exact ⟨_, _, rfl, grp_open (HB.whole H).drop.drop.drop⟩
  · refine k_in (N := 113) Try.func33 rfl rfl rfl ?_
    refine k_seq ?_
    refine k_rg ?_
    refine s_box H rfl rfl ?_
    intro p4 _ H'; clear H; have H := H'; clear H'
    refine s_box H rfl rfl ?_
    intro p5 _ H'; clear H; have H := H'; clear H'
    refine s_run rfl rfl (r_as (v := .pointer _) rfl) ?_
    refine s_al H rfl inf55 ?_
    intro p7 _ H'; clear H; have H := H'; clear H'
    refine s_run rfl rfl (r_as (v := .bool _) rfl) ?_
    refine k_nil ?_
    refine c_norm ?_
    refine k_seq ?_
    refine k_rg ?_
    refine s_run rfl rfl (r_as (v := .int _ _) rfl) ?_
    refine s_run rfl rfl (r_as (v := .int _ _) rfl) ?_
    refine k_nil ?_
    refine c_norm ?_
    refine k_seq ?_
    refine k_seq ?_
    refine k_rg ?_
    refine s_run rfl rfl (r_fa0 rfl fo51_0) ?_
    refine s_run rfl rfl (r_lo H 1 rfl rfl rfl ag3) ?_
    refine k_nil ?_
    refine c_norm ?_
    refine k_b ?_
    refine k_seq ?_
    refine k_rg ?_
    refine s_run rfl rfl (r_eqlF rfl rfl (by omega)) ?_
    refine s_run rfl rfl (r_as (v := .bool _) rfl) ?_
    refine k_nil ?_
    refine c_norm ?_
    refine k_f rfl ?_
    refine k_seq ?_
    refine k_rg ?_
    refine s_run rfl rfl (r_eqlF rfl rfl (by omega)) ?_
    refine s_run rfl rfl (r_as (v := .bool _) rfl) ?_
    refine k_nil ?_
    refine c_norm ?_
    refine k_f rfl ?_
    refine k_seq ?_
    refine k_rg ?_
    refine s_run rfl rfl (r_eqlT rfl rfl (by omega)) ?_
    refine s_run rfl rfl (r_as (v := .bool _) rfl) ?_
    refine k_nil ?_
    refine c_norm ?_
    refine k_t rfl ?_
    refine k_seq ?_
    refine k_rg ?_
    refine s_run rfl rfl (r_mv (v := .pointer _) rfl) ?_
    refine s_call rfl (nFence g d m _ (H.grp_ents 3 rfl) ho hg (by omega)) (ca35 rfl) ?_
    rintro e W1 ⟨rfl, H'⟩
    refine ⟨_, rfl, ?_⟩
    have H1 := H.grp_at 3 rfl H'; clear H H'; have H := H1; clear H1; simp only [List.set_cons_succ, List.set_cons_zero] at H
    refine s_run rfl rfl (r_as (v := .int _ _) rfl) ?_
    refine k_nil ?_
    refine c_norm ?_
    refine k_rg ?_
    refine s_run rfl rfl (r_la H 2 rfl rfl rfl ag55 sz55) ?_
    refine s_call rfl (rFence s d2 m2 _ _ (hr.at H) (H.fl hF) (by omega)) (ca73 rfl) ?_
    rintro e W1 ⟨s2, rfl, H', hr'⟩
    refine ⟨_, rfl, ?_⟩
    have H := H.same H'.only; clear H'; simp only [refE]; have HB := H; clear H; have H := Heap.start HB.ents
    refine s_run rfl rfl (r_mv (v := .tuple _) rfl) ?_
    refine s_run rfl rfl (r_ext (v := .agg _) rfl rfl) ?_
    refine s_run rfl rfl (r_ext (v := .int _ _) rfl rfl) ?_
    refine s_sw H 2 rfl rfl rfl rfl rfl rfl rfl sz55 ?_
    intro _ H'; simp only [List.set_cons_zero, List.set_cons_succ, List.take_succ_cons, List.take_zero, List.drop_succ_cons, List.drop_zero, List.cons_append, List.nil_append, List.append_nil, List.length_cons, List.length_nil, Nat.reduceAdd] at H'; clear H; have H := H'; clear H'
    refine s_run rfl rfl (r_as (v := .int _ _) rfl) ?_
    refine k_nil ?_
    refine b_norm ?_
    refine c_norm ?_
    refine k_seq ?_
    refine k_trF mixed ?_; have H' := H.drew; clear H; have H := H'; clear H'
    refine t_take 0 rfl (by kernel_rfl) (by kernel_rfl) (by kernel_rfl) rfl (fun _ _ _ _ h => h) rfl (fun _ hS => r_mv (v := .pointer _) rfl) trivial ?_
    refine t_take 2 rfl (by kernel_rfl) (by kernel_rfl) (by kernel_rfl) rfl (fun _ _ _ _ h => h) rfl (fun _ hS => r_mv (v := .pointer _) rfl) trivial ?_
    refine t_take 3 rfl (by kernel_rfl) (by kernel_rfl) (by kernel_rfl) rfl (fun _ _ _ _ h => h) rfl (fun _ hS => r_ptnnilT rfl rfl Try.underlying26) trivial ?_
    refine t_take 4 rfl (by kernel_rfl) (by kernel_rfl) (by kernel_rfl) rfl (fun _ _ _ _ h => h) rfl (fun _ hS => r_mv (v := .bool _) rfl) trivial ?_
    refine t_take 5 rfl (by kernel_rfl) (by kernel_rfl) (by kernel_rfl) rfl (fun _ _ _ _ h => h) (g_on 108 (by kernel_rfl) rfl) (fun _ hS => r_mv (v := .int _ _) rfl) trivial ?_
    refine t_take 6 rfl (by kernel_rfl) (by kernel_rfl) (by kernel_rfl) rfl (fun _ _ _ _ h => h) (g_on 108 (by kernel_rfl) rfl) (fun _ hS => r_mv (v := .int _ _) rfl) trivial ?_
    refine t_take 7 rfl (by kernel_rfl) (by kernel_rfl) (by kernel_rfl) rfl (fun _ _ _ _ h => h) (g_on 108 (by kernel_rfl) rfl) (fun _ hS => r_eqlF rfl rfl (by omega)) trivial ?_
    refine t_take 8 rfl (by kernel_rfl) (by kernel_rfl) (by kernel_rfl) rfl (fun _ _ _ _ h => h) rfl (fun _ hS => r_pkT (v := .bool _) rfl rfl) trivial ?_
    refine t_take 9 rfl (by kernel_rfl) (by kernel_rfl) (by kernel_rfl) rfl (fun _ _ _ _ h => h) rfl (fun _ hS => r_as (v := .pointer _) rfl) trivial ?_
    refine t_up1 1 (by kernel_rfl) ?_
    refine up_mk rfl ?_
    refine s_run rfl rfl (r_la H 2 rfl rfl rfl ag55 sz55) ?_
    refine k_nil ?_
    refine t_on trivial ?_
    refine t_up1 10 (by kernel_rfl) ?_
    refine up_mk rfl ?_
    refine s_sw H 0 rfl rfl rfl rfl rfl rfl rfl sz55 ?_
    intro _ H'; simp only [List.set_cons_zero, List.set_cons_succ, List.take_succ_cons, List.take_zero, List.drop_succ_cons, List.drop_zero, List.cons_append, List.nil_append, List.append_nil, List.length_cons, List.length_nil, Nat.reduceAdd] at H'; clear H; have H := H'; clear H'
    refine k_nil ?_
    refine t_on trivial ?_
    refine t_take 11 rfl (by kernel_rfl) (by kernel_rfl) (by kernel_rfl) rfl (fun _ _ _ _ h => h) rfl (fun _ hS => r_as (v := .bool _) rfl) trivial ?_
    refine t_done (by kernel_rfl) ?_
    refine c_norm ?_
    refine k_ret ?_
    refine fx3r rfl (rv_t (v := .pointer _) rfl) (rv_a H 0 rfl rfl rfl ag55 sz55) (rv_t (v := .bool _) rfl) ?_
    exact ⟨_, _, rfl, grp_open (HB.whole H).drop.drop.drop⟩
theorem lDs3 (hk : k = 3) (hE : Ents (devL g d) w) (hr : RefOk w (ids (devL g d)) s d2 m2) (ho : Nv.Ok d m) (hg : GOk g m) (hm : m ≤ 60000) (hm2 : m2 ≤ 60000) :
    Calls Try.prog 33 [ptr g.p, .agg (refCells s d2 m2).toArray, opV k a n v A nc cc].toArray w (DoPost2 g d (Nv.evict d m a).1 w) := by
  subst hk
  have hr := RefOk.news (G := ids (devL g d) ++ []) hr (fun i hi => Or.inl (by simpa using hi))
  have hF : ∀ i ∈ ids (devL g d) ++ [], i < w.heap.size := fun i hi => (Heap.start hE).idlt i (by simpa using hi)
  have H := grp_start hE
  rw [refE]
  unfold opV
  by_cases hcode : (Nv.evict d m a).2 = (Nv.evict d2 m2 a).2
  · refine k_in (N := 113) Try.func33 rfl rfl rfl ?_
    refine k_seq ?_
    refine k_rg ?_
    refine s_box H rfl rfl ?_
    intro p4 _ H'; clear H; have H := H'; clear H'
    refine s_box H rfl rfl ?_
    intro p5 _ H'; clear H; have H := H'; clear H'
    refine s_run rfl rfl (r_as (v := .pointer _) rfl) ?_
    refine s_al H rfl inf55 ?_
    intro p7 _ H'; clear H; have H := H'; clear H'
    refine s_run rfl rfl (r_as (v := .bool _) rfl) ?_
    refine k_nil ?_
    refine c_norm ?_
    refine k_seq ?_
    refine k_rg ?_
    refine s_run rfl rfl (r_as (v := .int _ _) rfl) ?_
    refine s_run rfl rfl (r_as (v := .int _ _) rfl) ?_
    refine k_nil ?_
    refine c_norm ?_
    refine k_seq ?_
    refine k_seq ?_
    refine k_rg ?_
    refine s_run rfl rfl (r_fa0 rfl fo51_0) ?_
    refine s_run rfl rfl (r_lo H 1 rfl rfl rfl ag3) ?_
    refine k_nil ?_
    refine c_norm ?_
    refine k_b ?_
    refine k_seq ?_
    refine k_rg ?_
    refine s_run rfl rfl (r_eqlF rfl rfl (by omega)) ?_
    refine s_run rfl rfl (r_as (v := .bool _) rfl) ?_
    refine k_nil ?_
    refine c_norm ?_
    refine k_f rfl ?_
    refine k_seq ?_
    refine k_rg ?_
    refine s_run rfl rfl (r_eqlF rfl rfl (by omega)) ?_
    refine s_run rfl rfl (r_as (v := .bool _) rfl) ?_
    refine k_nil ?_
    refine c_norm ?_
    refine k_f rfl ?_
    refine k_seq ?_
    refine k_rg ?_
    refine s_run rfl rfl (r_eqlF rfl rfl (by omega)) ?_
    refine s_run rfl rfl (r_as (v := .bool _) rfl) ?_
    refine k_nil ?_
    refine c_norm ?_
    refine k_f rfl ?_
    refine k_seq ?_
    refine k_rg ?_
    refine s_run rfl rfl (r_eqlT rfl rfl (by omega)) ?_
    refine s_run rfl rfl (r_as (v := .bool _) rfl) ?_
    refine k_nil ?_
    refine c_norm ?_
    refine k_t rfl ?_
    refine k_seq ?_
    refine k_rg ?_
    refine s_run rfl rfl (r_mv (v := .pointer _) rfl) ?_
    refine s_run rfl rfl (r_fa0 rfl fo51_1) ?_
    refine s_run rfl rfl (r_lo H 1 rfl rfl rfl ag3) ?_
    refine s_call rfl (nEvict g d m a _ (H.grp_ents 3 rfl) ho hg (by omega)) (ca50 rfl) ?_
    rintro e W1 ⟨rfl, H'⟩
    refine ⟨_, rfl, ?_⟩
    have H1 := H.grp_at 3 rfl H'; clear H H'; have H := H1; clear H1; simp only [List.set_cons_succ, List.set_cons_zero] at H
    refine s_run rfl rfl (r_as (v := .int _ _) rfl) ?_
    refine k_nil ?_
    refine c_norm ?_
    refine k_rg ?_
    refine s_run rfl rfl (r_la H 2 rfl rfl rfl ag55 sz55) ?_
    refine s_run rfl rfl (r_fa0 rfl fo51_1) ?_
    refine s_run rfl rfl (r_lo H 1 rfl rfl rfl ag3) ?_
    refine s_call rfl (rEvict s d2 m2 a _ _ (hr.at H) (H.fl hF) (by omega)) (ca74 rfl) ?_
    rintro e W1 ⟨s2, rfl, H', hr'⟩
    refine ⟨_, rfl, ?_⟩
    have H := H.same H'.only; clear H'; simp only [refE]; have HB := H; clear H; have H := Heap.start HB.ents
    refine s_run rfl rfl (r_mv (v := .tuple _) rfl) ?_
    refine s_run rfl rfl (r_ext (v := .agg _) rfl rfl) ?_
    refine s_run rfl rfl (r_ext (v := .int _ _) rfl rfl) ?_
    refine s_sw H 2 rfl rfl rfl rfl rfl rfl rfl sz55 ?_
    intro _ H'; simp only [List.set_cons_zero, List.set_cons_succ, List.take_succ_cons, List.take_zero, List.drop_succ_cons, List.drop_zero, List.cons_append, List.nil_append, List.append_nil, List.length_cons, List.length_nil, Nat.reduceAdd] at H'; clear H; have H := H'; clear H'
    refine s_run rfl rfl (r_as (v := .int _ _) rfl) ?_
    refine k_nil ?_
    refine b_norm ?_
    refine c_norm ?_
    refine k_seq ?_
    refine k_trF mixed ?_; have H' := H.drew; clear H; have H := H'; clear H'
    refine t_take 0 rfl (by kernel_rfl) (by kernel_rfl) (by kernel_rfl) rfl (fun _ _ _ _ h => h) rfl (fun _ hS => r_mv (v := .pointer _) rfl) trivial ?_
    refine t_take 2 rfl (by kernel_rfl) (by kernel_rfl) (by kernel_rfl) rfl (fun _ _ _ _ h => h) rfl (fun _ hS => r_mv (v := .pointer _) rfl) trivial ?_
    refine t_take 3 rfl (by kernel_rfl) (by kernel_rfl) (by kernel_rfl) rfl (fun _ _ _ _ h => h) rfl (fun _ hS => r_ptnnilT rfl rfl Try.underlying26) trivial ?_
    refine t_take 4 rfl (by kernel_rfl) (by kernel_rfl) (by kernel_rfl) rfl (fun _ _ _ _ h => h) rfl (fun _ hS => r_mv (v := .bool _) rfl) trivial ?_
    refine t_take 5 rfl (by kernel_rfl) (by kernel_rfl) (by kernel_rfl) rfl (fun _ _ _ _ h => h) (g_on 108 (by kernel_rfl) rfl) (fun _ hS => r_mv (v := .int _ _) rfl) trivial ?_
    refine t_take 6 rfl (by kernel_rfl) (by kernel_rfl) (by kernel_rfl) rfl (fun _ _ _ _ h => h) (g_on 108 (by kernel_rfl) rfl) (fun _ hS => r_mv (v := .int _ _) rfl) trivial ?_
    refine t_take 7 rfl (by kernel_rfl) (by kernel_rfl) (by kernel_rfl) rfl (fun _ _ _ _ h => h) (g_on 108 (by kernel_rfl) rfl) (fun _ hS => r_eqlT rfl rfl (by omega)) trivial ?_
    refine t_take 8 rfl (by kernel_rfl) (by kernel_rfl) (by kernel_rfl) rfl (fun _ _ _ _ h => h) rfl (fun _ hS => r_pkT (v := .bool _) rfl rfl) trivial ?_
    refine t_take 9 rfl (by kernel_rfl) (by kernel_rfl) (by kernel_rfl) rfl (fun _ _ _ _ h => h) rfl (fun _ hS => r_as (v := .pointer _) rfl) trivial ?_
    refine t_up1 1 (by kernel_rfl) ?_
    refine up_mk rfl ?_
    refine s_run rfl rfl (r_la H 2 rfl rfl rfl ag55 sz55) ?_
    refine k_nil ?_
    refine t_on trivial ?_
    refine t_up1 10 (by kernel_rfl) ?_
    refine up_mk rfl ?_
    refine s_sw H 0 rfl rfl rfl rfl rfl rfl rfl sz55 ?_
    intro _ H'; simp only [List.set_cons_zero, List.set_cons_succ, List.take_succ_cons, List.take_zero, List.drop_succ_cons, List.drop_zero, List.cons_append, List.nil_append, List.append_nil, List.length_cons, List.length_nil, Nat.reduceAdd] at H'; clear H; have H := H'; clear H'
    refine k_nil ?_
    refine t_on trivial ?_
    refine t_take 11 rfl (by kernel_rfl) (by kernel_rfl) (by kernel_rfl) rfl (fun _ _ _ _ h => h) rfl (fun _ hS => r_as (v := .bool _) rfl) trivial ?_
    refine t_done (by kernel_rfl) ?_
    refine c_norm ?_
    refine k_ret ?_
    refine fx3r rfl (rv_t (v := .pointer _) rfl) (rv_a H 0 rfl rfl rfl ag55 sz55) (rv_t (v := .bool _) rfl) ?_
    exact ⟨_, _, rfl, grp_open (HB.whole H).drop.drop.drop⟩
  · refine k_in (N := 113) Try.func33 rfl rfl rfl ?_
    refine k_seq ?_
    refine k_rg ?_
    refine s_box H rfl rfl ?_
    intro p4 _ H'; clear H; have H := H'; clear H'
    refine s_box H rfl rfl ?_
    intro p5 _ H'; clear H; have H := H'; clear H'
    refine s_run rfl rfl (r_as (v := .pointer _) rfl) ?_
    refine s_al H rfl inf55 ?_
    intro p7 _ H'; clear H; have H := H'; clear H'
    refine s_run rfl rfl (r_as (v := .bool _) rfl) ?_
    refine k_nil ?_
    refine c_norm ?_
    refine k_seq ?_
    refine k_rg ?_
    refine s_run rfl rfl (r_as (v := .int _ _) rfl) ?_
    refine s_run rfl rfl (r_as (v := .int _ _) rfl) ?_
    refine k_nil ?_
    refine c_norm ?_
    refine k_seq ?_
    refine k_seq ?_
    refine k_rg ?_
    refine s_run rfl rfl (r_fa0 rfl fo51_0) ?_
    refine s_run rfl rfl (r_lo H 1 rfl rfl rfl ag3) ?_
    refine k_nil ?_
    refine c_norm ?_
    refine k_b ?_
    refine k_seq ?_
    refine k_rg ?_
    refine s_run rfl rfl (r_eqlF rfl rfl (by omega)) ?_
    refine s_run rfl rfl (r_as (v := .bool _) rfl) ?_
    refine k_nil ?_
    refine c_norm ?_
    refine k_f rfl ?_
    refine k_seq ?_
    refine k_rg ?_
    refine s_run rfl rfl (r_eqlF rfl rfl (by omega)) ?_
    refine s_run rfl rfl (r_as (v := .bool _) rfl) ?_
    refine k_nil ?_
    refine c_norm ?_
    refine k_f rfl ?_
    refine k_seq ?_
    refine k_rg ?_
    refine s_run rfl rfl (r_eqlF rfl rfl (by omega)) ?_
    refine s_run rfl rfl (r_as (v := .bool _) rfl) ?_
    refine k_nil ?_
    refine c_norm ?_
    refine k_f rfl ?_
    refine k_seq ?_
    refine k_rg ?_
    refine s_run rfl rfl (r_eqlT rfl rfl (by omega)) ?_
    refine s_run rfl rfl (r_as (v := .bool _) rfl) ?_
    refine k_nil ?_
    refine c_norm ?_
    refine k_t rfl ?_
    refine k_seq ?_
    refine k_rg ?_
    refine s_run rfl rfl (r_mv (v := .pointer _) rfl) ?_
    refine s_run rfl rfl (r_fa0 rfl fo51_1) ?_
    refine s_run rfl rfl (r_lo H 1 rfl rfl rfl ag3) ?_
    refine s_call rfl (nEvict g d m a _ (H.grp_ents 3 rfl) ho hg (by omega)) (ca50 rfl) ?_
    rintro e W1 ⟨rfl, H'⟩
    refine ⟨_, rfl, ?_⟩
    have H1 := H.grp_at 3 rfl H'; clear H H'; have H := H1; clear H1; simp only [List.set_cons_succ, List.set_cons_zero] at H
    refine s_run rfl rfl (r_as (v := .int _ _) rfl) ?_
    refine k_nil ?_
    refine c_norm ?_
    refine k_rg ?_
    refine s_run rfl rfl (r_la H 2 rfl rfl rfl ag55 sz55) ?_
    refine s_run rfl rfl (r_fa0 rfl fo51_1) ?_
    refine s_run rfl rfl (r_lo H 1 rfl rfl rfl ag3) ?_
    refine s_call rfl (rEvict s d2 m2 a _ _ (hr.at H) (H.fl hF) (by omega)) (ca74 rfl) ?_
    rintro e W1 ⟨s2, rfl, H', hr'⟩
    refine ⟨_, rfl, ?_⟩
    have H := H.same H'.only; clear H'; simp only [refE]; have HB := H; clear H; have H := Heap.start HB.ents
    refine s_run rfl rfl (r_mv (v := .tuple _) rfl) ?_
    refine s_run rfl rfl (r_ext (v := .agg _) rfl rfl) ?_
    refine s_run rfl rfl (r_ext (v := .int _ _) rfl rfl) ?_
    refine s_sw H 2 rfl rfl rfl rfl rfl rfl rfl sz55 ?_
    intro _ H'; simp only [List.set_cons_zero, List.set_cons_succ, List.take_succ_cons, List.take_zero, List.drop_succ_cons, List.drop_zero, List.cons_append, List.nil_append, List.append_nil, List.length_cons, List.length_nil, Nat.reduceAdd] at H'; clear H; have H := H'; clear H'
    refine s_run rfl rfl (r_as (v := .int _ _) rfl) ?_
    refine k_nil ?_
    refine b_norm ?_
    refine c_norm ?_
    refine k_seq ?_
    refine k_trF mixed ?_; have H' := H.drew; clear H; have H := H'; clear H'
    refine t_take 0 rfl (by kernel_rfl) (by kernel_rfl) (by kernel_rfl) rfl (fun _ _ _ _ h => h) rfl (fun _ hS => r_mv (v := .pointer _) rfl) trivial ?_
    refine t_take 2 rfl (by kernel_rfl) (by kernel_rfl) (by kernel_rfl) rfl (fun _ _ _ _ h => h) rfl (fun _ hS => r_mv (v := .pointer _) rfl) trivial ?_
    refine t_take 3 rfl (by kernel_rfl) (by kernel_rfl) (by kernel_rfl) rfl (fun _ _ _ _ h => h) rfl (fun _ hS => r_ptnnilT rfl rfl Try.underlying26) trivial ?_
    refine t_take 4 rfl (by kernel_rfl) (by kernel_rfl) (by kernel_rfl) rfl (fun _ _ _ _ h => h) rfl (fun _ hS => r_mv (v := .bool _) rfl) trivial ?_
    refine t_take 5 rfl (by kernel_rfl) (by kernel_rfl) (by kernel_rfl) rfl (fun _ _ _ _ h => h) (g_on 108 (by kernel_rfl) rfl) (fun _ hS => r_mv (v := .int _ _) rfl) trivial ?_
    refine t_take 6 rfl (by kernel_rfl) (by kernel_rfl) (by kernel_rfl) rfl (fun _ _ _ _ h => h) (g_on 108 (by kernel_rfl) rfl) (fun _ hS => r_mv (v := .int _ _) rfl) trivial ?_
    refine t_take 7 rfl (by kernel_rfl) (by kernel_rfl) (by kernel_rfl) rfl (fun _ _ _ _ h => h) (g_on 108 (by kernel_rfl) rfl) (fun _ hS => r_eqlF rfl rfl (by omega)) trivial ?_
    refine t_take 8 rfl (by kernel_rfl) (by kernel_rfl) (by kernel_rfl) rfl (fun _ _ _ _ h => h) rfl (fun _ hS => r_pkT (v := .bool _) rfl rfl) trivial ?_
    refine t_take 9 rfl (by kernel_rfl) (by kernel_rfl) (by kernel_rfl) rfl (fun _ _ _ _ h => h) rfl (fun _ hS => r_as (v := .pointer _) rfl) trivial ?_
    refine t_up1 1 (by kernel_rfl) ?_
    refine up_mk rfl ?_
    refine s_run rfl rfl (r_la H 2 rfl rfl rfl ag55 sz55) ?_
    refine k_nil ?_
    refine t_on trivial ?_
    refine t_up1 10 (by kernel_rfl) ?_
    refine up_mk rfl ?_
    refine s_sw H 0 rfl rfl rfl rfl rfl rfl rfl sz55 ?_
    intro _ H'; simp only [List.set_cons_zero, List.set_cons_succ, List.take_succ_cons, List.take_zero, List.drop_succ_cons, List.drop_zero, List.cons_append, List.nil_append, List.append_nil, List.length_cons, List.length_nil, Nat.reduceAdd] at H'; clear H; have H := H'; clear H'
    refine k_nil ?_
    refine t_on trivial ?_
    refine t_take 11 rfl (by kernel_rfl) (by kernel_rfl) (by kernel_rfl) rfl (fun _ _ _ _ h => h) rfl (fun _ hS => r_as (v := .bool _) rfl) trivial ?_
    refine t_done (by kernel_rfl) ?_
    refine c_norm ?_
    refine k_ret ?_
    refine fx3r rfl (rv_t (v := .pointer _) rfl) (rv_a H 0 rfl rfl rfl ag55 sz55) (rv_t (v := .bool _) rfl) ?_
    exact ⟨_, _, rfl, grp_open (HB.whole H).drop.drop.drop⟩
theorem lDs4 (hk : k = 4) (hE : Ents (devL g d) w) (hr : RefOk w (ids (devL g d)) s d2 m2) (ho : Nv.Ok d m) (hg : GOk g m) (hm : m ≤ 60000) (hm2 : m2 ≤ 60000) :
    Calls Try.prog 33 [ptr g.p, .agg (refCells s d2 m2).toArray, opV k a n v A nc cc].toArray w (DoPost2 g d (Nv.persist d m a n).1 w) := by
  subst hk
  have hr := RefOk.news (G := ids (devL g d) ++ []) hr (fun i hi => Or.inl (by simpa using hi))
  have hF : ∀ i ∈ ids (devL g d) ++ [], i < w.heap.size := fun i hi => (Heap.start hE).idlt i (by simpa using hi)
  have H := grp_start hE
  rw [refE]
  unfold opV
  by_cases hcode : (Nv.persist d m a n).2 = (Nv.persist d2 m2 a n).2
  · refine k_in (N := 113) Try.func33 rfl rfl rfl ?_
    refine k_seq ?_
    refine k_rg ?_
    refine s_box H rfl rfl ?_
    intro p4 _ H'; clear H; have H := H'; clear H'
    refine s_box H rfl rfl ?_
    intro p5 _ H'; clear H; have H := H'; clear H'
    refine s_run rfl rfl (r_as (v := .pointer _) rfl) ?_
    refine s_al H rfl inf55 ?_
    intro p7 _ H'; clear H; have H := H'; clear H'
    refine s_run rfl rfl (r_as (v := .bool _) rfl) ?_
    refine k_nil ?_
    refine c_norm ?_
    refine k_seq ?_
    refine k_rg ?_
    refine s_run rfl rfl (r_as (v := .int _ _) rfl) ?_
    refine s_run rfl rfl (r_as (v := .int _ _) rfl) ?_
    refine k_nil ?_
    refine c_norm ?_
    refine k_seq ?_
    refine k_seq ?_
    refine k_rg ?_
    refine s_run rfl rfl (r_fa0 rfl fo51_0) ?_
    refine s_run rfl rfl (r_lo H 1 rfl rfl rfl ag3) ?_
    refine k_nil ?_
    refine c_norm ?_
    refine k_b ?_
    refine k_seq ?_
    refine k_rg ?_
    refine s_run rfl rfl (r_eqlF rfl rfl (by omega)) ?_
    refine s_run rfl rfl (r_as (v := .bool _) rfl) ?_
    refine k_nil ?_
    refine c_norm ?_
    refine k_f rfl ?_
    refine k_seq ?_
    refine k_rg ?_
    refine s_run rfl rfl (r_eqlF rfl rfl (by omega)) ?_
    refine s_run rfl rfl (r_as (v := .bool _) rfl) ?_
    refine k_nil ?_
    refine c_norm ?_
    refine k_f rfl ?_
    refine k_seq ?_
    refine k_rg ?_
    refine s_run rfl rfl (r_eqlF rfl rfl (by omega)) ?_
    refine s_run rfl rfl (r_as (v := .bool _) rfl) ?_
    refine k_nil ?_
    refine c_norm ?_
    refine k_f rfl ?_
    refine k_seq ?_
    refine k_rg ?_
    refine s_run rfl rfl (r_eqlF rfl rfl (by omega)) ?_
    refine s_run rfl rfl (r_as (v := .bool _) rfl) ?_
    refine k_nil ?_
    refine c_norm ?_
    refine k_f rfl ?_
    refine k_seq ?_
    refine k_rg ?_
    refine s_run rfl rfl (r_eqlT rfl rfl (by omega)) ?_
    refine s_run rfl rfl (r_as (v := .bool _) rfl) ?_
    refine k_nil ?_
    refine c_norm ?_
    refine k_t rfl ?_
    refine k_seq ?_
    refine k_rg ?_
    refine s_run rfl rfl (r_mv (v := .pointer _) rfl) ?_
    refine s_run rfl rfl (r_fa0 rfl fo51_1) ?_
    refine s_run rfl rfl (r_lo H 1 rfl rfl rfl ag3) ?_
    refine s_run rfl rfl (r_fa0 rfl fo51_2) ?_
    refine s_run rfl rfl (r_lo H 1 rfl rfl rfl ag3) ?_
    refine s_call rfl (nPersist g d m a n _ (H.grp_ents 3 rfl) ho hg (by omega)) (ca38 rfl) ?_
    rintro e W1 ⟨rfl, H'⟩
    refine ⟨_, rfl, ?_⟩
    have H1 := H.grp_at 3 rfl H'; clear H H'; have H := H1; clear H1; simp only [List.set_cons_succ, List.set_cons_zero] at H
    refine s_run rfl rfl (r_as (v := .int _ _) rfl) ?_
    refine k_nil ?_
    refine c_norm ?_
    refine k_rg ?_
    refine s_run rfl rfl (r_la H 2 rfl rfl rfl ag55 sz55) ?_
    refine s_run rfl rfl (r_fa0 rfl fo51_1) ?_
    refine s_run rfl rfl (r_lo H 1 rfl rfl rfl ag3) ?_
    refine s_run rfl rfl (r_fa0 rfl fo51_2) ?_
    refine s_run rfl rfl (r_lo H 1 rfl rfl rfl ag3) ?_
    refine s_call rfl (rPersist s d2 m2 a n _ _ (hr.at H) (H.fl hF) (by omega)) (ca75 rfl) ?_
    rintro e W1 ⟨s2, rfl, H', hr'⟩
    refine ⟨_, rfl, ?_⟩
    have H := H.same H'.only; clear H'; simp only [refE]; have HB := H; clear H; have H := Heap.start HB.ents
    refine s_run rfl rfl (r_mv (v := .tuple _) rfl) ?_
    refine s_run rfl rfl (r_ext (v := .agg _) rfl rfl) ?_
    refine s_run rfl rfl (r_ext (v := .int _ _) rfl rfl) ?_
    refine s_sw H 2 rfl rfl rfl rfl rfl rfl rfl sz55 ?_
    intro _ H'; simp only [List.set_cons_zero, List.set_cons_succ, List.take_succ_cons, List.take_zero, List.drop_succ_cons, List.drop_zero, List.cons_append, List.nil_append, List.append_nil, List.length_cons, List.length_nil, Nat.reduceAdd] at H'; clear H; have H := H'; clear H'
    refine s_run rfl rfl (r_as (v := .int _ _) rfl) ?_
    refine k_nil ?_
    refine b_norm ?_
    refine c_norm ?_
    refine k_seq ?_
    refine k_trF mixed ?_; have H' := H.drew; clear H; have H := H'; clear H'
    refine t_take 0 rfl (by kernel_rfl) (by kernel_rfl) (by kernel_rfl) rfl (fun _ _ _ _ h => h) rfl (fun _ hS => r_mv (v := .pointer _) rfl) trivial ?_
    refine t_take 2 rfl (by kernel_rfl) (by kernel_rfl) (by kernel_rfl) rfl (fun _ _ _ _ h => h) rfl (fun _ hS => r_mv (v := .pointer _) rfl) trivial ?_
    refine t_take 3 rfl (by kernel_rfl) (by kernel_rfl) (by kernel_rfl) rfl (fun _ _ _ _ h => h) rfl (fun _ hS => r_ptnnilT rfl rfl Try.underlying26) trivial ?_
    refine t_take 4 rfl (by kernel_rfl) (by kernel_rfl) (by kernel_rfl) rfl (fun _ _ _ _ h => h) rfl (fun _ hS => r_mv (v := .bool _) rfl) trivial ?_
    refine t_take 5 rfl (by kernel_rfl) (by kernel_rfl) (by kernel_rfl) rfl (fun _ _ _ _ h => h) (g_on 108 (by kernel_rfl) rfl) (fun _ hS => r_mv (v := .int _ _) rfl) trivial ?_
    refine t_take 6 rfl (by kernel_rfl) (by kernel_rfl) (by kernel_rfl) rfl (fun _ _ _ _ h => h) (g_on 108 (by kernel_rfl) rfl) (fun _ hS => r_mv (v := .int _ _) rfl) trivial ?_
    refine t_take 7 rfl (by kernel_rfl) (by kernel_rfl) (by kernel_rfl) rfl (fun _ _ _ _ h => h) (g_on 108 (by kernel_rfl) rfl) (fun _ hS => r_eqlT rfl rfl (by omega)) trivial ?_
    refine t_take 8 rfl (by kernel_rfl) (by kernel_rfl) (by kernel_rfl) rfl (fun _ _ _ _ h => h) rfl (fun _ hS => r_pkT (v := .bool _) rfl rfl) trivial ?_
    refine t_take 9 rfl (by kernel_rfl) (by kernel_rfl) (by kernel_rfl) rfl (fun _ _ _ _ h => h) rfl (fun _ hS => r_as (v := .pointer _) rfl) trivial ?_
    refine t_up1 1 (by kernel_rfl) ?_
    refine up_mk rfl ?_
    refine s_run rfl rfl (r_la H 2 rfl rfl rfl ag55 sz55) ?_
    refine k_nil ?_
    refine t_on trivial ?_
    refine t_up1 10 (by kernel_rfl) ?_
    refine up_mk rfl ?_
    refine s_sw H 0 rfl rfl rfl rfl rfl rfl rfl sz55 ?_
    intro _ H'; simp only [List.set_cons_zero, List.set_cons_succ, List.take_succ_cons, List.take_zero, List.drop_succ_cons, List.drop_zero, List.cons_append, List.nil_append, List.append_nil, List.length_cons, List.length_nil, Nat.reduceAdd] at H'; clear H; have H := H'; clear H'
    refine k_nil ?_
    refine t_on trivial ?_
    refine t_take 11 rfl (by kernel_rfl) (by kernel_rfl) (by kernel_rfl) rfl (fun _ _ _ _ h => h) rfl (fun _ hS => r_as (v := .bool _) rfl) trivial ?_
    refine t_done (by kernel_rfl) ?_
    refine c_norm ?_
    refine k_ret ?_
    refine fx3r rfl (rv_t (v := .pointer _) rfl) (rv_a H 0 rfl rfl rfl ag55 sz55) (rv_t (v := .bool _) rfl) ?_
    exact ⟨_, _, rfl, grp_open (HB.whole H).drop.drop.drop⟩
  · refine k_in (N := 113) Try.func33 rfl rfl rfl ?_
    refine k_seq ?_
    refine k_rg ?_
    refine s_box H rfl rfl ?_
    intro p4 _ H'; clear H; have H := H'; clear H'
    refine s_box H rfl rfl ?_
    intro p5 _ H'; clear H; have H := H'; clear H'
    refine s_run rfl rfl (r_as (v := .pointer _) rfl) ?_
    refine s_al H rfl inf55 ?_
    intro p7 _ H'; clear H; have H := H'; clear H'
    refine s_run rfl rfl (r_as (v := .bool _) rfl) ?_
    refine k_nil ?_
    refine c_norm ?_
    refine k_seq ?_
    refine k_rg ?_
    refine s_run rfl rfl (r_as (v := .int _ _) rfl) ?_
    refine s_run rfl rfl (r_as (v := .int _ _) rfl) ?_
    refine k_nil ?_
    refine c_norm ?_
    refine k_seq ?_
    refine k_seq ?_
    refine k_rg ?_
    refine s_run rfl rfl (r_fa0 rfl fo51_0) ?_
    refine s_run rfl rfl (r_lo H 1 rfl rfl rfl ag3) ?_
    refine k_nil ?_
    refine c_norm ?_
    refine k_b ?_
    refine k_seq ?_
    refine k_rg ?_
    refine s_run rfl rfl (r_eqlF rfl rfl (by omega)) ?_
    refine s_run rfl rfl (r_as (v := .bool _) rfl) ?_
    refine k_nil ?_
    refine c_norm ?_
    refine k_f rfl ?_
    refine k_seq ?_
    refine k_rg ?_
    refine s_run rfl rfl (r_eqlF rfl rfl (by omega)) ?_
    refine s_run rfl rfl (r_as (v := .bool _) rfl) ?_
    refine k_nil ?_
    refine c_norm ?_
    refine k_f rfl ?_
    refine k_seq ?_
    refine k_rg ?_
    refine s_run rfl rfl (r_eqlF rfl rfl (by omega)) ?_
    refine s_run rfl rfl (r_as (v := .bool _) rfl) ?_
    refine k_nil ?_
    refine c_norm ?_
    refine k_f rfl ?_
    refine k_seq ?_
    refine k_rg ?_
    refine s_run rfl rfl (r_eqlF rfl rfl (by omega)) ?_
    refine s_run rfl rfl (r_as (v := .bool _) rfl) ?_
    refine k_nil ?_
    refine c_norm ?_
    refine k_f rfl ?_
    refine k_seq ?_
    refine k_rg ?_
    refine s_run rfl rfl (r_eqlT rfl rfl (by omega)) ?_
    refine s_run rfl rfl (r_as (v := .bool _) rfl) ?_
    refine k_nil ?_
    refine c_norm ?_
    refine k_t rfl ?_
    refine k_seq ?_
    refine k_rg ?_
    refine s_run rfl rfl (r_mv (v := .pointer _) rfl) ?_
    refine s_run rfl rfl (r_fa0 rfl fo51_1) ?_
    refine s_run rfl rfl (r_lo H 1 rfl rfl rfl ag3) ?_
    refine s_run rfl rfl (r_fa0 rfl fo51_2) ?_
    refine s_run rfl rfl (r_lo H 1 rfl rfl rfl ag3) ?_
    refine s_call rfl (nPersist g d m a n _ (H.grp_ents 3 rfl) ho hg (by omega)) (ca38 rfl) ?_
    rintro e W1 ⟨rfl, H'⟩
    refine ⟨_, rfl, ?_⟩
    have H1 := H.grp_at 3 rfl H'; clear H H'; have H := H1; clear H1; simp only [List.set_cons_succ, List.set_cons_zero] at H
    refine s_run rfl rfl (r_as (v := .int _ _) rfl) ?_
    refine k_nil ?_
    refine c_norm ?_
    refine k_rg ?_
    refine s_run rfl rfl (r_la H 2 rfl rfl rfl ag55 sz55) ?_
    refine s_run rfl rfl (r_fa0 rfl fo51_1) ?_
    refine s_run rfl rfl (r_lo H 1 rfl rfl rfl ag3) ?_
    refine s_run rfl rfl (r_fa0 rfl fo51_2) ?_
    refine s_run rfl rfl (r_lo H 1 rfl rfl rfl ag3) ?_
    refine s_call rfl (rPersist s d2 m2 a n _ _ (hr.at H) (H.fl hF) (by omega)) (ca75 rfl) ?_
    rintro e W1 ⟨s2, rfl, H', hr'⟩
    refine ⟨_, rfl, ?_⟩
    have H := H.same H'.only; clear H'; simp only [refE]; have HB := H; clear H; have H := Heap.start HB.ents
    refine s_run rfl rfl (r_mv (v := .tuple _) rfl) ?_
    refine s_run rfl rfl (r_ext (v := .agg _) rfl rfl) ?_
    refine s_run rfl rfl (r_ext (v := .int _ _) rfl rfl) ?_
    refine s_sw H 2 rfl rfl rfl rfl rfl rfl rfl sz55 ?_
    intro _ H'; simp only [List.set_cons_zero, List.set_cons_succ, List.take_succ_cons, List.take_zero, List.drop_succ_cons, List.drop_zero, List.cons_append, List.nil_append, List.append_nil, List.length_cons, List.length_nil, Nat.reduceAdd] at H'; clear H; have H := H'; clear H'
    refine s_run rfl rfl (r_as (v := .int _ _) rfl) ?_
    refine k_nil ?_
    refine b_norm ?_
    refine c_norm ?_
    refine k_seq ?_
    refine k_trF mixed ?_; have H' := H.drew; clear H; have H := H'; clear H'
    refine t_take 0 rfl (by kernel_rfl) (by kernel_rfl) (by kernel_rfl) rfl (fun _ _ _ _ h => h) rfl (fun _ hS => r_mv (v := .pointer _) rfl) trivial ?_
    refine t_take 2 rfl (by kernel_rfl) (by kernel_rfl) (by kernel_rfl) rfl (fun _ _ _ _ h => h) rfl (fun _ hS => r_mv (v := .pointer _) rfl) trivial ?_
    refine t_take 3 rfl (by kernel_rfl) (by kernel_rfl) (by kernel_rfl) rfl (fun _ _ _ _ h => h) rfl (fun _ hS => r_ptnnilT rfl rfl Try.underlying26) trivial ?_
    refine t_take 4 rfl (by kernel_rfl) (by kernel_rfl) (by kernel_rfl) rfl (fun _ _ _ _ h => h) rfl (fun _ hS => r_mv (v := .bool _) rfl) trivial ?_
    refine t_take 5 rfl (by kernel_rfl) (by kernel_rfl) (by kernel_rfl) rfl (fun _ _ _ _ h => h) (g_on 108 (by kernel_rfl) rfl) (fun _ hS => r_mv (v := .int _ _) rfl) trivial ?_
    refine t_take 6 rfl (by kernel_rfl) (by kernel_rfl) (by kernel_rfl) rfl (fun _ _ _ _ h => h) (g_on 108 (by kernel_rfl) rfl) (fun _ hS => r_mv (v := .int _ _) rfl) trivial ?_
    refine t_take 7 rfl (by kernel_rfl) (by kernel_rfl) (by kernel_rfl) rfl (fun _ _ _ _ h => h) (g_on 108 (by kernel_rfl) rfl) (fun _ hS => r_eqlF rfl rfl (by omega)) trivial ?_
    refine t_take 8 rfl (by kernel_rfl) (by kernel_rfl) (by kernel_rfl) rfl (fun _ _ _ _ h => h) rfl (fun _ hS => r_pkT (v := .bool _) rfl rfl) trivial ?_
    refine t_take 9 rfl (by kernel_rfl) (by kernel_rfl) (by kernel_rfl) rfl (fun _ _ _ _ h => h) rfl (fun _ hS => r_as (v := .pointer _) rfl) trivial ?_
    refine t_up1 1 (by kernel_rfl) ?_
    refine up_mk rfl ?_
    refine s_run rfl rfl (r_la H 2 rfl rfl rfl ag55 sz55) ?_
    refine k_nil ?_
    refine t_on trivial ?_
    refine t_up1 10 (by kernel_rfl) ?_
    refine up_mk rfl ?_
    refine s_sw H 0 rfl rfl rfl rfl rfl rfl rfl sz55 ?_
    intro _ H'; simp only [List.set_cons_zero, List.set_cons_succ, List.take_succ_cons, List.take_zero, List.drop_succ_cons, List.drop_zero, List.cons_append, List.nil_append, List.append_nil, List.length_cons, List.length_nil, Nat.reduceAdd] at H'; clear H; have H := H'; clear H'
    refine k_nil ?_
    refine t_on trivial ?_
    refine t_take 11 rfl (by kernel_rfl) (by kernel_rfl) (by kernel_rfl) rfl (fun _ _ _ _ h => h) rfl (fun _ hS => r_as (v := .bool _) rfl) trivial ?_
    refine t_done (by kernel_rfl) ?_
    refine c_norm ?_
    refine k_ret ?_
    refine fx3r rfl (rv_t (v := .pointer _) rfl) (rv_a H 0 rfl rfl rfl ag55 sz55) (rv_t (v := .bool _) rfl) ?_
    exact ⟨_, _, rfl, grp_open (HB.whole H).drop.drop.drop⟩
theorem lDs7 (hk : k ≠ 0 ∧ k ≠ 1 ∧ k ≠ 2 ∧ k ≠ 3 ∧ k ≠ 4 ∧ k ≠ 5 ∧ k ≠ 6) (hE : Ents (devL g d) w) (hr : RefOk w (ids (devL g d)) s d2 m2) (ho : Nv.Ok d m) (hg : GOk g m) (hm : m ≤ 60000) (hm2 : m2 ≤ 60000) :
    Calls Try.prog 33 [ptr g.p, .agg (refCells s d2 m2).toArray, opV k a n v A nc cc].toArray w (DoPost2 g d d w) := by
  have H := grp_start hE
  rw [refE]
  unfold opV
  refine k_in (N := 113) Try.func33 rfl rfl rfl ?_
  refine k_seq ?_
  refine k_rg ?_
  refine s_box H rfl rfl ?_
  intro p4 _ H'; clear H; have H := H'; clear H'
  refine s_box H rfl rfl ?_
  intro p5 _ H'; clear H; have H := H'; clear H'
  refine s_run rfl rfl (r_as (v := .pointer _) rfl) ?_
  refine s_al H rfl inf55 ?_
  intro p7 _ H'; clear H; have H := H'; clear H'
  refine s_run rfl rfl (r_as (v := .bool _) rfl) ?_
  refine k_nil ?_
  refine c_norm ?_
  refine k_seq ?_
  refine k_rg ?_
  refine s_run rfl rfl (r_as (v := .int _ _) rfl) ?_
  refine s_run rfl rfl (r_as (v := .int _ _) rfl) ?_
  refine k_nil ?_
  refine c_norm ?_
  refine k_seq ?_
  refine k_seq ?_
  refine k_rg ?_
  refine s_run rfl rfl (r_fa0 rfl fo51_0) ?_
  refine s_run rfl rfl (r_lo H 1 rfl rfl rfl ag3) ?_
  refine k_nil ?_
  refine c_norm ?_
  refine k_b ?_
  refine k_seq ?_
  refine k_rg ?_
  refine s_run rfl rfl (r_eqlF rfl rfl (by omega)) ?_
  refine s_run rfl rfl (r_as (v := .bool _) rfl) ?_
  refine k_nil ?_
  refine c_norm ?_
  refine k_f rfl ?_
  refine k_seq ?_
  refine k_rg ?_
  refine s_run rfl rfl (r_eqlF rfl rfl (by omega)) ?_
  refine s_run rfl rfl (r_as (v := .bool _) rfl) ?_
  refine k_nil ?_
  refine c_norm ?_
  refine k_f rfl ?_
  refine k_seq ?_
  refine k_rg ?_
  refine s_run rfl rfl (r_eqlF rfl rfl (by omega)) ?_
  refine s_run rfl rfl (r_as (v := .bool _) rfl) ?_
  refine k_nil ?_
  refine c_norm ?_
  refine k_f rfl ?_
  refine k_seq ?_
  refine k_rg ?_
  refine s_run rfl rfl (r_eqlF rfl rfl (by omega)) ?_
  refine s_run rfl rfl (r_as (v := .bool _) rfl) ?_
  refine k_nil ?_
  refine c_norm ?_
  refine k_f rfl ?_
  refine k_seq ?_
  refine k_rg ?_
  refine s_run rfl rfl (r_eqlF rfl rfl (by omega)) ?_
  refine s_run rfl rfl (r_as (v := .bool _) rfl) ?_
  refine k_nil ?_
  refine c_norm ?_
  refine k_f rfl ?_
  refine k_seq ?_
  refine k_rg ?_
  refine s_run rfl rfl (r_eqlF rfl rfl (by omega)) ?_
  refine s_run rfl rfl (r_as (v := .bool _) rfl) ?_
  refine k_nil ?_
  refine c_norm ?_
  refine k_f rfl ?_
  refine k_seq ?_
  refine k_rg ?_
  refine s_run rfl rfl (r_eqlF rfl rfl (by omega)) ?_
  refine s_run rfl rfl (r_as (v := .bool _) rfl) ?_
  refine k_nil ?_
  refine c_norm ?_
  refine k_f rfl ?_
  refine k_seq ?_
  refine k_trF mixed ?_; have H' := H.drew; clear H; have H := H'; clear H'
  refine t_take 0 rfl (by kernel_rfl) (by kernel_rfl) (by kernel_rfl) rfl (fun _ _ _ _ h => h) rfl (fun _ hS => r_mv (v := .pointer _) rfl) trivial ?_
  refine t_take 2 rfl (by kernel_rfl) (by kernel_rfl) (by kernel_rfl) rfl (fun _ _ _ _ h => h) rfl (fun _ hS => r_as (v := .pointer _) rfl) trivial ?_
  refine t_up1 1 (by kernel_rfl) ?_
  refine up_mk rfl ?_
  refine s_run rfl rfl (r_la H 2 rfl rfl rfl ag55 sz55) ?_
  refine k_nil ?_
  refine t_on trivial ?_
  refine t_up1 3 (by kernel_rfl) ?_
  refine up_mk rfl ?_
  refine s_sw H 0 rfl rfl rfl rfl rfl rfl rfl sz55 ?_
  intro _ H'; simp only [List.set_cons_zero, List.set_cons_succ, List.take_succ_cons, List.take_zero, List.drop_succ_cons, List.drop_zero, List.cons_append, List.nil_append, List.append_nil, List.length_cons, List.length_nil, Nat.reduceAdd] at H'; clear H; have H := H'; clear H'
  refine k_nil ?_
  refine t_on trivial ?_
  refine t_take 4 rfl (by kernel_rfl) (by kernel_rfl) (by kernel_rfl) rfl (fun _ _ _ _ h => h) rfl (fun _ hS => r_as (v := .bool _) rfl) trivial ?_
  refine t_done (by kernel_rfl) ?_
  refine c_norm ?_
  refine k_ret ?_
  refine b_ret ?_
  refine c_ret ?_
  refine fx3r rfl (rv_t (v := .pointer _) rfl) (rv_a H 0 rfl rfl rfl ag55 sz55) (rv_t (v := .bool _) rfl) ?_
  exact ⟨_, _, rfl, grp_open H.drop.drop.drop⟩
end
end Go.Proofs.Ytmekhdclnhhhbaa
