/- One call at a device and at the document's one. -/
import Derived.Test.YtmekhdclnhhhbaaLw1
namespace Go.Proofs.Ytmekhdclnhhhbaa
open Go.RowKit
set_option linter.unusedSimpArgs false
set_option linter.unusedVariables false
theorem RefOk.at {w W : World} {L : List Ent} {F X : List Nat} {s : RefS} {d : Nv.D} {m : Nat} (hr : RefOk w (F ++ X) s d m) (H : Heap w F L W) : RefOk W ((F ++ X) ++ ids L) s d m :=
  (hr.news (G := (F ++ X) ++ ids L) (fun i hi => by
    rcases List.mem_append.1 hi with h | h
    · exact .inl h
    · rcases H.own i h with h | h
      · exact .inl (List.mem_append_left _ h)
      · exact .inr h)).later H.only (fun _ h => List.mem_append_left _ (List.mem_append_left _ h))
theorem Heap.fl {w W : World} {L : List Ent} {F G : List Nat} (H : Heap w F L W) (hG : ∀ i ∈ G, i < w.heap.size) : ∀ i ∈ G ++ ids L, i < W.heap.size := by
  intro i hi
  rcases List.mem_append.1 hi with h | h
  · exact Nat.lt_of_lt_of_le (hG i h) H.only.size
  · exact H.idlt i h
theorem grp_in {A : List Ent} {L : List Ent} {F X : List Nat} (k : Nat) (hk : L[k]? = some (grp A)) : ∀ i ∈ ids A ++ X, i ∈ (F ++ X) ++ ids L := fun i hi => by
  rcases List.mem_append.1 hi with h | h
  · exact List.mem_append_right _ (mem_ids.2 ⟨_, List.mem_of_getElem? hk, h⟩)
  · exact List.mem_append_left _ (List.mem_append_right _ h)
/-- what a call makes of a device -/
def doD (d : Nv.D) (m : Nat) (k a n v : Int) (cs : List Int) : Nv.D :=
  if k = 0 then (Nv.store d m a v).1 else if k = 1 then (Nv.flush d m a).1 else if k = 2 then (Nv.fence d m).1 else if k = 3 then (Nv.evict d m a).1
  else if k = 4 then (Nv.persist d m a n).1 else if k = 5 then Nv.arm d n else if k = 6 then Nv.load (Nv.crashTo d (Nv.dirtyTo d.dirty m) cs (Nv.dirtyTo d.dirty m).length) m else d
def opV (k a n v : Int) (A : Option Addr) (nc cc : Nat) : Value := .agg [.int .i64 k, .int .i64 a, .int .i64 n, .int .u64 v, .slice A nc cc].toArray
def DoPost (g : Geo) (d : Nv.D) (m : Nat) (X : List Nat) (d' : Nv.D) (w : World) (e : Ending) (w' : World) : Prop :=
  ∃ g' s', e = .returned (.tuple #[ptr g'.p, .agg (refCells s' d' m).toArray, .bool true]) ∧ Heap w (ids (devL g d)) (devL g' d') w' ∧ RefOk w' (ids (devL g' d') ++ X) s' d' m ∧ GOk g' m
section
variable (g : Geo) (d : Nv.D) (s : RefS) (m : Nat) (k a n v : Int) (A : Option Addr) (nc cc : Nat) (cs : List Int) (X : List Nat) (w : World)

theorem lDo0 (hk : k = 0) (hE : Ents (devL g d) w) (hr : RefOk w (ids (devL g d) ++ X) s d m) (hX : ∀ i ∈ X, i < w.heap.size) (hg : GOk g m) (hm : m ≤ 60000) :
    Calls Try.prog 33 [ptr g.p, .agg (refCells s d m).toArray, opV k a n v A nc cc].toArray w (DoPost g d m X (Nv.store d m a v).1 w) := by
  subst hk
  have hF : ∀ i ∈ ids (devL g d) ++ X, i < w.heap.size := fun i hi => (List.mem_append.1 hi).elim ((Heap.start hE).idlt i) (hX i)
  have ho := hr.ok
  have H := grp_start hE
  rw [refE]
  unfold opV
  refine k_in (N := 113) Try.func33 rfl rfl rfl ?_
  refine k_seq ?_
  refine k_rg ?_
  refine s_box H rfl rfl ?_
  intro p4 _ H'; clear H; have H := H'; clear H'
  refine s_box H rfl rfl ?_
  intro p5 _ H'; clear H; have H := H'; clear H'
  refine s_run rfl rfl (r_as (v := .pointer _) rfl) ?_
  refine s_al H rfl inf55 ?_
  intro p7 _ H'; clear H; have H := H'; clear H'
  refine s_run rfl rfl (r_as (v := .bool _) rfl) ?_
  refine k_nil ?_
  refine c_norm ?_
  refine k_seq ?_
  refine k_rg ?_
  refine s_run rfl rfl (r_as (v := .int _ _) rfl) ?_
  refine s_run rfl rfl (r_as (v := .int _ _) rfl) ?_
  refine k_nil ?_
  refine c_norm ?_
  refine k_seq ?_
  refine k_seq ?_
  refine k_rg ?_
  refine s_run rfl rfl (r_fa0 rfl fo51_0) ?_
  refine s_run rfl rfl (r_lo H 1 rfl rfl rfl ag3) ?_
  refine k_nil ?_
  refine c_norm ?_
  refine k_b ?_
  refine k_seq ?_
  refine k_rg ?_
  refine s_run rfl rfl (r_eqlT rfl rfl (by omega)) ?_
  refine s_run rfl rfl (r_as (v := .bool _) rfl) ?_
  refine k_nil ?_
  refine c_norm ?_
  refine k_t rfl ?_
  refine k_seq ?_
  refine k_rg ?_
  refine s_run rfl rfl (r_mv (v := .pointer _) rfl) ?_
  refine s_run rfl rfl (r_fa0 rfl fo51_1) ?_
  refine s_run rfl rfl (r_lo H 1 rfl rfl rfl ag3) ?_
  refine s_run rfl rfl (r_fa0 rfl fo51_3) ?_
  refine s_run rfl rfl (r_lo H 1 rfl rfl rfl ag22) ?_
  refine s_call rfl (nStore g d m a v _ (H.grp_ents 3 rfl) ho (by omega)) (ca30 rfl) ?_
  rintro e W1 ⟨rfl, H'⟩
  refine ⟨_, rfl, ?_⟩
  have H1 := H.grp_at 3 rfl H'; clear H H'; have H := H1; clear H1; simp only [List.set_cons_succ, List.set_cons_zero] at H
  refine s_run rfl rfl (r_as (v := .int _ _) rfl) ?_
  refine k_nil ?_
  refine c_norm ?_
  refine k_rg ?_
  refine s_run rfl rfl (r_la H 2 rfl rfl rfl ag55 sz55) ?_
  refine s_run rfl rfl (r_fa0 rfl fo51_1) ?_
  refine s_run rfl rfl (r_lo H 1 rfl rfl rfl ag3) ?_
  refine s_run rfl rfl (r_fa0 rfl fo51_3) ?_
  refine s_run rfl rfl (r_lo H 1 rfl rfl rfl ag22) ?_
  refine s_call rfl (rStore s d m a v _ _ (hr.at H) (H.fl hF) (by omega)) (ca71 rfl) ?_
  rintro e W1 ⟨s2, rfl, H', hr'⟩
  refine ⟨_, rfl, ?_⟩
  have H := H.same H'.only; clear H'; simp only [refE]; have HB := H; clear H; have H := Heap.start HB.ents
  refine s_run rfl rfl (r_mv (v := .tuple _) rfl) ?_
  refine s_run rfl rfl (r_ext (v := .agg _) rfl rfl) ?_
  refine s_run rfl rfl (r_ext (v := .int _ _) rfl rfl) ?_
  refine s_sw H 2 rfl rfl rfl rfl rfl rfl rfl sz55 ?_
  intro _ H'; simp only [List.set_cons_zero, List.set_cons_succ, List.take_succ_cons, List.take_zero, List.drop_succ_cons, List.drop_zero, List.cons_append, List.nil_append, List.append_nil, List.length_cons, List.length_nil, Nat.reduceAdd] at H'; clear H; have H := H'; clear H'
  refine s_run rfl rfl (r_as (v := .int _ _) rfl) ?_
  refine k_nil ?_
  refine b_norm ?_
  refine c_norm ?_
  refine k_seq ?_
  refine k_trF mixed ?_; have H' := H.drew; clear H; have H := H'; clear H'
  refine t_take 0 rfl (by kernel_rfl) (by kernel_rfl) (by kernel_rfl) rfl (fun _ _ _ _ h => h) rfl (fun _ hS => r_mv (v := .pointer _) rfl) trivial ?_
  refine t_take 2 rfl (by kernel_rfl) (by kernel_rfl) (by kernel_rfl) rfl (fun _ _ _ _ h => h) rfl (fun _ hS => r_mv (v := .pointer _) rfl) trivial ?_
  refine t_take 3 rfl (by kernel_rfl) (by kernel_rfl) (by kernel_rfl) rfl (fun _ _ _ _ h => h) rfl (fun _ hS => r_ptnnilT rfl rfl Try.underlying26) trivial ?_
  refine t_take 4 rfl (by kernel_rfl) (by kernel_rfl) (by kernel_rfl) rfl (fun _ _ _ _ h => h) rfl (fun _ hS => r_mv (v := .bool _) rfl) trivial ?_
  refine t_take 5 rfl (by kernel_rfl) (by kernel_rfl) (by kernel_rfl) rfl (fun _ _ _ _ h => h) (g_on 108 (by kernel_rfl) rfl) (fun _ hS => r_mv (v := .int _ _) rfl) trivial ?_
  refine t_take 6 rfl (by kernel_rfl) (by kernel_rfl) (by kernel_rfl) rfl (fun _ _ _ _ h => h) (g_on 108 (by kernel_rfl) rfl) (fun _ hS => r_mv (v := .int _ _) rfl) trivial ?_
  refine t_take 7 rfl (by kernel_rfl) (by kernel_rfl) (by kernel_rfl) rfl (fun _ _ _ _ h => h) (g_on 108 (by kernel_rfl) rfl) (fun _ hS => r_eqlT rfl rfl (by omega)) trivial ?_
  refine t_take 8 rfl (by kernel_rfl) (by kernel_rfl) (by kernel_rfl) rfl (fun _ _ _ _ h => h) rfl (fun _ hS => r_pkT (v := .bool _) rfl rfl) trivial ?_
  refine t_take 9 rfl (by kernel_rfl) (by kernel_rfl) (by kernel_rfl) rfl (fun _ _ _ _ h => h) rfl (fun _ hS => r_as (v := .pointer _) rfl) trivial ?_
  refine t_up1 1 (by kernel_rfl) ?_
  refine up_mk rfl ?_
  refine s_run rfl rfl (r_la H 2 rfl rfl rfl ag55 sz55) ?_
  refine k_nil ?_
  refine t_on trivial ?_
  refine t_up1 10 (by kernel_rfl) ?_
  refine up_mk rfl ?_
  refine s_sw H 0 rfl rfl rfl rfl rfl rfl rfl sz55 ?_
  intro _ H'; simp only [List.set_cons_zero, List.set_cons_succ, List.take_succ_cons, List.take_zero, List.drop_succ_cons, List.drop_zero, List.cons_append, List.nil_append, List.append_nil, List.length_cons, List.length_nil, Nat.reduceAdd] at H'; clear H; have H := H'; clear H'
  refine k_nil ?_
  refine t_on trivial ?_
  refine t_take 11 rfl (by kernel_rfl) (by kernel_rfl) (by kernel_rfl) rfl (fun _ _ _ _ h => h) rfl (fun _ hS => r_as (v := .bool _) rfl) trivial ?_
  refine t_done (by kernel_rfl) ?_
  refine c_norm ?_
  refine k_ret ?_
  refine fx3r rfl (rv_t (v := .pointer _) rfl) (rv_a H 0 rfl rfl rfl ag55 sz55) (rv_t (v := .bool _) rfl) ?_
  exact ⟨g, s2, rfl, grp_open (HB.whole H).drop.drop.drop, (hr'.later H.only (fun _ h => List.mem_append_right _ h)).news (fun i hi => .inl (grp_in 3 rfl i hi)), hg⟩
theorem lDo1 (hk : k = 1) (hE : Ents (devL g d) w) (hr : RefOk w (ids (devL g d) ++ X) s d m) (hX : ∀ i ∈ X, i < w.heap.size) (hg : GOk g m) (hm : m ≤ 60000) :
    Calls Try.prog 33 [ptr g.p, .agg (refCells s d m).toArray, opV k a n v A nc cc].toArray w (DoPost g d m X (Nv.flush d m a).1 w) := by
  subst hk
  have hF : ∀ i ∈ ids (devL g d) ++ X, i < w.heap.size := fun i hi => (List.mem_append.1 hi).elim ((Heap.start hE).idlt i) (hX i)
  have ho := hr.ok
  have H := grp_start hE
  rw [refE]
  unfold opV
  refine k_in (N := 113) Try.func33 rfl rfl rfl ?_
  refine k_seq ?_
  refine k_rg ?_
  refine s_box H rfl rfl ?_
  intro p4 _ H'; clear H; have H := H'; clear H'
  refine s_box H rfl rfl ?_
  intro p5 _ H'; clear H; have H := H'; clear H'
  refine s_run rfl rfl (r_as (v := .pointer _) rfl) ?_
  refine s_al H rfl inf55 ?_
  intro p7 _ H'; clear H; have H := H'; clear H'
  refine s_run rfl rfl (r_as (v := .bool _) rfl) ?_
  refine k_nil ?_
  refine c_norm ?_
  refine k_seq ?_
  refine k_rg ?_
  refine s_run rfl rfl (r_as (v := .int _ _) rfl) ?_
  refine s_run rfl rfl (r_as (v := .int _ _) rfl) ?_
  refine k_nil ?_
  refine c_norm ?_
  refine k_seq ?_
  refine k_seq ?_
  refine k_rg ?_
  refine s_run rfl rfl (r_fa0 rfl fo51_0) ?_
  refine s_run rfl rfl (r_lo H 1 rfl rfl rfl ag3) ?_
  refine k_nil ?_
  refine c_norm ?_
  refine k_b ?_
  refine k_seq ?_
  refine k_rg ?_
  refine s_run rfl rfl (r_eqlF rfl rfl (by omega)) ?_
  refine s_run rfl rfl (r_as (v := .bool _) rfl) ?_
  refine k_nil ?_
  refine c_norm ?_
  refine k_f rfl ?_
  refine k_seq ?_
  refine k_rg ?_
  refine s_run rfl rfl (r_eqlT rfl rfl (by omega)) ?_
  refine s_run rfl rfl (r_as (v := .bool _) rfl) ?_
  refine k_nil ?_
  refine c_norm ?_
  refine k_t rfl ?_
  refine k_seq ?_
  refine k_rg ?_
  refine s_run rfl rfl (r_mv (v := .pointer _) rfl) ?_
  refine s_run rfl rfl (r_fa0 rfl fo51_1) ?_
  refine s_run rfl rfl (r_lo H 1 rfl rfl rfl ag3) ?_
  refine s_call rfl (nFlush g d m a _ (H.grp_ents 3 rfl) ho hg (by omega)) (ca49 rfl) ?_
  rintro e W1 ⟨rfl, H'⟩
  refine ⟨_, rfl, ?_⟩
  have H1 := H.grp_at 3 rfl H'; clear H H'; have H := H1; clear H1; simp only [List.set_cons_succ, List.set_cons_zero] at H
  refine s_run rfl rfl (r_as (v := .int _ _) rfl) ?_
  refine k_nil ?_
  refine c_norm ?_
  refine k_rg ?_
  refine s_run rfl rfl (r_la H 2 rfl rfl rfl ag55 sz55) ?_
  refine s_run rfl rfl (r_fa0 rfl fo51_1) ?_
  refine s_run rfl rfl (r_lo H 1 rfl rfl rfl ag3) ?_
  refine s_call rfl (rFlush s d m a _ _ (hr.at H) (H.fl hF) (by omega)) (ca72 rfl) ?_
  rintro e W1 ⟨s2, rfl, H', hr'⟩
  refine ⟨_, rfl, ?_⟩
  have H := H.same H'.only; clear H'; simp only [refE]; have HB := H; clear H; have H := Heap.start HB.ents
  refine s_run rfl rfl (r_mv (v := .tuple _) rfl) ?_
  refine s_run rfl rfl (r_ext (v := .agg _) rfl rfl) ?_
  refine s_run rfl rfl (r_ext (v := .int _ _) rfl rfl) ?_
  refine s_sw H 2 rfl rfl rfl rfl rfl rfl rfl sz55 ?_
  intro _ H'; simp only [List.set_cons_zero, List.set_cons_succ, List.take_succ_cons, List.take_zero, List.drop_succ_cons, List.drop_zero, List.cons_append, List.nil_append, List.append_nil, List.length_cons, List.length_nil, Nat.reduceAdd] at H'; clear H; have H := H'; clear H'
  refine s_run rfl rfl (r_as (v := .int _ _) rfl) ?_
  refine k_nil ?_
  refine b_norm ?_
  refine c_norm ?_
  refine k_seq ?_
  refine k_trF mixed ?_; have H' := H.drew; clear H; have H := H'; clear H'
  refine t_take 0 rfl (by kernel_rfl) (by kernel_rfl) (by kernel_rfl) rfl (fun _ _ _ _ h => h) rfl (fun _ hS => r_mv (v := .pointer _) rfl) trivial ?_
  refine t_take 2 rfl (by kernel_rfl) (by kernel_rfl) (by kernel_rfl) rfl (fun _ _ _ _ h => h) rfl (fun _ hS => r_mv (v := .pointer _) rfl) trivial ?_
  refine t_take 3 rfl (by kernel_rfl) (by kernel_rfl) (by kernel_rfl) rfl (fun _ _ _ _ h => h) rfl (fun _ hS => r_ptnnilT rfl rfl Try.underlying26) trivial ?_
  refine t_take 4 rfl (by kernel_rfl) (by kernel_rfl) (by kernel_rfl) rfl (fun _ _ _ _ h => h) rfl (fun _ hS => r_mv (v := .bool _) rfl) trivial ?_
  refine t_take 5 rfl (by kernel_rfl) (by kernel_rfl) (by kernel_rfl) rfl (fun _ _ _ _ h => h) (g_on 108 (by kernel_rfl) rfl) (fun _ hS => r_mv (v := .int _ _) rfl) trivial ?_
  refine t_take 6 rfl (by kernel_rfl) (by kernel_rfl) (by kernel_rfl) rfl (fun _ _ _ _ h => h) (g_on 108 (by kernel_rfl) rfl) (fun _ hS => r_mv (v := .int _ _) rfl) trivial ?_
  refine t_take 7 rfl (by kernel_rfl) (by kernel_rfl) (by kernel_rfl) rfl (fun _ _ _ _ h => h) (g_on 108 (by kernel_rfl) rfl) (fun _ hS => r_eqlT rfl rfl (by omega)) trivial ?_
  refine t_take 8 rfl (by kernel_rfl) (by kernel_rfl) (by kernel_rfl) rfl (fun _ _ _ _ h => h) rfl (fun _ hS => r_pkT (v := .bool _) rfl rfl) trivial ?_
  refine t_take 9 rfl (by kernel_rfl) (by kernel_rfl) (by kernel_rfl) rfl (fun _ _ _ _ h => h) rfl (fun _ hS => r_as (v := .pointer _) rfl) trivial ?_
  refine t_up1 1 (by kernel_rfl) ?_
  refine up_mk rfl ?_
  refine s_run rfl rfl (r_la H 2 rfl rfl rfl ag55 sz55) ?_
  refine k_nil ?_
  refine t_on trivial ?_
  refine t_up1 10 (by kernel_rfl) ?_
  refine up_mk rfl ?_
  refine s_sw H 0 rfl rfl rfl rfl rfl rfl rfl sz55 ?_
  intro _ H'; simp only [List.set_cons_zero, List.set_cons_succ, List.take_succ_cons, List.take_zero, List.drop_succ_cons, List.drop_zero, List.cons_append, List.nil_append, List.append_nil, List.length_cons, List.length_nil, Nat.reduceAdd] at H'; clear H; have H := H'; clear H'
  refine k_nil ?_
  refine t_on trivial ?_
  refine t_take 11 rfl (by kernel_rfl) (by kernel_rfl) (by kernel_rfl) rfl (fun _ _ _ _ h => h) rfl (fun _ hS => r_as (v := .bool _) rfl) trivial ?_
  refine t_done (by kernel_rfl) ?_
  refine c_norm ?_
  refine k_ret ?_
  refine fx3r rfl (rv_t (v := .pointer _) rfl) (rv_a H 0 rfl rfl rfl ag55 sz55) (rv_t (v := .bool _) rfl) ?_
  exact ⟨g, s2, rfl, grp_open (HB.whole H).drop.drop.drop, (hr'.later H.only (fun _ h => List.mem_append_right _ h)).news (fun i hi => .inl (grp_in 3 rfl i hi)), hg⟩
theorem lDo2 (hk : k = 2) (hE : Ents (devL g d) w) (hr : RefOk w (ids (devL g d) ++ X) s d m) (hX : ∀ i ∈ X, i < w.heap.size) (hg : GOk g m) (hm : m ≤ 60000) :
    Calls Try.prog 33 [ptr g.p, .agg (refCells s d m).toArray, opV k a n v A nc cc].toArray w (DoPost g d m X (Nv.fence d m).1 w) := by
  subst hk
  have hF : ∀ i ∈ ids (devL g d) ++ X, i < w.heap.size := fun i hi => (List.mem_append.1 hi).elim ((Heap.start hE).idlt i) (hX i)
  have ho := hr.ok
  have H := grp_start hE
  rw [refE]
  unfold opV
  refine k_in (N := 113) Try.func33 rfl rfl rfl ?_
  refine k_seq ?_
  refine k_rg ?_
  refine s_box H rfl rfl ?_
  intro p4 _ H'; clear H; have H := H'; clear H'
  refine s_box H rfl rfl ?_
  intro p5 _ H'; clear H; have H := H'; clear H'
  refine s_run rfl rfl (r_as (v := .pointer _) rfl) ?_
  refine s_al H rfl inf55 ?_
  intro p7 _ H'; clear H; have H := H'; clear H'
  refine s_run rfl rfl (r_as (v := .bool _) rfl) ?_
  refine k_nil ?_
  refine c_norm ?_
  refine k_seq ?_
  refine k_rg ?_
  refine s_run rfl rfl (r_as (v := .int _ _) rfl) ?_
  refine s_run rfl rfl (r_as (v := .int _ _) rfl) ?_
  refine k_nil ?_
  refine c_norm ?_
  refine k_seq ?_
  refine k_seq ?_
  refine k_rg ?_
  refine s_run rfl rfl (r_fa0 rfl fo51_0) ?_
  refine s_run rfl rfl (r_lo H 1 rfl rfl rfl ag3) ?_
  refine k_nil ?_
  refine c_norm ?_
  refine k_b ?_
  refine k_seq ?_
  refine k_rg ?_
  refine s_run rfl rfl (r_eqlF rfl rfl (by omega)) ?_
  refine s_run rfl rfl (r_as (v := .bool _) rfl) ?_
  refine k_nil ?_
  refine c_norm ?_
  refine k_f rfl ?_
  refine k_seq ?_
  refine k_rg ?_
  refine s_run rfl rfl (r_eqlF rfl rfl (by omega)) ?_
  refine s_run rfl rfl (r_as (v := .bool _) rfl) ?_
  refine k_nil ?_
  refine c_norm ?_
  refine k_f rfl ?_
  refine k_seq ?_
  refine k_rg ?_
  refine s_run rfl rfl (r_eqlT rfl rfl (by omega)) ?_
  refine s_run rfl rfl (r_as (v := .bool _) rfl) ?_
  refine k_nil ?_
  refine c_norm ?_
  refine k_t rfl ?_
  refine k_seq ?_
  refine k_rg ?_
  refine s_run rfl rfl (r_mv (v := .pointer _) rfl) ?_
  refine s_call rfl (nFence g d m _ (H.grp_ents 3 rfl) ho hg (by omega)) (ca35 rfl) ?_
  rintro e W1 ⟨rfl, H'⟩
  refine ⟨_, rfl, ?_⟩
  have H1 := H.grp_at 3 rfl H'; clear H H'; have H := H1; clear H1; simp only [List.set_cons_succ, List.set_cons_zero] at H
  refine s_run rfl rfl (r_as (v := .int _ _) rfl) ?_
  refine k_nil ?_
  refine c_norm ?_
  refine k_rg ?_
  refine s_run rfl rfl (r_la H 2 rfl rfl rfl ag55 sz55) ?_
  refine s_call rfl (rFence s d m _ _ (hr.at H) (H.fl hF) (by omega)) (ca73 rfl) ?_
  rintro e W1 ⟨s2, rfl, H', hr'⟩
  refine ⟨_, rfl, ?_⟩
  have H := H.same H'.only; clear H'; simp only [refE]; have HB := H; clear H; have H := Heap.start HB.ents
  refine s_run rfl rfl (r_mv (v := .tuple _) rfl) ?_
  refine s_run rfl rfl (r_ext (v := .agg _) rfl rfl) ?_
  refine s_run rfl rfl (r_ext (v := .int _ _) rfl rfl) ?_
  refine s_sw H 2 rfl rfl rfl rfl rfl rfl rfl sz55 ?_
  intro _ H'; simp only [List.set_cons_zero, List.set_cons_succ, List.take_succ_cons, List.take_zero, List.drop_succ_cons, List.drop_zero, List.cons_append, List.nil_append, List.append_nil, List.length_cons, List.length_nil, Nat.reduceAdd] at H'; clear H; have H := H'; clear H'
  refine s_run rfl rfl (r_as (v := .int _ _) rfl) ?_
  refine k_nil ?_
  refine b_norm ?_
  refine c_norm ?_
  refine k_seq ?_
  refine k_trF mixed ?_; have H' := H.drew; clear H; have H := H'; clear H'
  refine t_take 0 rfl (by kernel_rfl) (by kernel_rfl) (by kernel_rfl) rfl (fun _ _ _ _ h => h) rfl (fun _ hS => r_mv (v := .pointer _) rfl) trivial ?_
  refine t_take 2 rfl (by kernel_rfl) (by kernel_rfl) (by kernel_rfl) rfl (fun _ _ _ _ h => h) rfl (fun _ hS => r_mv (v := .pointer _) rfl) trivial ?_
  refine t_take 3 rfl (by kernel_rfl) (by kernel_rfl) (by kernel_rfl) rfl (fun _ _ _ _ h => h) rfl (fun _ hS => r_ptnnilT rfl rfl Try.underlying26) trivial ?_
  refine t_take 4 rfl (by kernel_rfl) (by kernel_rfl) (by kernel_rfl) rfl (fun _ _ _ _ h => h) rfl (fun _ hS => r_mv (v := .bool _) rfl) trivial ?_
  refine t_take 5 rfl (by kernel_rfl) (by kernel_rfl) (by kernel_rfl) rfl (fun _ _ _ _ h => h) (g_on 108 (by kernel_rfl) rfl) (fun _ hS => r_mv (v := .int _ _) rfl) trivial ?_
  refine t_take 6 rfl (by kernel_rfl) (by kernel_rfl) (by kernel_rfl) rfl (fun _ _ _ _ h => h) (g_on 108 (by kernel_rfl) rfl) (fun _ hS => r_mv (v := .int _ _) rfl) trivial ?_
  refine t_take 7 rfl (by kernel_rfl) (by kernel_rfl) (by kernel_rfl) rfl (fun _ _ _ _ h => h) (g_on 108 (by kernel_rfl) rfl) (fun _ hS => r_eqlT rfl rfl (by omega)) trivial ?_
  refine t_take 8 rfl (by kernel_rfl) (by kernel_rfl) (by kernel_rfl) rfl (fun _ _ _ _ h => h) rfl (fun _ hS => r_pkT (v := .bool _) rfl rfl) trivial ?_
  refine t_take 9 rfl (by kernel_rfl) (by kernel_rfl) (by kernel_rfl) rfl (fun _ _ _ _ h => h) rfl (fun _ hS => r_as (v := .pointer _) rfl) trivial ?_
  refine t_up1 1 (by kernel_rfl) ?_
  refine up_mk rfl ?_
  refine s_run rfl rfl (r_la H 2 rfl rfl rfl ag55 sz55) ?_
  refine k_nil ?_
  refine t_on trivial ?_
  refine t_up1 10 (by kernel_rfl) ?_
  refine up_mk rfl ?_
  refine s_sw H 0 rfl rfl rfl rfl rfl rfl rfl sz55 ?_
  intro _ H'; simp only [List.set_cons_zero, List.set_cons_succ, List.take_succ_cons, List.take_zero, List.drop_succ_cons, List.drop_zero, List.cons_append, List.nil_append, List.append_nil, List.length_cons, List.length_nil, Nat.reduceAdd] at H'; clear H; have H := H'; clear H'
  refine k_nil ?_
  refine t_on trivial ?_
  refine t_take 11 rfl (by kernel_rfl) (by kernel_rfl) (by kernel_rfl) rfl (fun _ _ _ _ h => h) rfl (fun _ hS => r_as (v := .bool _) rfl) trivial ?_
  refine t_done (by kernel_rfl) ?_
  refine c_norm ?_
  refine k_ret ?_
  refine fx3r rfl (rv_t (v := .pointer _) rfl) (rv_a H 0 rfl rfl rfl ag55 sz55) (rv_t (v := .bool _) rfl) ?_
  exact ⟨g, s2, rfl, grp_open (HB.whole H).drop.drop.drop, (hr'.later H.only (fun _ h => List.mem_append_right _ h)).news (fun i hi => .inl (grp_in 3 rfl i hi)), hg⟩
theorem lDo3 (hk : k = 3) (hE : Ents (devL g d) w) (hr : RefOk w (ids (devL g d) ++ X) s d m) (hX : ∀ i ∈ X, i < w.heap.size) (hg : GOk g m) (hm : m ≤ 60000) :
    Calls Try.prog 33 [ptr g.p, .agg (refCells s d m).toArray, opV k a n v A nc cc].toArray w (DoPost g d m X (Nv.evict d m a).1 w) := by
  subst hk
  have hF : ∀ i ∈ ids (devL g d) ++ X, i < w.heap.size := fun i hi => (List.mem_append.1 hi).elim ((Heap.start hE).idlt i) (hX i)
  have ho := hr.ok
  have H := grp_start hE
  rw [refE]
  unfold opV
  refine k_in (N := 113) Try.func33 rfl rfl rfl ?_
  refine k_seq ?_
  refine k_rg ?_
  refine s_box H rfl rfl ?_
  intro p4 _ H'; clear H; have H := H'; clear H'
  refine s_box H rfl rfl ?_
  intro p5 _ H'; clear H; have H := H'; clear H'
  refine s_run rfl rfl (r_as (v := .pointer _) rfl) ?_
  refine s_al H rfl inf55 ?_
  intro p7 _ H'; clear H; have H := H'; clear H'
  refine s_run rfl rfl (r_as (v := .bool _) rfl) ?_
  refine k_nil ?_
  refine c_norm ?_
  refine k_seq ?_
  refine k_rg ?_
  refine s_run rfl rfl (r_as (v := .int _ _) rfl) ?_
  refine s_run rfl rfl (r_as (v := .int _ _) rfl) ?_
  refine k_nil ?_
  refine c_norm ?_
  refine k_seq ?_
  refine k_seq ?_
  refine k_rg ?_
  refine s_run rfl rfl (r_fa0 rfl fo51_0) ?_
  refine s_run rfl rfl (r_lo H 1 rfl rfl rfl ag3) ?_
  refine k_nil ?_
  refine c_norm ?_
  refine k_b ?_
  refine k_seq ?_
  refine k_rg ?_
  refine s_run rfl rfl (r_eqlF rfl rfl (by omega)) ?_
  refine s_run rfl rfl (r_as (v := .bool _) rfl) ?_
  refine k_nil ?_
  refine c_norm ?_
  refine k_f rfl ?_
  refine k_seq ?_
  refine k_rg ?_
  refine s_run rfl rfl (r_eqlF rfl rfl (by omega)) ?_
  refine s_run rfl rfl (r_as (v := .bool _) rfl) ?_
  refine k_nil ?_
  refine c_norm ?_
  refine k_f rfl ?_
  refine k_seq ?_
  refine k_rg ?_
  refine s_run rfl rfl (r_eqlF rfl rfl (by omega)) ?_
  refine s_run rfl rfl (r_as (v := .bool _) rfl) ?_
  refine k_nil ?_
  refine c_norm ?_
  refine k_f rfl ?_
  refine k_seq ?_
  refine k_rg ?_
  refine s_run rfl rfl (r_eqlT rfl rfl (by omega)) ?_
  refine s_run rfl rfl (r_as (v := .bool _) rfl) ?_
  refine k_nil ?_
  refine c_norm ?_
  refine k_t rfl ?_
  refine k_seq ?_
  refine k_rg ?_
  refine s_run rfl rfl (r_mv (v := .pointer _) rfl) ?_
  refine s_run rfl rfl (r_fa0 rfl fo51_1) ?_
  refine s_run rfl rfl (r_lo H 1 rfl rfl rfl ag3) ?_
  refine s_call rfl (nEvict g d m a _ (H.grp_ents 3 rfl) ho hg (by omega)) (ca50 rfl) ?_
  rintro e W1 ⟨rfl, H'⟩
  refine ⟨_, rfl, ?_⟩
  have H1 := H.grp_at 3 rfl H'; clear H H'; have H := H1; clear H1; simp only [List.set_cons_succ, List.set_cons_zero] at H
  refine s_run rfl rfl (r_as (v := .int _ _) rfl) ?_
  refine k_nil ?_
  refine c_norm ?_
  refine k_rg ?_
  refine s_run rfl rfl (r_la H 2 rfl rfl rfl ag55 sz55) ?_
  refine s_run rfl rfl (r_fa0 rfl fo51_1) ?_
  refine s_run rfl rfl (r_lo H 1 rfl rfl rfl ag3) ?_
  refine s_call rfl (rEvict s d m a _ _ (hr.at H) (H.fl hF) (by omega)) (ca74 rfl) ?_
  rintro e W1 ⟨s2, rfl, H', hr'⟩
  refine ⟨_, rfl, ?_⟩
  have H := H.same H'.only; clear H'; simp only [refE]; have HB := H; clear H; have H := Heap.start HB.ents
  refine s_run rfl rfl (r_mv (v := .tuple _) rfl) ?_
  refine s_run rfl rfl (r_ext (v := .agg _) rfl rfl) ?_
  refine s_run rfl rfl (r_ext (v := .int _ _) rfl rfl) ?_
  refine s_sw H 2 rfl rfl rfl rfl rfl rfl rfl sz55 ?_
  intro _ H'; simp only [List.set_cons_zero, List.set_cons_succ, List.take_succ_cons, List.take_zero, List.drop_succ_cons, List.drop_zero, List.cons_append, List.nil_append, List.append_nil, List.length_cons, List.length_nil, Nat.reduceAdd] at H'; clear H; have H := H'; clear H'
  refine s_run rfl rfl (r_as (v := .int _ _) rfl) ?_
  refine k_nil ?_
  refine b_norm ?_
  refine c_norm ?_
  refine k_seq ?_
  refine k_trF mixed ?_; have H' := H.drew; clear H; have H := H'; clear H'
  refine t_take 0 rfl (by kernel_rfl) (by kernel_rfl) (by kernel_rfl) rfl (fun _ _ _ _ h => h) rfl (fun _ hS => r_mv (v := .pointer _) rfl) trivial ?_
  refine t_take 2 rfl (by kernel_rfl) (by kernel_rfl) (by kernel_rfl) rfl (fun _ _ _ _ h => h) rfl (fun _ hS => r_mv (v := .pointer _) rfl) trivial ?_
  refine t_take 3 rfl (by kernel_rfl) (by kernel_rfl) (by kernel_rfl) rfl (fun _ _ _ _ h => h) rfl (fun _ hS => r_ptnnilT rfl rfl Try.underlying26) trivial ?_
  refine t_take 4 rfl (by kernel_rfl) (by kernel_rfl) (by kernel_rfl) rfl (fun _ _ _ _ h => h) rfl (fun _ hS => r_mv (v := .bool _) rfl) trivial ?_
  refine t_take 5 rfl (by kernel_rfl) (by kernel_rfl) (by kernel_rfl) rfl (fun _ _ _ _ h => h) (g_on 108 (by kernel_rfl) rfl) (fun _ hS => r_mv (v := .int _ _) rfl) trivial ?_
  refine t_take 6 rfl (by kernel_rfl) (by kernel_rfl) (by kernel_rfl) rfl (fun _ _ _ _ h => h) (g_on 108 (by kernel_rfl) rfl) (fun _ hS => r_mv (v := .int _ _) rfl) trivial ?_
  refine t_take 7 rfl (by kernel_rfl) (by kernel_rfl) (by kernel_rfl) rfl (fun _ _ _ _ h => h) (g_on 108 (by kernel_rfl) rfl) (fun _ hS => r_eqlT rfl rfl (by omega)) trivial ?_
  refine t_take 8 rfl (by kernel_rfl) (by kernel_rfl) (by kernel_rfl) rfl (fun _ _ _ _ h => h) rfl (fun _ hS => r_pkT (v := .bool _) rfl rfl) trivial ?_
  refine t_take 9 rfl (by kernel_rfl) (by kernel_rfl) (by kernel_rfl) rfl (fun _ _ _ _ h => h) rfl (fun _ hS => r_as (v := .pointer _) rfl) trivial ?_
  refine t_up1 1 (by kernel_rfl) ?_
  refine up_mk rfl ?_
  refine s_run rfl rfl (r_la H 2 rfl rfl rfl ag55 sz55) ?_
  refine k_nil ?_
  refine t_on trivial ?_
  refine t_up1 10 (by kernel_rfl) ?_
  refine up_mk rfl ?_
  refine s_sw H 0 rfl rfl rfl rfl rfl rfl rfl sz55 ?_
  intro _ H'; simp only [List.set_cons_zero, List.set_cons_succ, List.take_succ_cons, List.take_zero, List.drop_succ_cons, List.drop_zero, List.cons_append, List.nil_append, List.append_nil, List.length_cons, List.length_nil, Nat.reduceAdd] at H'; clear H; have H := H'; clear H'
  refine k_nil ?_
  refine t_on trivial ?_
  refine t_take 11 rfl (by kernel_rfl) (by kernel_rfl) (by kernel_rfl) rfl (fun _ _ _ _ h => h) rfl (fun _ hS => r_as (v := .bool _) rfl) trivial ?_
  refine t_done (by kernel_rfl) ?_
  refine c_norm ?_
  refine k_ret ?_
  refine fx3r rfl (rv_t (v := .pointer _) rfl) (rv_a H 0 rfl rfl rfl ag55 sz55) (rv_t (v := .bool _) rfl) ?_
  exact ⟨g, s2, rfl, grp_open (HB.whole H).drop.drop.drop, (hr'.later H.only (fun _ h => List.mem_append_right _ h)).news (fun i hi => .inl (grp_in 3 rfl i hi)), hg⟩
theorem lDo4 (hk : k = 4) (hE : Ents (devL g d) w) (hr : RefOk w (ids (devL g d) ++ X) s d m) (hX : ∀ i ∈ X, i < w.heap.size) (hg : GOk g m) (hm : m ≤ 60000) :
    Calls Try.prog 33 [ptr g.p, .agg (refCells s d m).toArray, opV k a n v A nc cc].toArray w (DoPost g d m X (Nv.persist d m a n).1 w) := by
  subst hk
  have hF : ∀ i ∈ ids (devL g d) ++ X, i < w.heap.size := fun i hi => (List.mem_append.1 hi).elim ((Heap.start hE).idlt i) (hX i)
  have ho := hr.ok
  have H := grp_start hE
  rw [refE]
  unfold opV
  refine k_in (N := 113) Try.func33 rfl rfl rfl ?_
  refine k_seq ?_
  refine k_rg ?_
  refine s_box H rfl rfl ?_
  intro p4 _ H'; clear H; have H := H'; clear H'
  refine s_box H rfl rfl ?_
  intro p5 _ H'; clear H; have H := H'; clear H'
  refine s_run rfl rfl (r_as (v := .pointer _) rfl) ?_
  refine s_al H rfl inf55 ?_
  intro p7 _ H'; clear H; have H := H'; clear H'
  refine s_run rfl rfl (r_as (v := .bool _) rfl) ?_
  refine k_nil ?_
  refine c_norm ?_
  refine k_seq ?_
  refine k_rg ?_
  refine s_run rfl rfl (r_as (v := .int _ _) rfl) ?_
  refine s_run rfl rfl (r_as (v := .int _ _) rfl) ?_
  refine k_nil ?_
  refine c_norm ?_
  refine k_seq ?_
  refine k_seq ?_
  refine k_rg ?_
  refine s_run rfl rfl (r_fa0 rfl fo51_0) ?_
  refine s_run rfl rfl (r_lo H 1 rfl rfl rfl ag3) ?_
  refine k_nil ?_
  refine c_norm ?_
  refine k_b ?_
  refine k_seq ?_
  refine k_rg ?_
  refine s_run rfl rfl (r_eqlF rfl rfl (by omega)) ?_
  refine s_run rfl rfl (r_as (v := .bool _) rfl) ?_
  refine k_nil ?_
  refine c_norm ?_
  refine k_f rfl ?_
  refine k_seq ?_
  refine k_rg ?_
  refine s_run rfl rfl (r_eqlF rfl rfl (by omega)) ?_
  refine s_run rfl rfl (r_as (v := .bool _) rfl) ?_
  refine k_nil ?_
  refine c_norm ?_
  refine k_f rfl ?_
  refine k_seq ?_
  refine k_rg ?_
  refine s_run rfl rfl (r_eqlF rfl rfl (by omega)) ?_
  refine s_run rfl rfl (r_as (v := .bool _) rfl) ?_
  refine k_nil ?_
  refine c_norm ?_
  refine k_f rfl ?_
  refine k_seq ?_
  refine k_rg ?_
  refine s_run rfl rfl (r_eqlF rfl rfl (by omega)) ?_
  refine s_run rfl rfl (r_as (v := .bool _) rfl) ?_
  refine k_nil ?_
  refine c_norm ?_
  refine k_f rfl ?_
  refine k_seq ?_
  refine k_rg ?_
  refine s_run rfl rfl (r_eqlT rfl rfl (by omega)) ?_
  refine s_run rfl rfl (r_as (v := .bool _) rfl) ?_
  refine k_nil ?_
  refine c_norm ?_
  refine k_t rfl ?_
  refine k_seq ?_
  refine k_rg ?_
  refine s_run rfl rfl (r_mv (v := .pointer _) rfl) ?_
  refine s_run rfl rfl (r_fa0 rfl fo51_1) ?_
  refine s_run rfl rfl (r_lo H 1 rfl rfl rfl ag3) ?_
  refine s_run rfl rfl (r_fa0 rfl fo51_2) ?_
  refine s_run rfl rfl (r_lo H 1 rfl rfl rfl ag3) ?_
  refine s_call rfl (nPersist g d m a n _ (H.grp_ents 3 rfl) ho hg (by omega)) (ca38 rfl) ?_
  rintro e W1 ⟨rfl, H'⟩
  refine ⟨_, rfl, ?_⟩
  have H1 := H.grp_at 3 rfl H'; clear H H'; have H := H1; clear H1; simp only [List.set_cons_succ, List.set_cons_zero] at H
  refine s_run rfl rfl (r_as (v := .int _ _) rfl) ?_
  refine k_nil ?_
  refine c_norm ?_
  refine k_rg ?_
  refine s_run rfl rfl (r_la H 2 rfl rfl rfl ag55 sz55) ?_
  refine s_run rfl rfl (r_fa0 rfl fo51_1) ?_
  refine s_run rfl rfl (r_lo H 1 rfl rfl rfl ag3) ?_
  refine s_run rfl rfl (r_fa0 rfl fo51_2) ?_
  refine s_run rfl rfl (r_lo H 1 rfl rfl rfl ag3) ?_
  refine s_call rfl (rPersist s d m a n _ _ (hr.at H) (H.fl hF) (by omega)) (ca75 rfl) ?_
  rintro e W1 ⟨s2, rfl, H', hr'⟩
  refine ⟨_, rfl, ?_⟩
  have H := H.same H'.only; clear H'; simp only [refE]; have HB := H; clear H; have H := Heap.start HB.ents
  refine s_run rfl rfl (r_mv (v := .tuple _) rfl) ?_
  refine s_run rfl rfl (r_ext (v := .agg _) rfl rfl) ?_
  refine s_run rfl rfl (r_ext (v := .int _ _) rfl rfl) ?_
  refine s_sw H 2 rfl rfl rfl rfl rfl rfl rfl sz55 ?_
  intro _ H'; simp only [List.set_cons_zero, List.set_cons_succ, List.take_succ_cons, List.take_zero, List.drop_succ_cons, List.drop_zero, List.cons_append, List.nil_append, List.append_nil, List.length_cons, List.length_nil, Nat.reduceAdd] at H'; clear H; have H := H'; clear H'
  refine s_run rfl rfl (r_as (v := .int _ _) rfl) ?_
  refine k_nil ?_
  refine b_norm ?_
  refine c_norm ?_
  refine k_seq ?_
  refine k_trF mixed ?_; have H' := H.drew; clear H; have H := H'; clear H'
  refine t_take 0 rfl (by kernel_rfl) (by kernel_rfl) (by kernel_rfl) rfl (fun _ _ _ _ h => h) rfl (fun _ hS => r_mv (v := .pointer _) rfl) trivial ?_
  refine t_take 2 rfl (by kernel_rfl) (by kernel_rfl) (by kernel_rfl) rfl (fun _ _ _ _ h => h) rfl (fun _ hS => r_mv (v := .pointer _) rfl) trivial ?_
  refine t_take 3 rfl (by kernel_rfl) (by kernel_rfl) (by kernel_rfl) rfl (fun _ _ _ _ h => h) rfl (fun _ hS => r_ptnnilT rfl rfl Try.underlying26) trivial ?_
  refine t_take 4 rfl (by kernel_rfl) (by kernel_rfl) (by kernel_rfl) rfl (fun _ _ _ _ h => h) rfl (fun _ hS => r_mv (v := .bool _) rfl) trivial ?_
  refine t_take 5 rfl (by kernel_rfl) (by kernel_rfl) (by kernel_rfl) rfl (fun _ _ _ _ h => h) (g_on 108 (by kernel_rfl) rfl) (fun _ hS => r_mv (v := .int _ _) rfl) trivial ?_
  refine t_take 6 rfl (by kernel_rfl) (by kernel_rfl) (by kernel_rfl) rfl (fun _ _ _ _ h => h) (g_on 108 (by kernel_rfl) rfl) (fun _ hS => r_mv (v := .int _ _) rfl) trivial ?_
  refine t_take 7 rfl (by kernel_rfl) (by kernel_rfl) (by kernel_rfl) rfl (fun _ _ _ _ h => h) (g_on 108 (by kernel_rfl) rfl) (fun _ hS => r_eqlT rfl rfl (by omega)) trivial ?_
  refine t_take 8 rfl (by kernel_rfl) (by kernel_rfl) (by kernel_rfl) rfl (fun _ _ _ _ h => h) rfl (fun _ hS => r_pkT (v := .bool _) rfl rfl) trivial ?_
  refine t_take 9 rfl (by kernel_rfl) (by kernel_rfl) (by kernel_rfl) rfl (fun _ _ _ _ h => h) rfl (fun _ hS => r_as (v := .pointer _) rfl) trivial ?_
  refine t_up1 1 (by kernel_rfl) ?_
  refine up_mk rfl ?_
  refine s_run rfl rfl (r_la H 2 rfl rfl rfl ag55 sz55) ?_
  refine k_nil ?_
  refine t_on trivial ?_
  refine t_up1 10 (by kernel_rfl) ?_
  refine up_mk rfl ?_
  refine s_sw H 0 rfl rfl rfl rfl rfl rfl rfl sz55 ?_
  intro _ H'; simp only [List.set_cons_zero, List.set_cons_succ, List.take_succ_cons, List.take_zero, List.drop_succ_cons, List.drop_zero, List.cons_append, List.nil_append, List.append_nil, List.length_cons, List.length_nil, Nat.reduceAdd] at H'; clear H; have H := H'; clear H'
  refine k_nil ?_
  refine t_on trivial ?_
  refine t_take 11 rfl (by kernel_rfl) (by kernel_rfl) (by kernel_rfl) rfl (fun _ _ _ _ h => h) rfl (fun _ hS => r_as (v := .bool _) rfl) trivial ?_
  refine t_done (by kernel_rfl) ?_
  refine c_norm ?_
  refine k_ret ?_
  refine fx3r rfl (rv_t (v := .pointer _) rfl) (rv_a H 0 rfl rfl rfl ag55 sz55) (rv_t (v := .bool _) rfl) ?_
  exact ⟨g, s2, rfl, grp_open (HB.whole H).drop.drop.drop, (hr'.later H.only (fun _ h => List.mem_append_right _ h)).news (fun i hi => .inl (grp_in 3 rfl i hi)), hg⟩
theorem fuse_arm (d : Nv.D) (n : Int) (hn : -9223372036854775808 ≤ n ∧ n ≤ 9223372036854775807) : fuseRel (Nv.arm d n) (if n < -1 then -1 else n) := by
  unfold fuseRel Nv.arm
  by_cases h : 0 ≤ n
  · left; simp only [h, decide_true, true_and]; rw [if_neg (by omega)]; omega
  · right; simp only [h, decide_false, true_and]; split <;> omega
theorem lDo5 (hk : k = 5) (hE : Ents (devL g d) w) (hr : RefOk w (ids (devL g d) ++ X) s d m) (hX : ∀ i ∈ X, i < w.heap.size) (hg : GOk g m) (hm : m ≤ 60000) (hn : -9223372036854775808 ≤ n ∧ n ≤ 9223372036854775807) :
    Calls Try.prog 33 [ptr g.p, .agg (refCells s d m).toArray, opV k a n v A nc cc].toArray w (DoPost g d m X (Nv.arm d n) w) := by
  subst hk
  have hF : ∀ i ∈ ids (devL g d) ++ X, i < w.heap.size := fun i hi => (List.mem_append.1 hi).elim ((Heap.start hE).idlt i) (hX i)
  have ho := hr.ok
  have H := grp_start hE
  obtain ⟨A0, c0, A1, c1, A2, c2, A3, c3, A4, c4, rf0⟩ := s
  rw [refE]
  unfold opV
  refine k_in (N := 113) Try.func33 rfl rfl rfl ?_
  refine k_seq ?_
  refine k_rg ?_
  refine s_box H rfl rfl ?_
  intro p4 _ H'; clear H; have H := H'; clear H'
  refine s_box H rfl rfl ?_
  intro p5 _ H'; clear H; have H := H'; clear H'
  refine s_run rfl rfl (r_as (v := .pointer _) rfl) ?_
  refine s_al H rfl inf55 ?_
  intro p7 _ H'; clear H; have H := H'; clear H'
  refine s_run rfl rfl (r_as (v := .bool _) rfl) ?_
  refine k_nil ?_
  refine c_norm ?_
  refine k_seq ?_
  refine k_rg ?_
  refine s_run rfl rfl (r_as (v := .int _ _) rfl) ?_
  refine s_run rfl rfl (r_as (v := .int _ _) rfl) ?_
  refine k_nil ?_
  refine c_norm ?_
  refine k_seq ?_
  refine k_seq ?_
  refine k_rg ?_
  refine s_run rfl rfl (r_fa0 rfl fo51_0) ?_
  refine s_run rfl rfl (r_lo H 1 rfl rfl rfl ag3) ?_
  refine k_nil ?_
  refine c_norm ?_
  refine k_b ?_
  refine k_seq ?_
  refine k_rg ?_
  refine s_run rfl rfl (r_eqlF rfl rfl (by omega)) ?_
  refine s_run rfl rfl (r_as (v := .bool _) rfl) ?_
  refine k_nil ?_
  refine c_norm ?_
  refine k_f rfl ?_
  refine k_seq ?_
  refine k_rg ?_
  refine s_run rfl rfl (r_eqlF rfl rfl (by omega)) ?_
  refine s_run rfl rfl (r_as (v := .bool _) rfl) ?_
  refine k_nil ?_
  refine c_norm ?_
  refine k_f rfl ?_
  refine k_seq ?_
  refine k_rg ?_
  refine s_run rfl rfl (r_eqlF rfl rfl (by omega)) ?_
  refine s_run rfl rfl (r_as (v := .bool _) rfl) ?_
  refine k_nil ?_
  refine c_norm ?_
  refine k_f rfl ?_
  refine k_seq ?_
  refine k_rg ?_
  refine s_run rfl rfl (r_eqlF rfl rfl (by omega)) ?_
  refine s_run rfl rfl (r_as (v := .bool _) rfl) ?_
  refine k_nil ?_
  refine c_norm ?_
  refine k_f rfl ?_
  refine k_seq ?_
  refine k_rg ?_
  refine s_run rfl rfl (r_eqlF rfl rfl (by omega)) ?_
  refine s_run rfl rfl (r_as (v := .bool _) rfl) ?_
  refine k_nil ?_
  refine c_norm ?_
  refine k_f rfl ?_
  refine k_seq ?_
  refine k_rg ?_
  refine s_run rfl rfl (r_eqlT rfl rfl (by omega)) ?_
  refine s_run rfl rfl (r_as (v := .bool _) rfl) ?_
  refine k_nil ?_
  refine c_norm ?_
  refine k_t rfl ?_
  refine k_seq ?_
  refine k_rg ?_
  refine s_run rfl rfl (r_mv (v := .pointer _) rfl) ?_
  refine s_run rfl rfl (r_fa0 rfl fo51_2) ?_
  refine s_run rfl rfl (r_lo H 1 rfl rfl rfl ag3) ?_
  refine s_call rfl (nArm g d n _ (H.grp_ents 3 rfl)) (ca32 rfl) ?_
  rintro e W1 ⟨rfl, H'⟩
  refine ⟨_, rfl, ?_⟩
  have H1 := H.grp_at 3 rfl H'; clear H H'; have H := H1; clear H1; simp only [List.set_cons_succ, List.set_cons_zero] at H
  refine k_nil ?_
  refine c_norm ?_
  refine k_rg ?_
  refine s_run rfl rfl (r_fa0 rfl fo51_2) ?_
  refine s_run rfl rfl (r_lo H 1 rfl rfl rfl ag3) ?_
  refine s_run rfl rfl (r_max (c := if n < -1 then -1 else n) rfl rfl rfl) ?_
  refine s_run rfl rfl (r_fa0 rfl fo55_6) ?_
  refine s_st (u := .int _ _) H 2 rfl rfl rfl rfl rfl rfl sz3 ?_
  intro _ H'; simp only [List.set_cons_zero, List.set_cons_succ, List.take_succ_cons, List.take_zero, List.drop_succ_cons, List.drop_zero, List.cons_append, List.nil_append, List.append_nil, List.length_cons, List.length_nil, Nat.reduceAdd] at H'; clear H; have H := H'; clear H'
  refine k_nil ?_
  refine b_norm ?_
  refine c_norm ?_
  refine k_seq ?_
  refine k_trF mixed ?_; have H' := H.drew; clear H; have H := H'; clear H'
  refine t_take 0 rfl (by kernel_rfl) (by kernel_rfl) (by kernel_rfl) rfl (fun _ _ _ _ h => h) rfl (fun _ hS => r_mv (v := .pointer _) rfl) trivial ?_
  refine t_take 2 rfl (by kernel_rfl) (by kernel_rfl) (by kernel_rfl) rfl (fun _ _ _ _ h => h) rfl (fun _ hS => r_mv (v := .pointer _) rfl) trivial ?_
  refine t_take 3 rfl (by kernel_rfl) (by kernel_rfl) (by kernel_rfl) rfl (fun _ _ _ _ h => h) rfl (fun _ hS => r_ptnnilT rfl rfl Try.underlying26) trivial ?_
  refine t_take 4 rfl (by kernel_rfl) (by kernel_rfl) (by kernel_rfl) rfl (fun _ _ _ _ h => h) rfl (fun _ hS => r_mv (v := .bool _) rfl) trivial ?_
  refine t_take 5 rfl (by kernel_rfl) (by kernel_rfl) (by kernel_rfl) rfl (fun _ _ _ _ h => h) (g_on 108 (by kernel_rfl) rfl) (fun _ hS => r_mv (v := .int _ _) rfl) trivial ?_
  refine t_take 6 rfl (by kernel_rfl) (by kernel_rfl) (by kernel_rfl) rfl (fun _ _ _ _ h => h) (g_on 108 (by kernel_rfl) rfl) (fun _ hS => r_mv (v := .int _ _) rfl) trivial ?_
  refine t_take 7 rfl (by kernel_rfl) (by kernel_rfl) (by kernel_rfl) rfl (fun _ _ _ _ h => h) (g_on 108 (by kernel_rfl) rfl) (fun _ hS => r_eqlT rfl rfl (by omega)) trivial ?_
  refine t_take 8 rfl (by kernel_rfl) (by kernel_rfl) (by kernel_rfl) rfl (fun _ _ _ _ h => h) rfl (fun _ hS => r_pkT (v := .bool _) rfl rfl) trivial ?_
  refine t_take 9 rfl (by kernel_rfl) (by kernel_rfl) (by kernel_rfl) rfl (fun _ _ _ _ h => h) rfl (fun _ hS => r_as (v := .pointer _) rfl) trivial ?_
  refine t_up1 1 (by kernel_rfl) ?_
  refine up_mk rfl ?_
  refine s_run rfl rfl (r_la H 2 rfl rfl rfl ag55 sz55) ?_
  refine k_nil ?_
  refine t_on trivial ?_
  refine t_up1 10 (by kernel_rfl) ?_
  refine up_mk rfl ?_
  refine s_sw H 0 rfl rfl rfl rfl rfl rfl rfl sz55 ?_
  intro _ H'; simp only [List.set_cons_zero, List.set_cons_succ, List.take_succ_cons, List.take_zero, List.drop_succ_cons, List.drop_zero, List.cons_append, List.nil_append, List.append_nil, List.length_cons, List.length_nil, Nat.reduceAdd] at H'; clear H; have H := H'; clear H'
  refine k_nil ?_
  refine t_on trivial ?_
  refine t_take 11 rfl (by kernel_rfl) (by kernel_rfl) (by kernel_rfl) rfl (fun _ _ _ _ h => h) rfl (fun _ hS => r_as (v := .bool _) rfl) trivial ?_
  refine t_done (by kernel_rfl) ?_
  refine c_norm ?_
  refine k_ret ?_
  refine fx3r rfl (rv_t (v := .pointer _) rfl) (rv_a H 0 rfl rfl rfl ag55 sz55) (rv_t (v := .bool _) rfl) ?_
  exact ⟨g, ⟨A0, c0, A1, c1, A2, c2, A3, c3, A4, c4, if n < -1 then -1 else n⟩, rfl, grp_open H.drop.drop.drop, (by have h5 := hr.later H.only (fun _ h => List.mem_append_left _ h); exact ⟨h5.now, h5.last, h5.wait, h5.dirty, h5.pend, fuse_arm d n hn, ⟨ho.hl, ho.hc, ho.hf, ho.hd, ho.hp⟩⟩), hg⟩
theorem lDo7 (hk : k ≠ 0 ∧ k ≠ 1 ∧ k ≠ 2 ∧ k ≠ 3 ∧ k ≠ 4 ∧ k ≠ 5 ∧ k ≠ 6) (hE : Ents (devL g d) w) (hr : RefOk w (ids (devL g d) ++ X) s d m) (hX : ∀ i ∈ X, i < w.heap.size) (hg : GOk g m) (hm : m ≤ 60000) :
    Calls Try.prog 33 [ptr g.p, .agg (refCells s d m).toArray, opV k a n v A nc cc].toArray w (DoPost g d m X d w) := by
  have ho := hr.ok
  have H := grp_start hE
  rw [refE]
  unfold opV
  refine k_in (N := 113) Try.func33 rfl rfl rfl ?_
  refine k_seq ?_
  refine k_rg ?_
  refine s_box H rfl rfl ?_
  intro p4 _ H'; clear H; have H := H'; clear H'
  refine s_box H rfl rfl ?_
  intro p5 _ H'; clear H; have H := H'; clear H'
  refine s_run rfl rfl (r_as (v := .pointer _) rfl) ?_
  refine s_al H rfl inf55 ?_
  intro p7 _ H'; clear H; have H := H'; clear H'
  refine s_run rfl rfl (r_as (v := .bool _) rfl) ?_
  refine k_nil ?_
  refine c_norm ?_
  refine k_seq ?_
  refine k_rg ?_
  refine s_run rfl rfl (r_as (v := .int _ _) rfl) ?_
  refine s_run rfl rfl (r_as (v := .int _ _) rfl) ?_
  refine k_nil ?_
  refine c_norm ?_
  refine k_seq ?_
  refine k_seq ?_
  refine k_rg ?_
  refine s_run rfl rfl (r_fa0 rfl fo51_0) ?_
  refine s_run rfl rfl (r_lo H 1 rfl rfl rfl ag3) ?_
  refine k_nil ?_
  refine c_norm ?_
  refine k_b ?_
  refine k_seq ?_
  refine k_rg ?_
  refine s_run rfl rfl (r_eqlF rfl rfl (by omega)) ?_
  refine s_run rfl rfl (r_as (v := .bool _) rfl) ?_
  refine k_nil ?_
  refine c_norm ?_
  refine k_f rfl ?_
  refine k_seq ?_
  refine k_rg ?_
  refine s_run rfl rfl (r_eqlF rfl rfl (by omega)) ?_
  refine s_run rfl rfl (r_as (v := .bool _) rfl) ?_
  refine k_nil ?_
  refine c_norm ?_
  refine k_f rfl ?_
  refine k_seq ?_
  refine k_rg ?_
  refine s_run rfl rfl (r_eqlF rfl rfl (by omega)) ?_
  refine s_run rfl rfl (r_as (v := .bool _) rfl) ?_
  refine k_nil ?_
  refine c_norm ?_
  refine k_f rfl ?_
  refine k_seq ?_
  refine k_rg ?_
  refine s_run rfl rfl (r_eqlF rfl rfl (by omega)) ?_
  refine s_run rfl rfl (r_as (v := .bool _) rfl) ?_
  refine k_nil ?_
  refine c_norm ?_
  refine k_f rfl ?_
  refine k_seq ?_
  refine k_rg ?_
  refine s_run rfl rfl (r_eqlF rfl rfl (by omega)) ?_
  refine s_run rfl rfl (r_as (v := .bool _) rfl) ?_
  refine k_nil ?_
  refine c_norm ?_
  refine k_f rfl ?_
  refine k_seq ?_
  refine k_rg ?_
  refine s_run rfl rfl (r_eqlF rfl rfl (by omega)) ?_
  refine s_run rfl rfl (r_as (v := .bool _) rfl) ?_
  refine k_nil ?_
  refine c_norm ?_
  refine k_f rfl ?_
  refine k_seq ?_
  refine k_rg ?_
  refine s_run rfl rfl (r_eqlF rfl rfl (by omega)) ?_
  refine s_run rfl rfl (r_as (v := .bool _) rfl) ?_
  refine k_nil ?_
  refine c_norm ?_
  refine k_f rfl ?_
  refine k_seq ?_
  refine k_trF mixed ?_; have H' := H.drew; clear H; have H := H'; clear H'
  refine t_take 0 rfl (by kernel_rfl) (by kernel_rfl) (by kernel_rfl) rfl (fun _ _ _ _ h => h) rfl (fun _ hS => r_mv (v := .pointer _) rfl) trivial ?_
  refine t_take 2 rfl (by kernel_rfl) (by kernel_rfl) (by kernel_rfl) rfl (fun _ _ _ _ h => h) rfl (fun _ hS => r_as (v := .pointer _) rfl) trivial ?_
  refine t_up1 1 (by kernel_rfl) ?_
  refine up_mk rfl ?_
  refine s_run rfl rfl (r_la H 2 rfl rfl rfl ag55 sz55) ?_
  refine k_nil ?_
  refine t_on trivial ?_
  refine t_up1 3 (by kernel_rfl) ?_
  refine up_mk rfl ?_
  refine s_sw H 0 rfl rfl rfl rfl rfl rfl rfl sz55 ?_
  intro _ H'; simp only [List.set_cons_zero, List.set_cons_succ, List.take_succ_cons, List.take_zero, List.drop_succ_cons, List.drop_zero, List.cons_append, List.nil_append, List.append_nil, List.length_cons, List.length_nil, Nat.reduceAdd] at H'; clear H; have H := H'; clear H'
  refine k_nil ?_
  refine t_on trivial ?_
  refine t_take 4 rfl (by kernel_rfl) (by kernel_rfl) (by kernel_rfl) rfl (fun _ _ _ _ h => h) rfl (fun _ hS => r_as (v := .bool _) rfl) trivial ?_
  refine t_done (by kernel_rfl) ?_
  refine c_norm ?_
  refine k_ret ?_
  refine b_ret ?_
  refine c_ret ?_
  refine fx3r rfl (rv_t (v := .pointer _) rfl) (rv_a H 0 rfl rfl rfl ag55 sz55) (rv_t (v := .bool _) rfl) ?_
  exact ⟨g, s, rfl, grp_open H.drop.drop.drop, hr.later H.only (fun _ h => List.mem_append_left _ h), hg⟩
theorem lDo6 (hk : k = 6) (hE : Ents (devL g d) w) (hr : RefOk w (ids (devL g d) ++ X) s d m) (hX : ∀ i ∈ X, i < w.heap.size) (hg : GOk g m) (hm : m ≤ 60000) (hz : Sees (Value.int .u8) w (ids (devL g d)) A cs) (hl : cs.length = nc) (hb : ∀ z ∈ cs, 0 ≤ z) (hnc : nc ≤ 1000000) :
    Calls Try.prog 33 [ptr g.p, .agg (refCells s d m).toArray, opV k a n v A nc cc].toArray w (DoPost g d m X (Nv.load (Nv.crashTo d (Nv.dirtyTo d.dirty m) cs (Nv.dirtyTo d.dirty m).length) m) w) := by
  subst hk
  have hF : ∀ i ∈ ids (devL g d) ++ X, i < w.heap.size := fun i hi => (List.mem_append.1 hi).elim ((Heap.start hE).idlt i) (hX i)
  have ho := hr.ok
  have H := grp_start hE
  rw [refE]
  unfold opV
  refine k_in (N := 113) Try.func33 rfl rfl rfl ?_
  refine k_seq ?_
  refine k_rg ?_
  refine s_box H rfl rfl ?_
  intro p4 _ H'; clear H; have H := H'; clear H'
  refine s_box H rfl rfl ?_
  intro p5 _ H'; clear H; have H := H'; clear H'
  refine s_run rfl rfl (r_as (v := .pointer _) rfl) ?_
  refine s_al H rfl inf55 ?_
  intro p7 _ H'; clear H; have H := H'; clear H'
  refine s_run rfl rfl (r_as (v := .bool _) rfl) ?_
  refine k_nil ?_
  refine c_norm ?_
  refine k_seq ?_
  refine k_rg ?_
  refine s_run rfl rfl (r_as (v := .int _ _) rfl) ?_
  refine s_run rfl rfl (r_as (v := .int _ _) rfl) ?_
  refine k_nil ?_
  refine c_norm ?_
  refine k_seq ?_
  refine k_seq ?_
  refine k_rg ?_
  refine s_run rfl rfl (r_fa0 rfl fo51_0) ?_
  refine s_run rfl rfl (r_lo H 1 rfl rfl rfl ag3) ?_
  refine k_nil ?_
  refine c_norm ?_
  refine k_b ?_
  refine k_seq ?_
  refine k_rg ?_
  refine s_run rfl rfl (r_eqlF rfl rfl (by omega)) ?_
  refine s_run rfl rfl (r_as (v := .bool _) rfl) ?_
  refine k_nil ?_
  refine c_norm ?_
  refine k_f rfl ?_
  refine k_seq ?_
  refine k_rg ?_
  refine s_run rfl rfl (r_eqlF rfl rfl (by omega)) ?_
  refine s_run rfl rfl (r_as (v := .bool _) rfl) ?_
  refine k_nil ?_
  refine c_norm ?_
  refine k_f rfl ?_
  refine k_seq ?_
  refine k_rg ?_
  refine s_run rfl rfl (r_eqlF rfl rfl (by omega)) ?_
  refine s_run rfl rfl (r_as (v := .bool _) rfl) ?_
  refine k_nil ?_
  refine c_norm ?_
  refine k_f rfl ?_
  refine k_seq ?_
  refine k_rg ?_
  refine s_run rfl rfl (r_eqlF rfl rfl (by omega)) ?_
  refine s_run rfl rfl (r_as (v := .bool _) rfl) ?_
  refine k_nil ?_
  refine c_norm ?_
  refine k_f rfl ?_
  refine k_seq ?_
  refine k_rg ?_
  refine s_run rfl rfl (r_eqlF rfl rfl (by omega)) ?_
  refine s_run rfl rfl (r_as (v := .bool _) rfl) ?_
  refine k_nil ?_
  refine c_norm ?_
  refine k_f rfl ?_
  refine k_seq ?_
  refine k_rg ?_
  refine s_run rfl rfl (r_eqlF rfl rfl (by omega)) ?_
  refine s_run rfl rfl (r_as (v := .bool _) rfl) ?_
  refine k_nil ?_
  refine c_norm ?_
  refine k_f rfl ?_
  refine k_seq ?_
  refine k_rg ?_
  refine s_run rfl rfl (r_eqlT rfl rfl (by omega)) ?_
  refine s_run rfl rfl (r_as (v := .bool _) rfl) ?_
  refine k_nil ?_
  refine c_norm ?_
  refine k_t rfl ?_
  refine k_seq ?_
  refine k_rg ?_
  refine s_run rfl rfl (r_mv (v := .pointer _) rfl) ?_
  refine s_run rfl rfl (r_fa0 rfl fo51_4) ?_
  refine s_run rfl rfl (r_lo H 1 rfl rfl rfl ag49) ?_
  refine s_call rfl (nCrash g d m A nc cc cs _ (H.grp_ents 3 rfl) ho hg (by omega) ((hz.later H.only (fun _ h => h)).mono (by simp)) hl hb hnc) (ca37 rfl) ?_
  rintro e W1 ⟨g2, rfl, hg2, H'⟩
  refine ⟨_, rfl, ?_⟩
  have H1 := H.more (A := [grp _]) (grp_heap H'); clear H H'; have H := H1; clear H1; simp only [List.cons_append, List.nil_append] at H
  refine s_run rfl rfl (r_as (v := .pointer _) rfl) ?_
  refine k_nil ?_
  refine c_norm ?_
  refine k_rg ?_
  refine s_run rfl rfl (r_la H 3 rfl rfl rfl ag55 sz55) ?_
  refine s_run rfl rfl (r_fa0 rfl fo51_4) ?_
  refine s_run rfl rfl (r_lo H 2 rfl rfl rfl ag49) ?_
  refine s_call rfl (rCrash s d m A nc cc cs _ _ (hr.at H) (H.fl hF) hm ((hz.later H.only (fun _ h => h)).mono (by simp)) hl hb hnc) (ca76 rfl) ?_
  rintro e W1 ⟨s2, rfl, H', hr'⟩
  refine ⟨_, rfl, ?_⟩
  have H := H.same H'.only; clear H'; simp only [refE]; have HB := H; clear H; have H := Heap.start HB.ents
  refine s_sw H 3 rfl rfl rfl rfl rfl rfl rfl sz55 ?_
  intro _ H'; simp only [List.set_cons_zero, List.set_cons_succ, List.take_succ_cons, List.take_zero, List.drop_succ_cons, List.drop_zero, List.cons_append, List.nil_append, List.append_nil, List.length_cons, List.length_nil, Nat.reduceAdd] at H'; clear H; have H := H'; clear H'
  refine k_nil ?_
  refine b_norm ?_
  refine c_norm ?_
  refine k_seq ?_
  refine k_trF mixed ?_; have H' := H.drew; clear H; have H := H'; clear H'
  refine t_take 0 rfl (by kernel_rfl) (by kernel_rfl) (by kernel_rfl) rfl (fun _ _ _ _ h => h) rfl (fun _ hS => r_mv (v := .pointer _) rfl) trivial ?_
  refine t_take 2 rfl (by kernel_rfl) (by kernel_rfl) (by kernel_rfl) rfl (fun _ _ _ _ h => h) rfl (fun _ hS => r_mv (v := .pointer _) rfl) trivial ?_
  refine t_take 3 rfl (by kernel_rfl) (by kernel_rfl) (by kernel_rfl) rfl (fun _ _ _ _ h => h) rfl (fun _ hS => r_ptnnilT rfl rfl Try.underlying26) trivial ?_
  refine t_take 4 rfl (by kernel_rfl) (by kernel_rfl) (by kernel_rfl) rfl (fun _ _ _ _ h => h) rfl (fun _ hS => r_mv (v := .bool _) rfl) trivial ?_
  refine t_take 5 rfl (by kernel_rfl) (by kernel_rfl) (by kernel_rfl) rfl (fun _ _ _ _ h => h) (g_on 108 (by kernel_rfl) rfl) (fun _ hS => r_mv (v := .int _ _) rfl) trivial ?_
  refine t_take 6 rfl (by kernel_rfl) (by kernel_rfl) (by kernel_rfl) rfl (fun _ _ _ _ h => h) (g_on 108 (by kernel_rfl) rfl) (fun _ hS => r_mv (v := .int _ _) rfl) trivial ?_
  refine t_take 7 rfl (by kernel_rfl) (by kernel_rfl) (by kernel_rfl) rfl (fun _ _ _ _ h => h) (g_on 108 (by kernel_rfl) rfl) (fun _ hS => r_eqlT rfl rfl (by omega)) trivial ?_
  refine t_take 8 rfl (by kernel_rfl) (by kernel_rfl) (by kernel_rfl) rfl (fun _ _ _ _ h => h) rfl (fun _ hS => r_pkT (v := .bool _) rfl rfl) trivial ?_
  refine t_take 9 rfl (by kernel_rfl) (by kernel_rfl) (by kernel_rfl) rfl (fun _ _ _ _ h => h) rfl (fun _ hS => r_as (v := .pointer _) rfl) trivial ?_
  refine t_up1 1 (by kernel_rfl) ?_
  refine up_mk rfl ?_
  refine s_run rfl rfl (r_la H 3 rfl rfl rfl ag55 sz55) ?_
  refine k_nil ?_
  refine t_on trivial ?_
  refine t_up1 10 (by kernel_rfl) ?_
  refine up_mk rfl ?_
  refine s_sw H 1 rfl rfl rfl rfl rfl rfl rfl sz55 ?_
  intro _ H'; simp only [List.set_cons_zero, List.set_cons_succ, List.take_succ_cons, List.take_zero, List.drop_succ_cons, List.drop_zero, List.cons_append, List.nil_append, List.append_nil, List.length_cons, List.length_nil, Nat.reduceAdd] at H'; clear H; have H := H'; clear H'
  refine k_nil ?_
  refine t_on trivial ?_
  refine t_take 11 rfl (by kernel_rfl) (by kernel_rfl) (by kernel_rfl) rfl (fun _ _ _ _ h => h) rfl (fun _ hS => r_as (v := .bool _) rfl) trivial ?_
  refine t_done (by kernel_rfl) ?_
  refine c_norm ?_
  refine k_ret ?_
  refine fx3r rfl (rv_t (v := .pointer _) rfl) (rv_a H 1 rfl rfl rfl ag55 sz55) (rv_t (v := .bool _) rfl) ?_
  have HW := (HB.whole H).drops (A := [_])
  exact ⟨g2, s2, rfl, grp_open HW, (hr'.later H.only (fun _ h => List.mem_append_right _ h)).news (fun i hi => .inl (grp_in 0 rfl i hi)), hg2⟩
end
end Go.Proofs.Ytmekhdclnhhhbaa
