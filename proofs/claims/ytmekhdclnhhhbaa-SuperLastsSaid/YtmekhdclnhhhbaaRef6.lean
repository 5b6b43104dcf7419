/- The document's Persist. -/
import Derived.Test.YtmekhdclnhhhbaaRef5
namespace Go.Proofs.Ytmekhdclnhhhbaa
open Go.RowKit
set_option linter.unusedSimpArgs false
set_option linter.unusedVariables false
theorem RefOk.news {w : World} {F G : List Nat} {s : RefS} {d : Nv.D} {m : Nat} (h : RefOk w F s d m) (hG : ∀ i ∈ G, i ∈ F ∨ w.heap.size ≤ i) : RefOk w G s d m :=
  ⟨h.now.news hG, h.last.news hG, h.wait.news hG, h.dirty.news hG, h.pend.news hG, h.fuse, h.ok⟩
theorem rPersist (s : RefS) (d : Nv.D) (m : Nat) (a n : Int) (F : List Nat) (w : World) (hr : RefOk w F s d m) (hF : ∀ i ∈ F, i < w.heap.size) (hm : m ≤ 100000) :
    Calls Try.prog 75 [.agg (refCells s d m).toArray, .int .i64 a, .int .i64 n].toArray w fun e w' => ∃ s', e = .returned (.tuple #[.agg (refCells s' (Nv.persist d m a n).1 m).toArray, .int .i64 (Nv.persist d m a n).2]) ∧ Heap w [] [] w' ∧ RefOk w' F s' (Nv.persist d m a n).1 m := by
  have H := Heap.nil w
  unfold Nv.persist
  by_cases h1 : a < 0
  · rw [if_pos (.inl h1), refE]
    refine k_in (N := 73) Try.func75 rfl rfl rfl ?_
    refine k_seq ?_
    refine k_rg ?_
    refine s_box H rfl rfl ?_
    intro p3 _ H'; clear H; have H := H'; clear H'
    refine s_al H rfl inf55 ?_
    intro p6 _ H'; clear H; have H := H'; clear H'
    refine s_run rfl rfl (r_as (v := .int _ _) rfl) ?_
    refine k_nil ?_
    refine c_norm ?_
    refine k_seq ?_
    refine k_seq ?_
    refine k_rg ?_
    refine s_run rfl rfl (r_mv (v := .int _ _) rfl) ?_
    refine s_run rfl rfl (r_lssT rfl rfl (by omega)) ?_
    refine s_run rfl rfl (r_mv (v := .bool _) rfl) ?_
    refine s_off rfl (g_off 12 (by kernel_rfl) rfl rfl) ?_
    refine s_off rfl (g_off 12 (by kernel_rfl) rfl rfl) ?_
    refine s_run rfl rfl (r_pkT (v := .bool _) rfl rfl) ?_
    refine s_run rfl rfl (r_mv (v := .bool _) rfl) ?_
    refine s_off rfl (g_off 16 (by kernel_rfl) rfl rfl) ?_
    refine s_off rfl (g_off 16 (by kernel_rfl) rfl rfl) ?_
    refine s_off rfl (g_off 16 (by kernel_rfl) rfl rfl) ?_
    refine s_off rfl (g_off 16 (by kernel_rfl) rfl rfl) ?_
    refine s_off rfl (g_off 16 (by kernel_rfl) rfl rfl) ?_
    refine s_off rfl (g_off 16 (by kernel_rfl) rfl rfl) ?_
    refine s_run rfl rfl (r_pkT (v := .bool _) rfl rfl) ?_
    refine s_run rfl rfl (r_mv (v := .bool _) rfl) ?_
    refine s_off rfl (g_off 24 (by kernel_rfl) rfl rfl) ?_
    refine s_off rfl (g_off 24 (by kernel_rfl) rfl rfl) ?_
    refine s_off rfl (g_off 24 (by kernel_rfl) rfl rfl) ?_
    refine s_off rfl (g_off 24 (by kernel_rfl) rfl rfl) ?_
    refine s_off rfl (g_off 24 (by kernel_rfl) rfl rfl) ?_
    refine s_off rfl (g_off 24 (by kernel_rfl) rfl rfl) ?_
    refine s_off rfl (g_off 24 (by kernel_rfl) rfl rfl) ?_
    refine s_off rfl (g_off 24 (by kernel_rfl) rfl rfl) ?_
    refine s_run rfl rfl (r_pkT (v := .bool _) rfl rfl) ?_
    refine k_nil ?_
    refine c_norm ?_
    refine k_t rfl ?_
    refine k_seq ?_
    refine k_rg ?_
    refine s_run rfl rfl (r_la H 1 rfl rfl rfl ag55 sz55) ?_
    refine s_sw H 0 rfl rfl rfl rfl rfl rfl rfl sz55 ?_
    intro _ H'; simp only [List.set_cons_zero, List.set_cons_succ, List.take_succ_cons, List.take_zero, List.drop_succ_cons, List.drop_zero, List.cons_append, List.nil_append, List.append_nil, List.length_cons, List.length_nil, Nat.reduceAdd] at H'; clear H; have H := H'; clear H'
    refine s_run rfl rfl (r_as (v := .int _ _) rfl) ?_
    refine k_nil ?_
    refine c_norm ?_
    refine k_ret ?_
    refine c_ret ?_
    refine fx2r rfl (rv_a H 0 rfl rfl rfl ag55 sz55) (rv_t (v := .int _ _) rfl) ?_
    exact ⟨s, rfl, H.clear, hr.later H.only (by simp)⟩
  by_cases h2 : n < 0
  · rw [if_pos (.inr (.inl h2)), refE]
    refine k_in (N := 73) Try.func75 rfl rfl rfl ?_
    refine k_seq ?_
    refine k_rg ?_
    refine s_box H rfl rfl ?_
    intro p3 _ H'; clear H; have H := H'; clear H'
    refine s_al H rfl inf55 ?_
    intro p6 _ H'; clear H; have H := H'; clear H'
    refine s_run rfl rfl (r_as (v := .int _ _) rfl) ?_
    refine k_nil ?_
    refine c_norm ?_
    refine k_seq ?_
    refine k_seq ?_
    refine k_rg ?_
    refine s_run rfl rfl (r_mv (v := .int _ _) rfl) ?_
    refine s_run rfl rfl (r_lssF rfl rfl (by omega)) ?_
    refine s_run rfl rfl (r_mv (v := .bool _) rfl) ?_
    refine s_run rfl (g_on 12 (by kernel_rfl) rfl) (r_mv (v := .int _ _) rfl) ?_
    refine s_run rfl (g_on 12 (by kernel_rfl) rfl) (r_lssT rfl rfl (by omega)) ?_
    refine s_run rfl rfl (r_pkF (v := .bool _) rfl rfl) ?_
    refine s_run rfl rfl (r_mv (v := .bool _) rfl) ?_
    refine s_off rfl (g_off 16 (by kernel_rfl) rfl rfl) ?_
    refine s_off rfl (g_off 16 (by kernel_rfl) rfl rfl) ?_
    refine s_off rfl (g_off 16 (by kernel_rfl) rfl rfl) ?_
    refine s_off rfl (g_off 16 (by kernel_rfl) rfl rfl) ?_
    refine s_off rfl (g_off 16 (by kernel_rfl) rfl rfl) ?_
    refine s_off rfl (g_off 16 (by kernel_rfl) rfl rfl) ?_
    refine s_run rfl rfl (r_pkT (v := .bool _) rfl rfl) ?_
    refine s_run rfl rfl (r_mv (v := .bool _) rfl) ?_
    refine s_off rfl (g_off 24 (by kernel_rfl) rfl rfl) ?_
    refine s_off rfl (g_off 24 (by kernel_rfl) rfl rfl) ?_
    refine s_off rfl (g_off 24 (by kernel_rfl) rfl rfl) ?_
    refine s_off rfl (g_off 24 (by kernel_rfl) rfl rfl) ?_
    refine s_off rfl (g_off 24 (by kernel_rfl) rfl rfl) ?_
    refine s_off rfl (g_off 24 (by kernel_rfl) rfl rfl) ?_
    refine s_off rfl (g_off 24 (by kernel_rfl) rfl rfl) ?_
    refine s_off rfl (g_off 24 (by kernel_rfl) rfl rfl) ?_
    refine s_run rfl rfl (r_pkT (v := .bool _) rfl rfl) ?_
    refine k_nil ?_
    refine c_norm ?_
    refine k_t rfl ?_
    refine k_seq ?_
    refine k_rg ?_
    refine s_run rfl rfl (r_la H 1 rfl rfl rfl ag55 sz55) ?_
    refine s_sw H 0 rfl rfl rfl rfl rfl rfl rfl sz55 ?_
    intro _ H'; simp only [List.set_cons_zero, List.set_cons_succ, List.take_succ_cons, List.take_zero, List.drop_succ_cons, List.drop_zero, List.cons_append, List.nil_append, List.append_nil, List.length_cons, List.length_nil, Nat.reduceAdd] at H'; clear H; have H := H'; clear H'
    refine s_run rfl rfl (r_as (v := .int _ _) rfl) ?_
    refine k_nil ?_
    refine c_norm ?_
    refine k_ret ?_
    refine c_ret ?_
    refine fx2r rfl (rv_a H 0 rfl rfl rfl ag55 sz55) (rv_t (v := .int _ _) rfl) ?_
    exact ⟨s, rfl, H.clear, hr.later H.only (by simp)⟩
  by_cases h3 : 8 * (m : Int) < a
  · rw [if_pos (.inr (.inr (.inl h3))), refE]
    refine k_in (N := 73) Try.func75 rfl rfl rfl ?_
    refine k_seq ?_
    refine k_rg ?_
    refine s_box H rfl rfl ?_
    intro p3 _ H'; clear H; have H := H'; clear H'
    refine s_al H rfl inf55 ?_
    intro p6 _ H'; clear H; have H := H'; clear H'
    refine s_run rfl rfl (r_as (v := .int _ _) rfl) ?_
    refine k_nil ?_
    refine c_norm ?_
    refine k_seq ?_
    refine k_seq ?_
    refine k_rg ?_
    refine s_run rfl rfl (r_mv (v := .int _ _) rfl) ?_
    refine s_run rfl rfl (r_lssF rfl rfl (by omega)) ?_
    refine s_run rfl rfl (r_mv (v := .bool _) rfl) ?_
    refine s_run rfl (g_on 12 (by kernel_rfl) rfl) (r_mv (v := .int _ _) rfl) ?_
    refine s_run rfl (g_on 12 (by kernel_rfl) rfl) (r_lssF rfl rfl (by omega)) ?_
    refine s_run rfl rfl (r_pkF (v := .bool _) rfl rfl) ?_
    refine s_run rfl rfl (r_mv (v := .bool _) rfl) ?_
    refine s_run rfl (g_on 16 (by kernel_rfl) rfl) (r_mv (v := .int _ _) rfl) ?_
    refine s_run rfl (g_on 16 (by kernel_rfl) rfl) (r_fa0 rfl fo55_0) ?_
    refine s_run rfl (g_on 16 (by kernel_rfl) rfl) (r_lo H 1 rfl rfl rfl ag52) ?_
    refine s_run rfl (g_on 16 (by kernel_rfl) rfl) (r_len rfl Try.underlying52) ?_
    refine s_run rfl (g_on 16 (by kernel_rfl) rfl) (r_mul rfl rfl (wI (by omega))) ?_
    refine s_run rfl (g_on 16 (by kernel_rfl) rfl) (r_gtrT rfl rfl (by omega)) ?_
    refine s_run rfl rfl (r_pkF (v := .bool _) rfl rfl) ?_
    refine s_run rfl rfl (r_mv (v := .bool _) rfl) ?_
    refine s_off rfl (g_off 24 (by kernel_rfl) rfl rfl) ?_
    refine s_off rfl (g_off 24 (by kernel_rfl) rfl rfl) ?_
    refine s_off rfl (g_off 24 (by kernel_rfl) rfl rfl) ?_
    refine s_off rfl (g_off 24 (by kernel_rfl) rfl rfl) ?_
    refine s_off rfl (g_off 24 (by kernel_rfl) rfl rfl) ?_
    refine s_off rfl (g_off 24 (by kernel_rfl) rfl rfl) ?_
    refine s_off rfl (g_off 24 (by kernel_rfl) rfl rfl) ?_
    refine s_off rfl (g_off 24 (by kernel_rfl) rfl rfl) ?_
    refine s_run rfl rfl (r_pkT (v := .bool _) rfl rfl) ?_
    refine k_nil ?_
    refine c_norm ?_
    refine k_t rfl ?_
    refine k_seq ?_
    refine k_rg ?_
    refine s_run rfl rfl (r_la H 1 rfl rfl rfl ag55 sz55) ?_
    refine s_sw H 0 rfl rfl rfl rfl rfl rfl rfl sz55 ?_
    intro _ H'; simp only [List.set_cons_zero, List.set_cons_succ, List.take_succ_cons, List.take_zero, List.drop_succ_cons, List.drop_zero, List.cons_append, List.nil_append, List.append_nil, List.length_cons, List.length_nil, Nat.reduceAdd] at H'; clear H; have H := H'; clear H'
    refine s_run rfl rfl (r_as (v := .int _ _) rfl) ?_
    refine k_nil ?_
    refine c_norm ?_
    refine k_ret ?_
    refine c_ret ?_
    refine fx2r rfl (rv_a H 0 rfl rfl rfl ag55 sz55) (rv_t (v := .int _ _) rfl) ?_
    exact ⟨s, rfl, H.clear, hr.later H.only (by simp)⟩
  by_cases h4 : 8 * (m : Int) - a < n
  · rw [if_pos (.inr (.inr (.inr h4))), refE]
    refine k_in (N := 73) Try.func75 rfl rfl rfl ?_
    refine k_seq ?_
    refine k_rg ?_
    refine s_box H rfl rfl ?_
    intro p3 _ H'; clear H; have H := H'; clear H'
    refine s_al H rfl inf55 ?_
    intro p6 _ H'; clear H; have H := H'; clear H'
    refine s_run rfl rfl (r_as (v := .int _ _) rfl) ?_
    refine k_nil ?_
    refine c_norm ?_
    refine k_seq ?_
    refine k_seq ?_
    refine k_rg ?_
    refine s_run rfl rfl (r_mv (v := .int _ _) rfl) ?_
    refine s_run rfl rfl (r_lssF rfl rfl (by omega)) ?_
    refine s_run rfl rfl (r_mv (v := .bool _) rfl) ?_
    refine s_run rfl (g_on 12 (by kernel_rfl) rfl) (r_mv (v := .int _ _) rfl) ?_
    refine s_run rfl (g_on 12 (by kernel_rfl) rfl) (r_lssF rfl rfl (by omega)) ?_
    refine s_run rfl rfl (r_pkF (v := .bool _) rfl rfl) ?_
    refine s_run rfl rfl (r_mv (v := .bool _) rfl) ?_
    refine s_run rfl (g_on 16 (by kernel_rfl) rfl) (r_mv (v := .int _ _) rfl) ?_
    refine s_run rfl (g_on 16 (by kernel_rfl) rfl) (r_fa0 rfl fo55_0) ?_
    refine s_run rfl (g_on 16 (by kernel_rfl) rfl) (r_lo H 1 rfl rfl rfl ag52) ?_
    refine s_run rfl (g_on 16 (by kernel_rfl) rfl) (r_len rfl Try.underlying52) ?_
    refine s_run rfl (g_on 16 (by kernel_rfl) rfl) (r_mul rfl rfl (wI (by omega))) ?_
    refine s_run rfl (g_on 16 (by kernel_rfl) rfl) (r_gtrF rfl rfl (by omega)) ?_
    refine s_run rfl rfl (r_pkF (v := .bool _) rfl rfl) ?_
    refine s_run rfl rfl (r_mv (v := .bool _) rfl) ?_
    refine s_run rfl (g_on 24 (by kernel_rfl) rfl) (r_mv (v := .int _ _) rfl) ?_
    refine s_run rfl (g_on 24 (by kernel_rfl) rfl) (r_fa0 rfl fo55_0) ?_
    refine s_run rfl (g_on 24 (by kernel_rfl) rfl) (r_lo H 1 rfl rfl rfl ag52) ?_
    refine s_run rfl (g_on 24 (by kernel_rfl) rfl) (r_len rfl Try.underlying52) ?_
    refine s_run rfl (g_on 24 (by kernel_rfl) rfl) (r_mul rfl rfl (wI (by omega))) ?_
    refine s_run rfl (g_on 24 (by kernel_rfl) rfl) (r_mv (v := .int _ _) rfl) ?_
    refine s_run rfl (g_on 24 (by kernel_rfl) rfl) (r_sub rfl rfl (wI (by omega))) ?_
    refine s_run rfl (g_on 24 (by kernel_rfl) rfl) (r_gtrT rfl rfl (by omega)) ?_
    refine s_run rfl rfl (r_pkF (v := .bool _) rfl rfl) ?_
    refine k_nil ?_
    refine c_norm ?_
    refine k_t rfl ?_
    refine k_seq ?_
    refine k_rg ?_
    refine s_run rfl rfl (r_la H 1 rfl rfl rfl ag55 sz55) ?_
    refine s_sw H 0 rfl rfl rfl rfl rfl rfl rfl sz55 ?_
    intro _ H'; simp only [List.set_cons_zero, List.set_cons_succ, List.take_succ_cons, List.take_zero, List.drop_succ_cons, List.drop_zero, List.cons_append, List.nil_append, List.append_nil, List.length_cons, List.length_nil, Nat.reduceAdd] at H'; clear H; have H := H'; clear H'
    refine s_run rfl rfl (r_as (v := .int _ _) rfl) ?_
    refine k_nil ?_
    refine c_norm ?_
    refine k_ret ?_
    refine c_ret ?_
    refine fx2r rfl (rv_a H 0 rfl rfl rfl ag55 sz55) (rv_t (v := .int _ _) rfl) ?_
    exact ⟨s, rfl, H.clear, hr.later H.only (by simp)⟩
  rw [if_neg (by omega)]
  obtain ⟨i, hi⟩ : ∃ i : Nat, (a / 8).toNat = i := ⟨_, rfl⟩
  obtain ⟨q, hq⟩ : ∃ q : Nat, (if n = 0 then 0 else ((a + n - 1) / 8).toNat + 1 - (a / 8).toNat) = q := ⟨_, rfl⟩
  have hfin : (if n = 0 then Nv.fence d m else if (Nv.flushAll d m (a / 8).toNat (((a + n - 1) / 8).toNat + 1 - (a / 8).toNat)).2 = 0 then Nv.fence (Nv.flushAll d m (a / 8).toNat (((a + n - 1) / 8).toNat + 1 - (a / 8).toNat)).1 m else Nv.flushAll d m (a / 8).toNat (((a + n - 1) / 8).toNat + 1 - (a / 8).toNat)) = (if (Nv.flushAll d m i q).2 = 0 then Nv.fence (Nv.flushAll d m i q).1 m else Nv.flushAll d m i q) := by
    rw [hi] at hq
    rw [hi]
    by_cases h0 : n = 0
    · rw [if_pos h0] at hq ⊢
      subst hq
      rfl
    · rw [if_neg h0] at hq ⊢
      rw [hq]
  rw [hfin]
  clear hfin
  have hi2 : (i : Int) = a / 8 := by omega
  have hq2 : (n = 0 → q = 0) ∧ (n ≠ 0 → (q : Int) = (a + n - 1) / 8 + 1 - a / 8) := by
    constructor
    · intro h0; rw [if_pos h0] at hq; exact hq.symm
    · intro h0; rw [if_neg h0] at hq; omega
  clear hi hq
  rw [refE]
  refine k_in (N := 73) Try.func75 rfl rfl rfl ?_
  refine k_seq ?_
  refine k_rg ?_
  refine s_box H rfl rfl ?_
  intro p3 _ H'; clear H; have H := H'; clear H'
  refine s_al H rfl inf55 ?_
  intro p6 _ H'; clear H; have H := H'; clear H'
  refine s_run rfl rfl (r_as (v := .int _ _) rfl) ?_
  refine k_nil ?_
  refine c_norm ?_
  refine k_seq ?_
  refine k_seq ?_
  refine k_rg ?_
  refine s_run rfl rfl (r_mv (v := .int _ _) rfl) ?_
  refine s_run rfl rfl (r_lssF rfl rfl (by omega)) ?_
  refine s_run rfl rfl (r_mv (v := .bool _) rfl) ?_
  refine s_run rfl (g_on 12 (by kernel_rfl) rfl) (r_mv (v := .int _ _) rfl) ?_
  refine s_run rfl (g_on 12 (by kernel_rfl) rfl) (r_lssF rfl rfl (by omega)) ?_
  refine s_run rfl rfl (r_pkF (v := .bool _) rfl rfl) ?_
  refine s_run rfl rfl (r_mv (v := .bool _) rfl) ?_
  refine s_run rfl (g_on 16 (by kernel_rfl) rfl) (r_mv (v := .int _ _) rfl) ?_
  refine s_run rfl (g_on 16 (by kernel_rfl) rfl) (r_fa0 rfl fo55_0) ?_
  refine s_run rfl (g_on 16 (by kernel_rfl) rfl) (r_lo H 1 rfl rfl rfl ag52) ?_
  refine s_run rfl (g_on 16 (by kernel_rfl) rfl) (r_len rfl Try.underlying52) ?_
  refine s_run rfl (g_on 16 (by kernel_rfl) rfl) (r_mul rfl rfl (wI (by omega))) ?_
  refine s_run rfl (g_on 16 (by kernel_rfl) rfl) (r_gtrF rfl rfl (by omega)) ?_
  refine s_run rfl rfl (r_pkF (v := .bool _) rfl rfl) ?_
  refine s_run rfl rfl (r_mv (v := .bool _) rfl) ?_
  refine s_run rfl (g_on 24 (by kernel_rfl) rfl) (r_mv (v := .int _ _) rfl) ?_
  refine s_run rfl (g_on 24 (by kernel_rfl) rfl) (r_fa0 rfl fo55_0) ?_
  refine s_run rfl (g_on 24 (by kernel_rfl) rfl) (r_lo H 1 rfl rfl rfl ag52) ?_
  refine s_run rfl (g_on 24 (by kernel_rfl) rfl) (r_len rfl Try.underlying52) ?_
  refine s_run rfl (g_on 24 (by kernel_rfl) rfl) (r_mul rfl rfl (wI (by omega))) ?_
  refine s_run rfl (g_on 24 (by kernel_rfl) rfl) (r_mv (v := .int _ _) rfl) ?_
  refine s_run rfl (g_on 24 (by kernel_rfl) rfl) (r_sub rfl rfl (wI (by omega))) ?_
  refine s_run rfl (g_on 24 (by kernel_rfl) rfl) (r_gtrF rfl rfl (by omega)) ?_
  refine s_run rfl rfl (r_pkF (v := .bool _) rfl rfl) ?_
  refine k_nil ?_
  refine c_norm ?_
  refine k_f rfl ?_
  refine k_skip ?_
  refine c_norm ?_
  refine k_seq ?_
  refine k_rg ?_
  refine s_run rfl rfl (r_as (v := .int _ _) rfl) ?_
  refine k_nil ?_
  refine c_norm ?_
  refine k_seq ?_
  refine k_seq ?_
  refine k_rg ?_
  refine s_run rfl rfl (r_as (v := .int _ _) rfl) ?_
  refine k_nil ?_
  refine c_norm ?_
  refine k_b ?_
  have hp3 : p3 ∉ F ∧ p6 ∉ F := by
    have h5 := H.own p3 (by simp [ids, blk])
    have h6 := H.own p6 (by simp [ids, blk])
    constructor
    · intro hm'; have := hF _ hm'; rcases h5 with h5 | h5
      · cases h5
      · omega
    · intro hm'; have := hF _ hm'; rcases h6 with h6 | h6
      · cases h6
      · omega
  have hr1 : RefOk _ (p3 :: p6 :: F) s d m := (hr.news (G := p3 :: p6 :: F) (by
    intro j hj
    have h5 := H.own p3 (by simp [ids, blk])
    have h6 := H.own p6 (by simp [ids, blk])
    rcases List.mem_cons.1 hj with rfl | hj
    · rcases h5 with h5 | h5
      · cases h5
      · exact .inr h5
    · rcases List.mem_cons.1 hj with rfl | hj
      · rcases h6 with h6 | h6
        · cases h6
        · exact .inr h6
      · exact .inl hj)).later H.only (by simp)
  refine k_loop (fun z f W => ∃ (k j : Nat) (x : Nv.D) (s' : RefS), k ≤ m ∧ z = m - k ∧ (k ≤ i → j = 0) ∧ (i < k → k ≤ i + q → j = k - i) ∧ (i + q < k → j = q) ∧ j ≤ q ∧ RefOk W (p3 :: p6 :: F) s' x m ∧ Nv.flushAll d m i q = Nv.flushAll x m (i + j) (q - j) ∧ f 1 = .int .i64 a ∧ f 2 = .int .i64 n ∧ f 3 = ptr p3 ∧ f 6 = ptr p6 ∧ f 9 = .int .i64 k ∧ Heap w [] [blk p6 [.slice none 0 0, .slice none 0 0, .slice none 0 0, .slice none 0 0, .slice none 0 0, .int .i64 0, .int .i64 0, .bool false] 55, blk p3 (refCells s' x m) 55] W) m ⟨0, 0, d, s, by omega, rfl, fun _ => rfl, by omega, by omega, by omega, hr1, rfl, rfl, rfl, rfl, rfl, rfl, H⟩ ?_
  clear H hr1
  rintro z f W ⟨k, j, x, s', hk, rfl, hj1, hj2, hj3, hj4, hx, hfl, f1, f2, f3, f6, f9, H⟩
  obtain ⟨f, rfl⟩ := live5 f1 f2 f3 f6 f9
  clear f1 f2 f3 f6 f9
  have hlt3 : ∀ y ∈ p3 :: p6 :: F, y < W.heap.size := by
    intro y hy
    rcases List.mem_cons.1 hy with rfl | hy
    · exact H.idlt _ (by simp [ids, blk])
    · rcases List.mem_cons.1 hy with rfl | hy
      · exact H.idlt _ (by simp [ids, blk])
      · exact Nat.lt_of_lt_of_le (hF _ hy) H.only.size
  by_cases hlt : k < m
  · by_cases hn : 0 < n
    · have hqq := hq2.2 (by omega)
      by_cases hin : i ≤ k ∧ k < i + q
      · have hjk : j = k - i := by
          by_cases hki : k = i
          · rw [hj1 (by omega)]; omega
          · exact hj2 (by omega) (by omega)
        obtain ⟨r, hr2⟩ : ∃ r, q - j = r + 1 := ⟨q - j - 1, by omega⟩
        rw [hr2, show i + j = k from by omega, Nv.flushAll] at hfl
        have hFl := rFlush s' x m (k : Int) (p3 :: p6 :: F) W hx hlt3 hm
        by_cases he : (Nv.flush x m (k : Int)).2 = 0
        · rw [if_pos he] at hfl
          rw [he] at hFl
          refine k_seq ?_
          refine k_seq ?_
          refine k_rg ?_
          refine s_run rfl rfl (r_mv (v := .int _ _) rfl) ?_
          refine s_run rfl rfl (r_fa0 rfl fo55_0) ?_
          refine s_run rfl rfl (r_lo H 1 rfl rfl rfl ag52) ?_
          refine s_run rfl rfl (r_len rfl Try.underlying52) ?_
          refine s_run rfl rfl (r_lssT rfl rfl (by omega)) ?_
          refine k_nil ?_
          refine c_norm ?_
          refine k_t rfl ?_
          refine k_skip ?_
          refine c_norm ?_
          refine k_seq ?_
          refine k_b ?_
          refine k_seq ?_
          refine k_rg ?_
          refine s_run rfl rfl (r_mv (v := .int _ _) rfl) ?_
          refine s_run rfl rfl (r_gtrT rfl rfl (by omega)) ?_
          refine s_run rfl rfl (r_mv (v := .bool _) rfl) ?_
          refine s_run rfl (g_on 44 (by kernel_rfl) rfl) (r_mv (v := .int _ _) rfl) ?_
          refine s_run rfl (g_on 44 (by kernel_rfl) rfl) (r_mul rfl rfl (wI (by omega))) ?_
          refine s_run rfl (g_on 44 (by kernel_rfl) rfl) (r_add rfl rfl (wI (by omega))) ?_
          refine s_run rfl (g_on 44 (by kernel_rfl) rfl) (r_mv (v := .int _ _) rfl) ?_
          refine s_run rfl (g_on 44 (by kernel_rfl) rfl) (r_geqT rfl rfl (by omega)) ?_
          refine s_run rfl rfl (r_pkT (v := .bool _) rfl rfl) ?_
          refine s_run rfl rfl (r_mv (v := .bool _) rfl) ?_
          refine s_run rfl (g_on 51 (by kernel_rfl) rfl) (r_mv (v := .int _ _) rfl) ?_
          refine s_run rfl (g_on 51 (by kernel_rfl) rfl) (r_mul rfl rfl (wI (by omega))) ?_
          refine s_run rfl (g_on 51 (by kernel_rfl) rfl) (r_mv (v := .int _ _) rfl) ?_
          refine s_run rfl (g_on 51 (by kernel_rfl) rfl) (r_mv (v := .int _ _) rfl) ?_
          refine s_run rfl (g_on 51 (by kernel_rfl) rfl) (r_add rfl rfl (wI (by omega))) ?_
          refine s_run rfl (g_on 51 (by kernel_rfl) rfl) (r_lssT rfl rfl (by omega)) ?_
          refine s_run rfl rfl (r_pkT (v := .bool _) rfl rfl) ?_
          refine k_nil ?_
          refine c_norm ?_
          refine k_t rfl ?_
          refine k_seq ?_
          refine k_rg ?_
          refine s_run rfl rfl (r_la H 1 rfl rfl rfl ag55 sz55) ?_
          refine s_run rfl rfl (r_mv (v := .int _ _) rfl) ?_
          refine s_call rfl (hFl) (ca72 rfl) ?_
          rintro e W1 ⟨s2, rfl, H', hr'⟩
          refine ⟨_, rfl, ?_⟩
          have H := H.same H'.only; clear H'; simp only [refE]; have HB := H; clear H; have H := Heap.start HB.ents
          refine s_run rfl rfl (r_mv (v := .tuple _) rfl) ?_
          refine s_run rfl rfl (r_ext (v := .agg _) rfl rfl) ?_
          refine s_run rfl rfl (r_ext (v := .int _ _) rfl rfl) ?_
          refine s_sw H 1 rfl rfl rfl rfl rfl rfl rfl sz55 ?_
          intro _ H'; simp only [List.set_cons_zero, List.set_cons_succ, List.take_succ_cons, List.take_zero, List.drop_succ_cons, List.drop_zero, List.cons_append, List.nil_append, List.append_nil, List.length_cons, List.length_nil, Nat.reduceAdd] at H'; clear H; have H := H'; clear H'
          refine s_run rfl rfl (r_as (v := .int _ _) rfl) ?_
          refine k_nil ?_
          refine c_norm ?_
          refine k_seq ?_
          refine k_rg ?_
          refine s_run rfl rfl (r_mv (v := .int _ _) rfl) ?_
          refine s_run rfl rfl (r_neqF rfl rfl (by omega)) ?_
          refine k_nil ?_
          refine c_norm ?_
          refine k_f rfl ?_
          refine k_skip ?_
          refine b_norm ?_
          refine c_norm ?_
          refine k_rg ?_
          refine s_run rfl rfl (r_mv (v := .int _ _) rfl) ?_
          refine s_run rfl rfl (r_add rfl rfl (wI (by omega))) ?_
          refine s_run rfl rfl (r_as (v := .int _ _) rfl) ?_
          refine k_nil ?_
          refine c_round ?_
          refine ⟨_, _, ?_, rfl, k + 1, j + 1, _, s2, by omega, rfl, by omega, by omega, by omega, by omega, hr'.later H.only (by simp [ids, blk]), ?_, rfl, rfl, rfl, rfl, rfl, HB.whole H⟩
          · omega
          · rw [hfl, show i + (j + 1) = k + 1 from by omega, show q - (j + 1) = r from by omega]
        · rw [if_neg he] at hfl
          rw [hfl, if_neg he]
          refine k_seq ?_
          refine k_seq ?_
          refine k_rg ?_
          refine s_run rfl rfl (r_mv (v := .int _ _) rfl) ?_
          refine s_run rfl rfl (r_fa0 rfl fo55_0) ?_
          refine s_run rfl rfl (r_lo H 1 rfl rfl rfl ag52) ?_
          refine s_run rfl rfl (r_len rfl Try.underlying52) ?_
          refine s_run rfl rfl (r_lssT rfl rfl (by omega)) ?_
          refine k_nil ?_
          refine c_norm ?_
          refine k_t rfl ?_
          refine k_skip ?_
          refine c_norm ?_
          refine k_seq ?_
          refine k_b ?_
          refine k_seq ?_
          refine k_rg ?_
          refine s_run rfl rfl (r_mv (v := .int _ _) rfl) ?_
          refine s_run rfl rfl (r_gtrT rfl rfl (by omega)) ?_
          refine s_run rfl rfl (r_mv (v := .bool _) rfl) ?_
          refine s_run rfl (g_on 44 (by kernel_rfl) rfl) (r_mv (v := .int _ _) rfl) ?_
          refine s_run rfl (g_on 44 (by kernel_rfl) rfl) (r_mul rfl rfl (wI (by omega))) ?_
          refine s_run rfl (g_on 44 (by kernel_rfl) rfl) (r_add rfl rfl (wI (by omega))) ?_
          refine s_run rfl (g_on 44 (by kernel_rfl) rfl) (r_mv (v := .int _ _) rfl) ?_
          refine s_run rfl (g_on 44 (by kernel_rfl) rfl) (r_geqT rfl rfl (by omega)) ?_
          refine s_run rfl rfl (r_pkT (v := .bool _) rfl rfl) ?_
          refine s_run rfl rfl (r_mv (v := .bool _) rfl) ?_
          refine s_run rfl (g_on 51 (by kernel_rfl) rfl) (r_mv (v := .int _ _) rfl) ?_
          refine s_run rfl (g_on 51 (by kernel_rfl) rfl) (r_mul rfl rfl (wI (by omega))) ?_
          refine s_run rfl (g_on 51 (by kernel_rfl) rfl) (r_mv (v := .int _ _) rfl) ?_
          refine s_run rfl (g_on 51 (by kernel_rfl) rfl) (r_mv (v := .int _ _) rfl) ?_
          refine s_run rfl (g_on 51 (by kernel_rfl) rfl) (r_add rfl rfl (wI (by omega))) ?_
          refine s_run rfl (g_on 51 (by kernel_rfl) rfl) (r_lssT rfl rfl (by omega)) ?_
          refine s_run rfl rfl (r_pkT (v := .bool _) rfl rfl) ?_
          refine k_nil ?_
          refine c_norm ?_
          refine k_t rfl ?_
          refine k_seq ?_
          refine k_rg ?_
          refine s_run rfl rfl (r_la H 1 rfl rfl rfl ag55 sz55) ?_
          refine s_run rfl rfl (r_mv (v := .int _ _) rfl) ?_
          refine s_call rfl (hFl) (ca72 rfl) ?_
          rintro e W1 ⟨s2, rfl, H', hr'⟩
          refine ⟨_, rfl, ?_⟩
          have H := H.same H'.only; clear H'; simp only [refE]; have HB := H; clear H; have H := Heap.start HB.ents
          refine s_run rfl rfl (r_mv (v := .tuple _) rfl) ?_
          refine s_run rfl rfl (r_ext (v := .agg _) rfl rfl) ?_
          refine s_run rfl rfl (r_ext (v := .int _ _) rfl rfl) ?_
          refine s_sw H 1 rfl rfl rfl rfl rfl rfl rfl sz55 ?_
          intro _ H'; simp only [List.set_cons_zero, List.set_cons_succ, List.take_succ_cons, List.take_zero, List.drop_succ_cons, List.drop_zero, List.cons_append, List.nil_append, List.append_nil, List.length_cons, List.length_nil, Nat.reduceAdd] at H'; clear H; have H := H'; clear H'
          refine s_run rfl rfl (r_as (v := .int _ _) rfl) ?_
          refine k_nil ?_
          refine c_norm ?_
          refine k_seq ?_
          refine k_rg ?_
          refine s_run rfl rfl (r_mv (v := .int _ _) rfl) ?_
          refine s_run rfl rfl (r_neqT rfl rfl (by omega)) ?_
          refine k_nil ?_
          refine c_norm ?_
          refine k_t rfl ?_
          refine k_seq ?_
          refine k_rg ?_
          refine s_run rfl rfl (r_la H 1 rfl rfl rfl ag55 sz55) ?_
          refine s_run rfl rfl (r_mv (v := .int _ _) rfl) ?_
          refine s_sw H 0 rfl rfl rfl rfl rfl rfl rfl sz55 ?_
          intro _ H'; simp only [List.set_cons_zero, List.set_cons_succ, List.take_succ_cons, List.take_zero, List.drop_succ_cons, List.drop_zero, List.cons_append, List.nil_append, List.append_nil, List.length_cons, List.length_nil, Nat.reduceAdd] at H'; clear H; have H := H'; clear H'
          refine s_run rfl rfl (r_as (v := .int _ _) rfl) ?_
          refine k_nil ?_
          refine c_norm ?_
          refine k_ret ?_
          refine b_ret ?_
          refine c_ret ?_
          refine c_ret ?_
          refine b_ret ?_
          refine c_ret ?_
          refine fx2r rfl (rv_a H 0 rfl rfl rfl ag55 sz55) (rv_t (v := .int _ _) rfl) ?_
          exact ⟨s2, rfl, (HB.whole H).clear, (hr'.later H.only (by simp [ids, blk])).news (fun y hy => .inl (by simp [hy]))⟩
      · by_cases hb : 8 * (k : Int) + 7 < a
        · refine k_seq ?_
          refine k_seq ?_
          refine k_rg ?_
          refine s_run rfl rfl (r_mv (v := .int _ _) rfl) ?_
          refine s_run rfl rfl (r_fa0 rfl fo55_0) ?_
          refine s_run rfl rfl (r_lo H 1 rfl rfl rfl ag52) ?_
          refine s_run rfl rfl (r_len rfl Try.underlying52) ?_
          refine s_run rfl rfl (r_lssT rfl rfl (by omega)) ?_
          refine k_nil ?_
          refine c_norm ?_
          refine k_t rfl ?_
          refine k_skip ?_
          refine c_norm ?_
          refine k_seq ?_
          refine k_b ?_
          refine k_seq ?_
          refine k_rg ?_
          refine s_run rfl rfl (r_mv (v := .int _ _) rfl) ?_
          refine s_run rfl rfl (r_gtrT rfl rfl (by omega)) ?_
          refine s_run rfl rfl (r_mv (v := .bool _) rfl) ?_
          refine s_run rfl (g_on 44 (by kernel_rfl) rfl) (r_mv (v := .int _ _) rfl) ?_
          refine s_run rfl (g_on 44 (by kernel_rfl) rfl) (r_mul rfl rfl (wI (by omega))) ?_
          refine s_run rfl (g_on 44 (by kernel_rfl) rfl) (r_add rfl rfl (wI (by omega))) ?_
          refine s_run rfl (g_on 44 (by kernel_rfl) rfl) (r_mv (v := .int _ _) rfl) ?_
          refine s_run rfl (g_on 44 (by kernel_rfl) rfl) (r_geqF rfl rfl (by omega)) ?_
          refine s_run rfl rfl (r_pkT (v := .bool _) rfl rfl) ?_
          refine s_run rfl rfl (r_mv (v := .bool _) rfl) ?_
          refine s_off rfl (g_off 51 (by kernel_rfl) rfl rfl) ?_
          refine s_off rfl (g_off 51 (by kernel_rfl) rfl rfl) ?_
          refine s_off rfl (g_off 51 (by kernel_rfl) rfl rfl) ?_
          refine s_off rfl (g_off 51 (by kernel_rfl) rfl rfl) ?_
          refine s_off rfl (g_off 51 (by kernel_rfl) rfl rfl) ?_
          refine s_off rfl (g_off 51 (by kernel_rfl) rfl rfl) ?_
          refine s_run rfl rfl (r_pkF (v := .bool _) rfl rfl) ?_
          refine k_nil ?_
          refine c_norm ?_
          refine k_f rfl ?_
          refine k_skip ?_
          refine b_norm ?_
          refine c_norm ?_
          refine k_rg ?_
          refine s_run rfl rfl (r_mv (v := .int _ _) rfl) ?_
          refine s_run rfl rfl (r_add rfl rfl (wI (by omega))) ?_
          refine s_run rfl rfl (r_as (v := .int _ _) rfl) ?_
          refine k_nil ?_
          refine c_round ?_
          refine ⟨_, _, ?_, rfl, k + 1, j, x, s', by omega, rfl, by omega, by omega, by omega, by omega, hx, hfl, rfl, rfl, rfl, rfl, rfl, H⟩
          omega
        · refine k_seq ?_
          refine k_seq ?_
          refine k_rg ?_
          refine s_run rfl rfl (r_mv (v := .int _ _) rfl) ?_
          refine s_run rfl rfl (r_fa0 rfl fo55_0) ?_
          refine s_run rfl rfl (r_lo H 1 rfl rfl rfl ag52) ?_
          refine s_run rfl rfl (r_len rfl Try.underlying52) ?_
          refine s_run rfl rfl (r_lssT rfl rfl (by omega)) ?_
          refine k_nil ?_
          refine c_norm ?_
          refine k_t rfl ?_
          refine k_skip ?_
          refine c_norm ?_
          refine k_seq ?_
          refine k_b ?_
          refine k_seq ?_
          refine k_rg ?_
          refine s_run rfl rfl (r_mv (v := .int _ _) rfl) ?_
          refine s_run rfl rfl (r_gtrT rfl rfl (by omega)) ?_
          refine s_run rfl rfl (r_mv (v := .bool _) rfl) ?_
          refine s_run rfl (g_on 44 (by kernel_rfl) rfl) (r_mv (v := .int _ _) rfl) ?_
          refine s_run rfl (g_on 44 (by kernel_rfl) rfl) (r_mul rfl rfl (wI (by omega))) ?_
          refine s_run rfl (g_on 44 (by kernel_rfl) rfl) (r_add rfl rfl (wI (by omega))) ?_
          refine s_run rfl (g_on 44 (by kernel_rfl) rfl) (r_mv (v := .int _ _) rfl) ?_
          refine s_run rfl (g_on 44 (by kernel_rfl) rfl) (r_geqT rfl rfl (by omega)) ?_
          refine s_run rfl rfl (r_pkT (v := .bool _) rfl rfl) ?_
          refine s_run rfl rfl (r_mv (v := .bool _) rfl) ?_
          refine s_run rfl (g_on 51 (by kernel_rfl) rfl) (r_mv (v := .int _ _) rfl) ?_
          refine s_run rfl (g_on 51 (by kernel_rfl) rfl) (r_mul rfl rfl (wI (by omega))) ?_
          refine s_run rfl (g_on 51 (by kernel_rfl) rfl) (r_mv (v := .int _ _) rfl) ?_
          refine s_run rfl (g_on 51 (by kernel_rfl) rfl) (r_mv (v := .int _ _) rfl) ?_
          refine s_run rfl (g_on 51 (by kernel_rfl) rfl) (r_add rfl rfl (wI (by omega))) ?_
          refine s_run rfl (g_on 51 (by kernel_rfl) rfl) (r_lssF rfl rfl (by omega)) ?_
          refine s_run rfl rfl (r_pkT (v := .bool _) rfl rfl) ?_
          refine k_nil ?_
          refine c_norm ?_
          refine k_f rfl ?_
          refine k_skip ?_
          refine b_norm ?_
          refine c_norm ?_
          refine k_rg ?_
          refine s_run rfl rfl (r_mv (v := .int _ _) rfl) ?_
          refine s_run rfl rfl (r_add rfl rfl (wI (by omega))) ?_
          refine s_run rfl rfl (r_as (v := .int _ _) rfl) ?_
          refine k_nil ?_
          refine c_round ?_
          refine ⟨_, _, ?_, rfl, k + 1, j, x, s', by omega, rfl, by omega, by omega, by omega, by omega, hx, hfl, rfl, rfl, rfl, rfl, rfl, H⟩
          omega
    · have hqq := hq2.1 (by omega)
      refine k_seq ?_
      refine k_seq ?_
      refine k_rg ?_
      refine s_run rfl rfl (r_mv (v := .int _ _) rfl) ?_
      refine s_run rfl rfl (r_fa0 rfl fo55_0) ?_
      refine s_run rfl rfl (r_lo H 1 rfl rfl rfl ag52) ?_
      refine s_run rfl rfl (r_len rfl Try.underlying52) ?_
      refine s_run rfl rfl (r_lssT rfl rfl (by omega)) ?_
      refine k_nil ?_
      refine c_norm ?_
      refine k_t rfl ?_
      refine k_skip ?_
      refine c_norm ?_
      refine k_seq ?_
      refine k_b ?_
      refine k_seq ?_
      refine k_rg ?_
      refine s_run rfl rfl (r_mv (v := .int _ _) rfl) ?_
      refine s_run rfl rfl (r_gtrF rfl rfl (by omega)) ?_
      refine s_run rfl rfl (r_mv (v := .bool _) rfl) ?_
      refine s_off rfl (g_off 44 (by kernel_rfl) rfl rfl) ?_
      refine s_off rfl (g_off 44 (by kernel_rfl) rfl rfl) ?_
      refine s_off rfl (g_off 44 (by kernel_rfl) rfl rfl) ?_
      refine s_off rfl (g_off 44 (by kernel_rfl) rfl rfl) ?_
      refine s_off rfl (g_off 44 (by kernel_rfl) rfl rfl) ?_
      refine s_run rfl rfl (r_pkF (v := .bool _) rfl rfl) ?_
      refine s_run rfl rfl (r_mv (v := .bool _) rfl) ?_
      refine s_off rfl (g_off 51 (by kernel_rfl) rfl rfl) ?_
      refine s_off rfl (g_off 51 (by kernel_rfl) rfl rfl) ?_
      refine s_off rfl (g_off 51 (by kernel_rfl) rfl rfl) ?_
      refine s_off rfl (g_off 51 (by kernel_rfl) rfl rfl) ?_
      refine s_off rfl (g_off 51 (by kernel_rfl) rfl rfl) ?_
      refine s_off rfl (g_off 51 (by kernel_rfl) rfl rfl) ?_
      refine s_run rfl rfl (r_pkF (v := .bool _) rfl rfl) ?_
      refine k_nil ?_
      refine c_norm ?_
      refine k_f rfl ?_
      refine k_skip ?_
      refine b_norm ?_
      refine c_norm ?_
      refine k_rg ?_
      refine s_run rfl rfl (r_mv (v := .int _ _) rfl) ?_
      refine s_run rfl rfl (r_add rfl rfl (wI (by omega))) ?_
      refine s_run rfl rfl (r_as (v := .int _ _) rfl) ?_
      refine k_nil ?_
      refine c_round ?_
      refine ⟨_, _, ?_, rfl, k + 1, j, x, s', by omega, rfl, by omega, by omega, by omega, by omega, hx, hfl, rfl, rfl, rfl, rfl, rfl, H⟩
      omega
  · obtain rfl : k = m := by omega
    have hjq : j = q := by
      by_cases h0 : n = 0
      · have := hq2.1 h0; omega
      · have := hq2.2 h0
        by_cases hki : k ≤ i
        · omega
        · by_cases hkq : k ≤ i + q
          · have := hj2 (by omega) hkq; omega
          · exact hj3 (by omega)
    rw [hjq, Nat.sub_self, Nv.flushAll] at hfl
    rw [hfl, if_pos rfl]
    have hFe := rFence s' x k (p3 :: p6 :: F) W hx hlt3 hm
    refine k_seq ?_
    refine k_seq ?_
    refine k_rg ?_
    refine s_run rfl rfl (r_mv (v := .int _ _) rfl) ?_
    refine s_run rfl rfl (r_fa0 rfl fo55_0) ?_
    refine s_run rfl rfl (r_lo H 1 rfl rfl rfl ag52) ?_
    refine s_run rfl rfl (r_len rfl Try.underlying52) ?_
    refine s_run rfl rfl (r_lssF rfl rfl (by omega)) ?_
    refine k_nil ?_
    refine c_norm ?_
    refine k_f rfl ?_
    refine k_exit ?_
    refine c_exit ?_
    refine c_exit ?_
    refine b_hit ?_
    refine c_norm ?_
    refine k_seq ?_
    refine k_rg ?_
    refine s_run rfl rfl (r_la H 1 rfl rfl rfl ag55 sz55) ?_
    refine s_call rfl (hFe) (ca73 rfl) ?_
    rintro e W1 ⟨s2, rfl, H', hr'⟩
    refine ⟨_, rfl, ?_⟩
    have H := H.same H'.only; clear H'; simp only [refE]; have HB := H; clear H; have H := Heap.start HB.ents
    refine s_run rfl rfl (r_ext (v := .agg _) rfl rfl) ?_
    refine s_run rfl rfl (r_ext (v := .int _ _) rfl rfl) ?_
    refine s_sw H 0 rfl rfl rfl rfl rfl rfl rfl sz55 ?_
    intro _ H'; simp only [List.set_cons_zero, List.set_cons_succ, List.take_succ_cons, List.take_zero, List.drop_succ_cons, List.drop_zero, List.cons_append, List.nil_append, List.append_nil, List.length_cons, List.length_nil, Nat.reduceAdd] at H'; clear H; have H := H'; clear H'
    refine s_run rfl rfl (r_as (v := .int _ _) rfl) ?_
    refine k_nil ?_
    refine c_norm ?_
    refine k_ret ?_
    refine fx2r rfl (rv_a H 0 rfl rfl rfl ag55 sz55) (rv_t (v := .int _ _) rfl) ?_
    exact ⟨s2, rfl, (HB.whole H).clear, (hr'.later H.only (by simp [ids, blk])).news (fun y hy => .inl (by simp [hy]))⟩
end Go.Proofs.Ytmekhdclnhhhbaa
