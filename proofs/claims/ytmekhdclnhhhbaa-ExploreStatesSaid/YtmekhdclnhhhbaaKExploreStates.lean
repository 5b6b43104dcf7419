/-
  ExploreStates: for every input the Go function answers true, and its arguments read afterwards as they read before. No condition.
-/
import Derived.Test.YtmekhdclnhhhbaaKExploreStatesc
section
namespace Go.Proofs.Ytmekhdclnhhhbaa
open Go.RowKit
set_option linter.unusedSimpArgs false
set_option linter.unusedVariables false
theorem awake36 (w : World) : Calls Try.prog 52 [].toArray w fun e w' => e = .returned (.bool true) ∧ Only [] w w' :=
  (awake36_any w).mono fun _ _ h => ⟨h.1, Only.of_below h.2 _⟩
theorem walk_ExploreStates (A : Option Addr) (n c : Nat) (zs : List Int) (x : Option Addr × Nat × Nat × List OpS) (most : Int) (w : World) (hr : IsRow .u64 w A n c zs) (hx : Script w x.1 x.2.2.2 ∧ x.2.2.2.length = x.2.1 ∧ x.2.1 ≤ 9223372036854775807) (wm : (Lit.int .i64 most).wf = true) :
    Calls Try.prog 12 [.slice A n c, .slice x.1 x.2.1 x.2.2.1, .int .i64 most].toArray w fun e w' => e = .returned (.bool true) ∧ Below w.heap.size w w' := by
  obtain ⟨B, q, cq, ops⟩ := x
  obtain ⟨hs, hl, hq⟩ := hx
  dsimp only at hs hl hq ⊢
  obtain ⟨hz, lz, hnc, hcm, _⟩ := row_words hr
  have hmo := bounds_i64 wm
  unfold maxLen at hcm
  generalize zs.take n = xs at *
  have H := Heap.nil w
  by_cases h1 : 60 < n
  · refine k_in (N := 114) Try.func12 rfl rfl rfl ?_
    refine k_seq ?_
    refine k_rg ?_
    refine s_run rfl rfl (r_as (v := .bool _) rfl) ?_
    refine k_nil ?_
    refine c_norm ?_
    refine k_seq ?_
    refine k_seq ?_
    refine k_rg ?_
    refine s_call rfl (awake36 _) (ca52 rfl) ?_
    rintro e W1 ⟨rfl, H'⟩
    refine ⟨_, rfl, ?_⟩
    have H := H.same H'; clear H'
    refine s_run rfl rfl (r_notT rfl) ?_
    refine k_nil ?_
    refine c_norm ?_
    refine k_f rfl ?_
    refine k_skip ?_
    refine c_norm ?_
    refine k_seq ?_
    refine k_seq ?_
    refine k_rg ?_
    refine s_run rfl rfl (r_mv (v := .slice _ _ _) rfl) ?_
    refine s_run rfl rfl (r_len rfl Try.underlying25) ?_
    refine s_run rfl rfl (r_gtrT rfl rfl (by omega)) ?_
    refine s_run rfl rfl (r_mv (v := .bool _) rfl) ?_
    refine s_off rfl (g_off 20 (by kernel_rfl) rfl rfl) ?_
    refine s_off rfl (g_off 20 (by kernel_rfl) rfl rfl) ?_
    refine s_off rfl (g_off 20 (by kernel_rfl) rfl rfl) ?_
    refine s_run rfl rfl (r_pkT (v := .bool _) rfl rfl) ?_
    refine k_nil ?_
    refine c_norm ?_
    refine k_t rfl ?_
    refine k_seq ?_
    refine k_rg ?_
    refine s_run rfl rfl (r_as (v := .bool _) rfl) ?_
    refine k_nil ?_
    refine c_norm ?_
    refine k_ret ?_
    refine c_ret ?_
    refine fin1r (v := .bool _) rfl rfl ?_
    exact ⟨rfl, H.only.below⟩
  by_cases h2 : 30 < q
  · refine k_in (N := 114) Try.func12 rfl rfl rfl ?_
    refine k_seq ?_
    refine k_rg ?_
    refine s_run rfl rfl (r_as (v := .bool _) rfl) ?_
    refine k_nil ?_
    refine c_norm ?_
    refine k_seq ?_
    refine k_seq ?_
    refine k_rg ?_
    refine s_call rfl (awake36 _) (ca52 rfl) ?_
    rintro e W1 ⟨rfl, H'⟩
    refine ⟨_, rfl, ?_⟩
    have H := H.same H'; clear H'
    refine s_run rfl rfl (r_notT rfl) ?_
    refine k_nil ?_
    refine c_norm ?_
    refine k_f rfl ?_
    refine k_skip ?_
    refine c_norm ?_
    refine k_seq ?_
    refine k_seq ?_
    refine k_rg ?_
    refine s_run rfl rfl (r_mv (v := .slice _ _ _) rfl) ?_
    refine s_run rfl rfl (r_len rfl Try.underlying25) ?_
    refine s_run rfl rfl (r_gtrF rfl rfl (by omega)) ?_
    refine s_run rfl rfl (r_mv (v := .bool _) rfl) ?_
    refine s_run rfl (g_on 20 (by kernel_rfl) rfl) (r_mv (v := .slice _ _ _) rfl) ?_
    refine s_run rfl (g_on 20 (by kernel_rfl) rfl) (r_len rfl Try.underlying46) ?_
    refine s_run rfl (g_on 20 (by kernel_rfl) rfl) (r_gtrT rfl rfl (by omega)) ?_
    refine s_run rfl rfl (r_pkF (v := .bool _) rfl rfl) ?_
    refine k_nil ?_
    refine c_norm ?_
    refine k_t rfl ?_
    refine k_seq ?_
    refine k_rg ?_
    refine s_run rfl rfl (r_as (v := .bool _) rfl) ?_
    refine k_nil ?_
    refine c_norm ?_
    refine k_ret ?_
    refine c_ret ?_
    refine fin1r (v := .bool _) rfl rfl ?_
    exact ⟨rfl, H.only.below⟩
  have hL := fun W hz => nLoad A n c xs W hz lz (by omega)
  have hI : Nv.Inv (Nv.load (xs ++ List.replicate (8 * ((n + 7) / 8) - n) 0) ((n + 7) / 8)) ((n + 7) / 8) := Nv.Inv.load _ _ (by rw [List.length_append, lz, List.length_replicate]; omega)
  have hm : (n + 7) / 8 ≤ 8 := by omega
  generalize Nv.load (xs ++ List.replicate (8 * ((n + 7) / 8) - n) 0) ((n + 7) / 8) = d0 at *
  generalize (n + 7) / 8 = m at *
  refine k_in (N := 114) Try.func12 rfl rfl rfl ?_
  refine k_seq ?_
  refine k_rg ?_
  refine s_run rfl rfl (r_as (v := .bool _) rfl) ?_
  refine k_nil ?_
  refine c_norm ?_
  refine k_seq ?_
  refine k_seq ?_
  refine k_rg ?_
  refine s_call rfl (awake36 _) (ca52 rfl) ?_
  rintro e W1 ⟨rfl, H'⟩
  refine ⟨_, rfl, ?_⟩
  have H := H.same H'; clear H'
  refine s_run rfl rfl (r_notT rfl) ?_
  refine k_nil ?_
  refine c_norm ?_
  refine k_f rfl ?_
  refine k_skip ?_
  refine c_norm ?_
  refine k_seq ?_
  refine k_seq ?_
  refine k_rg ?_
  refine s_run rfl rfl (r_mv (v := .slice _ _ _) rfl) ?_
  refine s_run rfl rfl (r_len rfl Try.underlying25) ?_
  refine s_run rfl rfl (r_gtrF rfl rfl (by omega)) ?_
  refine s_run rfl rfl (r_mv (v := .bool _) rfl) ?_
  refine s_run rfl (g_on 20 (by kernel_rfl) rfl) (r_mv (v := .slice _ _ _) rfl) ?_
  refine s_run rfl (g_on 20 (by kernel_rfl) rfl) (r_len rfl Try.underlying46) ?_
  refine s_run rfl (g_on 20 (by kernel_rfl) rfl) (r_gtrF rfl rfl (by omega)) ?_
  refine s_run rfl rfl (r_pkF (v := .bool _) rfl rfl) ?_
  refine k_nil ?_
  refine c_norm ?_
  refine k_f rfl ?_
  refine k_skip ?_
  refine c_norm ?_
  refine k_seq ?_
  refine k_rg ?_
  refine s_run rfl rfl (r_mv (v := .slice _ _ _) rfl) ?_
  refine s_call rfl (hL _ (hz.later H.only (by simp))) (ca16 rfl) ?_
  rintro e W1 ⟨g, rfl, hg, H'⟩
  refine ⟨_, rfl, ?_⟩
  have H := H.more (A := [grp _]) (grp_heap H'); clear H'; simp only [List.cons_append, List.nil_append] at H
  refine s_run rfl rfl (r_as (v := .pointer _) rfl) ?_
  refine k_nil ?_
  refine c_norm ?_
  refine k_seq ?_
  refine k_seq ?_
  refine k_rg ?_
  refine s_run rfl rfl (r_mv (v := .pointer _) rfl) ?_
  refine s_run rfl rfl (r_ptnilF rfl rfl Try.underlying26) ?_
  refine k_nil ?_
  refine c_norm ?_
  refine k_f rfl ?_
  refine k_skip ?_
  refine c_norm ?_
  refine k_seq ?_
  refine k_seq ?_
  refine k_rg ?_
  refine s_run rfl rfl (r_as (v := .int _ _) rfl) ?_
  refine k_nil ?_
  refine c_norm ?_
  refine k_b ?_
  refine k_loop (fun z f W => ∃ (k : Nat) (d : Nv.D), k ≤ q ∧ z = q - k ∧ Nv.Inv d m ∧ f 1 = .slice B q cq ∧ f 2 = .int .i64 most ∧ f 7 = ptr g.p ∧ f 8 = .int .i64 k ∧ Heap w [] [grp (devL g d)] W) q ⟨0, d0, by omega, rfl, hI, rfl, rfl, rfl, rfl, H⟩ ?_
  clear H hI
  rintro z f W ⟨k, d, hk, rfl, hI, f1, f2, f7, f8, H⟩
  obtain ⟨f, rfl⟩ := live4 f1 f2 f7 f8
  clear f1 f2 f7 f8
  by_cases hlt : k < q
  · obtain ⟨b, o, rfl, hrd⟩ := hs.1 (by omega)
    obtain ⟨op, hop⟩ : ∃ op, ops[k]? = some op := ⟨_, List.getElem?_eq_getElem (by omega)⟩
    have hcell := hrd k op hop
    have hok := hs.2 op (List.mem_of_getElem? hop)
    by_cases k0 : op.k = 0
    · refine k_seq ?_
      refine k_seq ?_
      refine k_rg ?_
      refine s_run rfl rfl (r_mv (v := .int _ _) rfl) ?_
      refine s_run rfl rfl (r_mv (v := .slice _ _ _) rfl) ?_
      refine s_run rfl rfl (r_len rfl Try.underlying46) ?_
      refine s_run rfl rfl (r_lssT rfl rfl (by omega)) ?_
      refine k_nil ?_
      refine c_norm ?_
      refine k_t rfl ?_
      refine k_skip ?_
      refine c_norm ?_
      refine k_seq ?_
      refine k_b ?_
      refine k_seq ?_
      refine k_rg ?_
      refine s_run rfl rfl (r_mv (v := .slice _ _ _) rfl) ?_
      refine s_run rfl rfl (r_mv (v := .int _ _) rfl) ?_
      refine s_run rfl rfl (r_ix rfl rfl rfl (by omega) Try.underlying46 sz51) ?_
      refine s_run rfl rfl (r_lA (enc := fun v : Value => v) (zs := op.cells) (hcell.later H.only (by simp)) rfl rfl ag51 sz51) ?_
      refine s_al H rfl inf51 ?_
      intro p9 _ H'; clear H; have H := H'; clear H'
      refine s_sw H 0 rfl rfl rfl rfl rfl rfl rfl sz51 ?_
      intro _ H'; simp only [List.set_cons_zero, List.set_cons_succ, List.take_succ_cons, List.take_zero, List.drop_succ_cons, List.drop_zero, List.cons_append, List.nil_append, List.append_nil, List.length_cons, List.length_nil, Nat.reduceAdd] at H'; clear H; have H := H'; clear H'
      refine k_nil ?_
      refine c_norm ?_
      refine k_seq ?_
      refine k_rg ?_
      refine s_run rfl rfl (r_fa0 rfl fo51_0) ?_
      refine s_run rfl rfl (r_lo H 0 rfl rfl rfl ag3) ?_
      refine k_nil ?_
      refine c_norm ?_
      refine k_b ?_
      refine k_seq ?_
      refine k_rg ?_
      refine s_run rfl rfl (r_eqlT rfl rfl (by omega)) ?_
      refine s_run rfl rfl (r_as (v := .bool _) rfl) ?_
      refine k_nil ?_
      refine c_norm ?_
      refine k_t rfl ?_
      refine k_rg ?_
      refine s_run rfl rfl (r_mv (v := .pointer _) rfl) ?_
      refine s_run rfl rfl (r_fa0 rfl fo51_1) ?_
      refine s_run rfl rfl (r_lo H 0 rfl rfl rfl ag3) ?_
      refine s_run rfl rfl (r_fa0 rfl fo51_3) ?_
      refine s_run rfl rfl (r_lo H 0 rfl rfl rfl ag22) ?_
      refine s_call rfl (nStore g d m op.a op.v _ (H.grp_ents 1 rfl) hI.ok (by omega)) (ca30 rfl) ?_
      rintro e W1 ⟨rfl, H'⟩
      refine ⟨_, rfl, ?_⟩
      have H1 := H.grp_at 1 rfl H'; clear H H'; have H := H1; clear H1; simp only [List.set_cons_succ, List.set_cons_zero] at H
      refine k_nil ?_
      refine b_norm ?_
      refine b_norm ?_
      refine c_norm ?_
      refine k_rg ?_
      refine s_run rfl rfl (r_mv (v := .int _ _) rfl) ?_
      refine s_run rfl rfl (r_add rfl rfl (wI (by omega))) ?_
      refine s_run rfl rfl (r_as (v := .int _ _) rfl) ?_
      refine k_nil ?_
      refine c_round ?_
      refine ⟨_, _, ?_, rfl, k + 1, _, by omega, rfl, hI.store op.a op.v, rfl, rfl, rfl, rfl, H.drop⟩
      omega
    by_cases k1 : op.k = 1
    · refine k_seq ?_
      refine k_seq ?_
      refine k_rg ?_
      refine s_run rfl rfl (r_mv (v := .int _ _) rfl) ?_
      refine s_run rfl rfl (r_mv (v := .slice _ _ _) rfl) ?_
      refine s_run rfl rfl (r_len rfl Try.underlying46) ?_
      refine s_run rfl rfl (r_lssT rfl rfl (by omega)) ?_
      refine k_nil ?_
      refine c_norm ?_
      refine k_t rfl ?_
      refine k_skip ?_
      refine c_norm ?_
      refine k_seq ?_
      refine k_b ?_
      refine k_seq ?_
      refine k_rg ?_
      refine s_run rfl rfl (r_mv (v := .slice _ _ _) rfl) ?_
      refine s_run rfl rfl (r_mv (v := .int _ _) rfl) ?_
      refine s_run rfl rfl (r_ix rfl rfl rfl (by omega) Try.underlying46 sz51) ?_
      refine s_run rfl rfl (r_lA (enc := fun v : Value => v) (zs := op.cells) (hcell.later H.only (by simp)) rfl rfl ag51 sz51) ?_
      refine s_al H rfl inf51 ?_
      intro p9 _ H'; clear H; have H := H'; clear H'
      refine s_sw H 0 rfl rfl rfl rfl rfl rfl rfl sz51 ?_
      intro _ H'; simp only [List.set_cons_zero, List.set_cons_succ, List.take_succ_cons, List.take_zero, List.drop_succ_cons, List.drop_zero, List.cons_append, List.nil_append, List.append_nil, List.length_cons, List.length_nil, Nat.reduceAdd] at H'; clear H; have H := H'; clear H'
      refine k_nil ?_
      refine c_norm ?_
      refine k_seq ?_
      refine k_rg ?_
      refine s_run rfl rfl (r_fa0 rfl fo51_0) ?_
      refine s_run rfl rfl (r_lo H 0 rfl rfl rfl ag3) ?_
      refine k_nil ?_
      refine c_norm ?_
      refine k_b ?_
      refine k_seq ?_
      refine k_rg ?_
      refine s_run rfl rfl (r_eqlF rfl rfl (by omega)) ?_
      refine s_run rfl rfl (r_as (v := .bool _) rfl) ?_
      refine k_nil ?_
      refine c_norm ?_
      refine k_f rfl ?_
      refine k_seq ?_
      refine k_rg ?_
      refine s_run rfl rfl (r_eqlT rfl rfl (by omega)) ?_
      refine s_run rfl rfl (r_as (v := .bool _) rfl) ?_
      refine k_nil ?_
      refine c_norm ?_
      refine k_t rfl ?_
      refine k_rg ?_
      refine s_run rfl rfl (r_mv (v := .pointer _) rfl) ?_
      refine s_run rfl rfl (r_fa0 rfl fo51_1) ?_
      refine s_run rfl rfl (r_lo H 0 rfl rfl rfl ag3) ?_
      refine s_call rfl (nFlush g d m op.a _ (H.grp_ents 1 rfl) hI.ok hg (by omega)) (ca49 rfl) ?_
      rintro e W1 ⟨rfl, H'⟩
      refine ⟨_, rfl, ?_⟩
      have H1 := H.grp_at 1 rfl H'; clear H H'; have H := H1; clear H1; simp only [List.set_cons_succ, List.set_cons_zero] at H
      refine k_nil ?_
      refine b_norm ?_
      refine b_norm ?_
      refine c_norm ?_
      refine k_rg ?_
      refine s_run rfl rfl (r_mv (v := .int _ _) rfl) ?_
      refine s_run rfl rfl (r_add rfl rfl (wI (by omega))) ?_
      refine s_run rfl rfl (r_as (v := .int _ _) rfl) ?_
      refine k_nil ?_
      refine c_round ?_
      refine ⟨_, _, ?_, rfl, k + 1, _, by omega, rfl, hI.flush op.a, rfl, rfl, rfl, rfl, H.drop⟩
      omega
    by_cases k2 : op.k = 2
    · refine k_seq ?_
      refine k_seq ?_
      refine k_rg ?_
      refine s_run rfl rfl (r_mv (v := .int _ _) rfl) ?_
      refine s_run rfl rfl (r_mv (v := .slice _ _ _) rfl) ?_
      refine s_run rfl rfl (r_len rfl Try.underlying46) ?_
      refine s_run rfl rfl (r_lssT rfl rfl (by omega)) ?_
      refine k_nil ?_
      refine c_norm ?_
      refine k_t rfl ?_
      refine k_skip ?_
      refine c_norm ?_
      refine k_seq ?_
      refine k_b ?_
      refine k_seq ?_
      refine k_rg ?_
      refine s_run rfl rfl (r_mv (v := .slice _ _ _) rfl) ?_
      refine s_run rfl rfl (r_mv (v := .int _ _) rfl) ?_
      refine s_run rfl rfl (r_ix rfl rfl rfl (by omega) Try.underlying46 sz51) ?_
      refine s_run rfl rfl (r_lA (enc := fun v : Value => v) (zs := op.cells) (hcell.later H.only (by simp)) rfl rfl ag51 sz51) ?_
      refine s_al H rfl inf51 ?_
      intro p9 _ H'; clear H; have H := H'; clear H'
      refine s_sw H 0 rfl rfl rfl rfl rfl rfl rfl sz51 ?_
      intro _ H'; simp only [List.set_cons_zero, List.set_cons_succ, List.take_succ_cons, List.take_zero, List.drop_succ_cons, List.drop_zero, List.cons_append, List.nil_append, List.append_nil, List.length_cons, List.length_nil, Nat.reduceAdd] at H'; clear H; have H := H'; clear H'
      refine k_nil ?_
      refine c_norm ?_
      refine k_seq ?_
      refine k_rg ?_
      refine s_run rfl rfl (r_fa0 rfl fo51_0) ?_
      refine s_run rfl rfl (r_lo H 0 rfl rfl rfl ag3) ?_
      refine k_nil ?_
      refine c_norm ?_
      refine k_b ?_
      refine k_seq ?_
      refine k_rg ?_
      refine s_run rfl rfl (r_eqlF rfl rfl (by omega)) ?_
      refine s_run rfl rfl (r_as (v := .bool _) rfl) ?_
      refine k_nil ?_
      refine c_norm ?_
      refine k_f rfl ?_
      refine k_seq ?_
      refine k_rg ?_
      refine s_run rfl rfl (r_eqlF rfl rfl (by omega)) ?_
      refine s_run rfl rfl (r_as (v := .bool _) rfl) ?_
      refine k_nil ?_
      refine c_norm ?_
      refine k_f rfl ?_
      refine k_seq ?_
      refine k_rg ?_
      refine s_run rfl rfl (r_eqlT rfl rfl (by omega)) ?_
      refine s_run rfl rfl (r_as (v := .bool _) rfl) ?_
      refine k_nil ?_
      refine c_norm ?_
      refine k_t rfl ?_
      refine k_rg ?_
      refine s_run rfl rfl (r_mv (v := .pointer _) rfl) ?_
      refine s_call rfl (nFence g d m _ (H.grp_ents 1 rfl) hI.ok hg (by omega)) (ca35 rfl) ?_
      rintro e W1 ⟨rfl, H'⟩
      refine ⟨_, rfl, ?_⟩
      have H1 := H.grp_at 1 rfl H'; clear H H'; have H := H1; clear H1; simp only [List.set_cons_succ, List.set_cons_zero] at H
      refine k_nil ?_
      refine b_norm ?_
      refine b_norm ?_
      refine c_norm ?_
      refine k_rg ?_
      refine s_run rfl rfl (r_mv (v := .int _ _) rfl) ?_
      refine s_run rfl rfl (r_add rfl rfl (wI (by omega))) ?_
      refine s_run rfl rfl (r_as (v := .int _ _) rfl) ?_
      refine k_nil ?_
      refine c_round ?_
      refine ⟨_, _, ?_, rfl, k + 1, _, by omega, rfl, hI.fence, rfl, rfl, rfl, rfl, H.drop⟩
      omega
    refine k_seq ?_
    refine k_seq ?_
    refine k_rg ?_
    refine s_run rfl rfl (r_mv (v := .int _ _) rfl) ?_
    refine s_run rfl rfl (r_mv (v := .slice _ _ _) rfl) ?_
    refine s_run rfl rfl (r_len rfl Try.underlying46) ?_
    refine s_run rfl rfl (r_lssT rfl rfl (by omega)) ?_
    refine k_nil ?_
    refine c_norm ?_
    refine k_t rfl ?_
    refine k_skip ?_
    refine c_norm ?_
    refine k_seq ?_
    refine k_b ?_
    refine k_seq ?_
    refine k_rg ?_
    refine s_run rfl rfl (r_mv (v := .slice _ _ _) rfl) ?_
    refine s_run rfl rfl (r_mv (v := .int _ _) rfl) ?_
    refine s_run rfl rfl (r_ix rfl rfl rfl (by omega) Try.underlying46 sz51) ?_
    refine s_run rfl rfl (r_lA (enc := fun v : Value => v) (zs := op.cells) (hcell.later H.only (by simp)) rfl rfl ag51 sz51) ?_
    refine s_al H rfl inf51 ?_
    intro p9 _ H'; clear H; have H := H'; clear H'
    refine s_sw H 0 rfl rfl rfl rfl rfl rfl rfl sz51 ?_
    intro _ H'; simp only [List.set_cons_zero, List.set_cons_succ, List.take_succ_cons, List.take_zero, List.drop_succ_cons, List.drop_zero, List.cons_append, List.nil_append, List.append_nil, List.length_cons, List.length_nil, Nat.reduceAdd] at H'; clear H; have H := H'; clear H'
    refine k_nil ?_
    refine c_norm ?_
    refine k_seq ?_
    refine k_rg ?_
    refine s_run rfl rfl (r_fa0 rfl fo51_0) ?_
    refine s_run rfl rfl (r_lo H 0 rfl rfl rfl ag3) ?_
    refine k_nil ?_
    refine c_norm ?_
    refine k_b ?_
    refine k_seq ?_
    refine k_rg ?_
    refine s_run rfl rfl (r_eqlF rfl rfl (by omega)) ?_
    refine s_run rfl rfl (r_as (v := .bool _) rfl) ?_
    refine k_nil ?_
    refine c_norm ?_
    refine k_f rfl ?_
    refine k_seq ?_
    refine k_rg ?_
    refine s_run rfl rfl (r_eqlF rfl rfl (by omega)) ?_
    refine s_run rfl rfl (r_as (v := .bool _) rfl) ?_
    refine k_nil ?_
    refine c_norm ?_
    refine k_f rfl ?_
    refine k_seq ?_
    refine k_rg ?_
    refine s_run rfl rfl (r_eqlF rfl rfl (by omega)) ?_
    refine s_run rfl rfl (r_as (v := .bool _) rfl) ?_
    refine k_nil ?_
    refine c_norm ?_
    refine k_f rfl ?_
    refine k_skip ?_
    refine b_norm ?_
    refine b_norm ?_
    refine c_norm ?_
    refine k_rg ?_
    refine s_run rfl rfl (r_mv (v := .int _ _) rfl) ?_
    refine s_run rfl rfl (r_add rfl rfl (wI (by omega))) ?_
    refine s_run rfl rfl (r_as (v := .int _ _) rfl) ?_
    refine k_nil ?_
    refine c_round ?_
    refine ⟨_, _, ?_, rfl, k + 1, _, by omega, rfl, hI, rfl, rfl, rfl, rfl, H.drop⟩
    omega
  · obtain rfl : k = q := by omega
    have ho := hI.ok
    have hLb := dirtyTo_len d.dirty m
    have hD := fun W hE => nDirtyL g d m W hE ho (by omega)
    have hS := fun W hE => xStates g d m most W hE ho hg (by omega) hmo
    have hW := fun W => rxWays ((Nv.dirtyTo d.dirty m).length : Int) 2 W (by omega) (by omega)
    have hme : min (min (Xp.ways ((Nv.dirtyTo d.dirty m).length : Int) 2) (max most 0)) 256 = many d m most := rfl
    have hmb := many_bd d m most
    have hdig := fun j => Xp.digs_len 2 (j : Int) (Nv.dirtyTo d.dirty m).length
    refine k_seq ?_
    refine k_seq ?_
    refine k_rg ?_
    refine s_run rfl rfl (r_mv (v := .int _ _) rfl) ?_
    refine s_run rfl rfl (r_mv (v := .slice _ _ _) rfl) ?_
    refine s_run rfl rfl (r_len rfl Try.underlying46) ?_
    refine s_run rfl rfl (r_lssF rfl rfl (by omega)) ?_
    refine k_nil ?_
    refine c_norm ?_
    refine k_f rfl ?_
    refine k_exit ?_
    refine c_exit ?_
    refine c_exit ?_
    refine b_hit ?_
    refine c_norm ?_
    refine k_seq ?_
    refine k_rg ?_
    refine s_run rfl rfl (r_mv (v := .pointer _) rfl) ?_
    refine s_call rfl (hD _ (H.grp_ents 0 rfl)) (ca27 rfl) ?_
    rintro e W1 ⟨Ad, cd, rfl, H'⟩
    refine ⟨_, rfl, ?_⟩
    have H := H.same H'; clear H'
    refine s_run rfl rfl (r_len rfl Try.underlying42) ?_
    refine s_run rfl rfl (r_as (v := .int _ _) rfl) ?_
    refine k_nil ?_
    refine c_norm ?_
    refine k_seq ?_
    refine k_rg ?_
    refine s_run rfl rfl (r_mv (v := .pointer _) rfl) ?_
    refine s_run rfl rfl (r_mv (v := .int _ _) rfl) ?_
    refine s_call rfl (hS _ (H.grp_ents 0 rfl)) (ca53 rfl) ?_
    rintro e W1 ⟨As, cs, ps, hpl, rfl, hpr, H'⟩
    refine ⟨_, rfl, ?_⟩
    have H := H.more (A := [_, _]) H'; clear H'; simp only [List.cons_append, List.nil_append] at H; obtain ⟨bs, hAs, H2⟩ := own_vec0 H; clear H; have H := H2; clear H2
    refine s_run rfl rfl (r_as (v := .slice _ _ _) rfl) ?_
    refine k_nil ?_
    refine c_norm ?_
    refine k_seq ?_
    refine k_seq ?_
    refine k_rg ?_
    refine s_run rfl rfl (r_mv (v := .slice _ _ _) rfl) ?_
    refine s_run rfl rfl (r_len rfl Try.underlying80) ?_
    refine s_run rfl rfl (r_mv (v := .int _ _) rfl) ?_
    refine s_call rfl (hW _) (ca54 rfl) ?_
    rintro e W1 ⟨rfl, H'⟩
    refine ⟨_, rfl, ?_⟩
    have H := H.same H'; clear H'
    refine s_run rfl rfl (r_mv (v := .int _ _) rfl) ?_
    refine s_run rfl rfl (r_max (c := max most 0) rfl rfl (by split <;> omega)) ?_
    refine s_run rfl rfl (r_min3 (q := many d m most) rfl rfl rfl hme) ?_
    refine s_run rfl rfl (r_neqF rfl rfl (by omega)) ?_
    refine k_nil ?_
    refine c_norm ?_
    refine k_f rfl ?_
    refine k_skip ?_
    refine c_norm ?_
    refine k_seq ?_
    refine k_seq ?_
    refine k_rg ?_
    refine s_run rfl rfl (r_as (v := .int _ _) rfl) ?_
    refine k_nil ?_
    refine c_norm ?_
    refine k_b ?_
    generalize hLL : (Nv.dirtyTo d.dirty m).length = L at *
    refine k_loop (fun z f W => ∃ j : Nat, j ≤ ps.length ∧ z = ps.length - j ∧ f 7 = ptr g.p ∧ f 10 = .int .i64 L ∧ f 11 = .slice As ps.length cs ∧ f 12 = .int .i64 j ∧ Heap w [] [vec Value.pointer bs (ps.map stP) 26, grp (ps.map (stE d m)), grp (devL g d)] W) ps.length ⟨0, by omega, rfl, rfl, rfl, rfl, rfl, H⟩ ?_
    clear H
    rintro z f W ⟨j, hj, rfl, f7, f10, f11, f12, H⟩
    obtain ⟨f, rfl⟩ := live4 f7 f10 f11 f12
    clear f7 f10 f11 f12
    by_cases hlt2 : j < ps.length
    · obtain ⟨pj, hpj⟩ : ∃ pj, ps[j]? = some pj := ⟨_, List.getElem?_eq_getElem hlt2⟩
      have hp2 : pj.2 = j := by
        have h1 : (ps.map (·.2))[j]? = some pj.2 := by rw [List.getElem?_map, hpj]; rfl
        rw [hpr, List.getElem?_range hlt2] at h1
        injection h1 with h1; exact h1.symm
      have hpk : (ps.map stP)[j]? = some (some ⟨pj.1.p, 0, none⟩) := by rw [List.getElem?_map, hpj]; rfl
      have hmem : stE d m pj ∈ ps.map (stE d m) := List.mem_map.2 ⟨pj, List.mem_of_getElem? hpj, rfl⟩
      obtain rfl := hAs (by omega)
      have hdj := hdig j
      have hC := fun W => rxChoice L j W (by omega) (by omega)
      have hd2 := digs_two j L
      have hlef : lefts d m j = Nv.crashTo d (Nv.dirtyTo d.dirty m) ((Xp.digs 2 (j : Int) L).map (· * 2)) (Nv.dirtyTo d.dirty m).length := by unfold lefts; rw [hLL]
      have hcl := crashTo_len ho ((Xp.digs 2 (j : Int) L).map (· * 2)) (Nv.dirtyTo d.dirty m).length
      rw [← hlef] at hcl
      have hCr : ∀ A cc W, Ents (devL g d) W → Sees (Value.int .u8) W [] A ((Xp.digs 2 (j : Int) L).map (· * 2)) → Calls Try.prog 37 [ptr g.p, .slice A L cc].toArray W fun e w' => ∃ g', e = .returned (ptr g'.p) ∧ GOk g' m ∧ Heap W [] (devL g' (Nv.load (lefts d m j) m)) w' := fun A cc W hE hz => by
        rw [hlef]
        exact nCrash g d m A L cc ((Xp.digs 2 (j : Int) L).map (· * 2)) W hE ho hg (by omega) hz (by simp [hdj]) (by
          intro z hz
          obtain ⟨y, hy, rfl⟩ := List.mem_map.1 hz
          obtain ⟨i, hi⟩ := List.mem_iff_getElem?.1 hy
          have := hd2 i y hi
          omega) (by omega)
      have hoL : Nv.Ok (Nv.load (lefts d m j) m) m := (Nv.Inv.load _ _ hcl).ok
      have hAl : ∀ g' W, Ents (devL g' (Nv.load (lefts d m j) m)) W → Calls Try.prog 47 [ptr g'.p].toArray W fun e w' => ∃ b c', e = .returned (.slice (some ⟨b, 0, none⟩) (8 * m) c') ∧ (8 * m ≤ c' ∧ c' ≤ 9223372036854775807) ∧ Heap W [] [vec (Value.int .u64) b (lefts d m j) 22] w' := fun g' W hE => nAll g' (Nv.load (lefts d m j) m) m W hE hoL (by omega)
      have hRL : ∀ A c W, Sees (Value.int .u64) W [] A (lefts d m j) → Calls Try.prog 44 [.slice A (8 * m) c].toArray W fun e w' => ∃ s', e = .returned (.agg (refCells s' (Nv.load (lefts d m j) m) m).toArray) ∧ Heap W [] [] w' ∧ RefOk w' [] s' (Nv.load (lefts d m j) m) m := fun A c W hz => by
        have h := rLoad A (8 * m) c (lefts d m j) [] W hz hcl (by omega) (by simp)
        rw [show (8 * m + 7) / 8 = m by omega, show 8 * m - 8 * m = 0 by omega, List.replicate_zero, List.append_nil] at h
        exact h
      have hSm := fun s W (hE : Ents (ps.map (stE d m)) W) hs => lSame pj.1 (Nv.load (lefts d m j) m) s m W (by
        have := hE.1 _ hmem
        unfold stE at this
        rw [hp2] at this
        exact this) hs (by omega)
      generalize Xp.digs 2 (j : Int) L = xs at *
      generalize lefts d m j = ck at *
      refine k_seq ?_
      refine k_seq ?_
      refine k_rg ?_
      refine s_run rfl rfl (r_mv (v := .int _ _) rfl) ?_
      refine s_run rfl rfl (r_mv (v := .slice _ _ _) rfl) ?_
      refine s_run rfl rfl (r_len rfl Try.underlying80) ?_
      refine s_run rfl rfl (r_lssT rfl rfl (by omega)) ?_
      refine k_nil ?_
      refine c_norm ?_
      refine k_t rfl ?_
      refine k_skip ?_
      refine c_norm ?_
      refine k_seq ?_
      refine k_b ?_
      refine k_seq ?_
      refine k_rg ?_
      refine s_run rfl rfl (r_mv (v := .int _ _) rfl) ?_
      refine s_run rfl rfl (r_mv (v := .int _ _) rfl) ?_
      refine s_call rfl (hC _) (ca55 rfl) ?_
      rintro e W1 ⟨Ac, bc, cc, rfl, hAc, H'⟩
      refine ⟨_, rfl, ?_⟩
      have H := H.more (A := [_]) H'; clear H'; simp only [List.cons_append, List.nil_append] at H
      refine s_run rfl rfl (r_as (v := .slice _ _ _) rfl) ?_
      refine k_nil ?_
      refine c_norm ?_
      refine k_seq ?_
      refine k_seq ?_
      refine k_rg ?_
      refine s_run rfl rfl (r_as (v := .int _ _) rfl) ?_
      refine k_nil ?_
      refine c_norm ?_
      refine k_b ?_
      refine k_loop (fun z f W => ∃ i : Nat, i ≤ xs.length ∧ z = xs.length - i ∧ f 7 = ptr g.p ∧ f 10 = .int .i64 L ∧ f 11 = .slice (some ⟨bs, 0, none⟩) ps.length cs ∧ f 12 = .int .i64 j ∧ f 13 = .slice Ac xs.length cc ∧ f 14 = .int .i64 i ∧ Heap w [] [vec (Value.int .u8) bc (dbl xs i) 5, vec Value.pointer bs (ps.map stP) 26, grp (ps.map (stE d m)), grp (devL g d)] W) xs.length ⟨0, by omega, rfl, rfl, rfl, rfl, rfl, rfl, rfl, H⟩ ?_
      clear H
      rintro z f W ⟨i, hi, rfl, f7, f10, f11, f12, f13, f14, H⟩
      obtain ⟨f, rfl⟩ := live6 f7 f10 f11 f12 f13 f14
      clear f7 f10 f11 f12 f13 f14
      by_cases hlt3 : i < xs.length
      · obtain ⟨x, hx⟩ : ∃ x, xs[i]? = some x := ⟨_, List.getElem?_eq_getElem hlt3⟩
        have hxb := hd2 i x hx
        obtain rfl := hAc (by omega)
        refine k_seq ?_
        refine k_seq ?_
        refine k_rg ?_
        refine s_run rfl rfl (r_mv (v := .int _ _) rfl) ?_
        refine s_run rfl rfl (r_mv (v := .slice _ _ _) rfl) ?_
        refine s_run rfl rfl (r_len rfl Try.underlying49) ?_
        refine s_run rfl rfl (r_lssT rfl rfl (by omega)) ?_
        refine k_nil ?_
        refine c_norm ?_
        refine k_t rfl ?_
        refine k_skip ?_
        refine c_norm ?_
        refine k_seq ?_
        refine k_b ?_
        refine k_rg ?_
        refine s_run rfl rfl (r_mv (v := .slice _ _ _) rfl) ?_
        refine s_run rfl rfl (r_mv (v := .int _ _) rfl) ?_
        refine s_run rfl rfl (r_mv (v := .slice _ _ _) rfl) ?_
        refine s_run rfl rfl (r_mv (v := .int _ _) rfl) ?_
        refine s_run rfl rfl (r_ix1 rfl rfl rfl (by omega) Try.underlying49 sz5) ?_
        refine s_run rfl rfl (r_lv H 0 rfl rfl (dbl_get hx) ag5) ?_
        refine s_run rfl rfl (r_mul rfl rfl (wB (by omega))) ?_
        refine s_run rfl rfl (r_ix1 rfl rfl rfl (by omega) Try.underlying49 sz5) ?_
        refine s_sv (u := .int _ _) H 0 rfl rfl rfl rfl rfl (by rw [dbl_len]; exact hlt3) (fun _ => rfl) sz5 ?_
        intro _ H'; simp only [List.set_cons_zero, List.set_cons_succ, List.take_succ_cons, List.take_zero, List.drop_succ_cons, List.drop_zero, List.cons_append, List.nil_append, List.append_nil, List.length_cons, List.length_nil, Nat.reduceAdd] at H'; clear H; have H := H'; clear H'
        refine k_nil ?_
        refine b_norm ?_
        refine c_norm ?_
        refine k_rg ?_
        refine s_run rfl rfl (r_mv (v := .int _ _) rfl) ?_
        refine s_run rfl rfl (r_add rfl rfl (wI (by omega))) ?_
        refine s_run rfl rfl (r_as (v := .int _ _) rfl) ?_
        refine k_nil ?_
        refine c_round ?_
        rw [dbl_set hx] at H
        refine ⟨_, _, ?_, rfl, i + 1, by omega, rfl, rfl, rfl, rfl, rfl, rfl, rfl, H⟩
        omega
      · rw [dbl_end xs i (by omega)] at H
        rw [hdj]
        refine k_seq ?_
        refine k_seq ?_
        refine k_rg ?_
        refine s_run rfl rfl (r_mv (v := .int _ _) rfl) ?_
        refine s_run rfl rfl (r_mv (v := .slice _ _ _) rfl) ?_
        refine s_run rfl rfl (r_len rfl Try.underlying49) ?_
        refine s_run rfl rfl (r_lssF rfl rfl (by omega)) ?_
        refine k_nil ?_
        refine c_norm ?_
        refine k_f rfl ?_
        refine k_exit ?_
        refine c_exit ?_
        refine c_exit ?_
        refine b_hit ?_
        refine c_norm ?_
        refine k_seq ?_
        refine k_cut (fun f W => f 7 = ptr g.p ∧ f 10 = .int .i64 L ∧ f 11 = .slice (some ⟨bs, 0, none⟩) ps.length cs ∧ f 12 = .int .i64 j ∧ f 113 = .bool false ∧ Heap w [] [vec Value.pointer bs (ps.map stP) 26, grp (ps.map (stE d m)), grp (devL g d)] W) ?_ ?_
        · refine k_trF mixed ?_; have H' := H.drew; clear H; have H := H'; clear H'
          refine t_take 0 rfl (by kernel_rfl) (by kernel_rfl) (by kernel_rfl) rfl (fun _ _ _ _ h => nomatch h.1) rfl (fun _ hS => r_mv (v := .slice _ _ _) rfl) trivial ?_
          refine t_take 1 rfl (by kernel_rfl) (by kernel_rfl) (by kernel_rfl) rfl (fun _ _ _ _ h => nomatch h.1) rfl (fun _ hS => r_mv (v := .int _ _) rfl) trivial ?_
          refine t_take 2 rfl (by kernel_rfl) (by kernel_rfl) (by kernel_rfl) rfl (fun _ _ _ _ h => nomatch h.1) rfl (fun _ hS => r_ix1 rfl rfl rfl (by omega) Try.underlying80 sz26) trivial ?_
          refine t_up1 3 (by kernel_rfl) ?_
          refine up_mk rfl ?_
          refine s_run rfl rfl (r_lv H 1 rfl rfl (by assumption) ag26) ?_
          refine k_nil ?_
          refine t_on trivial ?_
          refine t_take 4 rfl (by kernel_rfl) (by kernel_rfl) (by kernel_rfl) rfl (fun _ _ _ _ h => nomatch h.1) rfl (fun _ hS => r_ptnilF rfl rfl Try.underlying26) trivial ?_
          refine t_take 5 rfl (by kernel_rfl) (by kernel_rfl) (by kernel_rfl) rfl (fun _ _ _ _ h => nomatch h.1) rfl (fun _ hS => r_mv (v := .bool _) rfl) trivial ?_
          refine t_take 6 rfl (by kernel_rfl) (by kernel_rfl) (by kernel_rfl) rfl (fun _ _ _ _ h => nomatch h.1) (g_on 101 (by kernel_rfl) rfl) (fun _ hS => r_mv (v := .slice _ _ _) rfl) trivial ?_
          refine t_take 7 rfl (by kernel_rfl) (by kernel_rfl) (by kernel_rfl) rfl (fun _ _ _ _ h => nomatch h.1) (g_on 101 (by kernel_rfl) rfl) (fun _ hS => r_mv (v := .int _ _) rfl) trivial ?_
          refine t_take 8 rfl (by kernel_rfl) (by kernel_rfl) (by kernel_rfl) rfl (fun _ _ _ _ h => nomatch h.1) (g_on 101 (by kernel_rfl) rfl) (fun _ hS => r_ix1 rfl rfl rfl (by omega) Try.underlying80 sz26) trivial ?_
          refine t_take 10 rfl (by kernel_rfl) (by kernel_rfl) (by kernel_rfl) rfl (fun _ _ _ _ h => nomatch h.1) (g_on 101 (by kernel_rfl) rfl) (fun _ hS => r_mv (v := .pointer _) rfl) trivial ?_
          refine t_take 11 rfl (by kernel_rfl) (by kernel_rfl) (by kernel_rfl) rfl (fun _ _ _ _ h => nomatch h.1) (g_on 101 (by kernel_rfl) rfl) (fun _ hS => r_mv (v := .slice _ _ _) rfl) trivial ?_
          refine t_up2 9 12 (by kernel_rfl) ?_ ?_
          · refine up_mk rfl ?_
            refine s_run rfl (g_on 101 (by kernel_rfl) rfl) (r_lv H 1 rfl rfl (by assumption) ag26) ?_
            refine k_nil ?_
            refine t_on trivial ?_
            refine t_up1 12 (by kernel_rfl) ?_
            refine up_mk rfl ?_
            refine s_call (g_on 101 (by kernel_rfl) rfl) (hCr Ac cc _ (H.grp_ents 3 rfl) (H.sees (m := L) 0 rfl (by simp) (fun h => hAc (by omega)) (by rw [List.length_map, hdj]; exact id))) (ca37 rfl) ?_
            rintro e W1 ⟨g', rfl, hg', H'⟩
            refine ⟨_, rfl, ?_⟩
            have H := H.more (A := [grp _]) (grp_heap H'); clear H'; simp only [List.cons_append, List.nil_append] at H
            refine k_nil ?_
            refine t_on trivial ?_
            refine t_up1 13 (by kernel_rfl) ?_
            refine up_mk rfl ?_
            refine s_call (g_on 101 (by kernel_rfl) rfl) (hAl g' _ (H.grp_ents 0 rfl)) (ca47 rfl) ?_
            rintro e W1 ⟨ba, ca, rfl, hca, H'⟩
            refine ⟨_, rfl, ?_⟩
            have H := H.more (A := [_]) H'; clear H'; simp only [List.cons_append, List.nil_append] at H
            refine k_nil ?_
            refine t_on trivial ?_
            refine t_up1 14 (by kernel_rfl) ?_
            refine up_mk rfl ?_
            refine s_call (g_on 101 (by kernel_rfl) rfl) (hRL _ _ _ (H.sees (m := 1) 0 rfl (by simp) (fun _ => rfl) (by simp))) (ca44 rfl) ?_
            rintro e W1 ⟨s', rfl, H', hs'⟩
            refine ⟨_, rfl, ?_⟩
            have H := H.more (A := []) H'; clear H'; simp only [List.nil_append, refE] at H ⊢
            refine k_nil ?_
            refine t_on trivial ?_
            refine t_up1 15 (by kernel_rfl) ?_
            refine up_mk rfl ?_
            refine s_call (g_on 101 (by kernel_rfl) rfl) (hSm s' _ (H.grp_ents 4 rfl) hs') (ca56 rfl) ?_
            rintro e W1 ⟨rfl, H'⟩
            refine ⟨_, rfl, ?_⟩
            have H := H.same H'; clear H'
            refine k_nil ?_
            refine t_on trivial ?_
            refine t_take 16 rfl (by kernel_rfl) (by kernel_rfl) (by kernel_rfl) rfl (fun _ _ _ _ h => nomatch h.1) (g_on 101 (by kernel_rfl) rfl) (fun _ hS => r_notT rfl) trivial ?_
            refine t_take 17 rfl (by kernel_rfl) (by kernel_rfl) (by kernel_rfl) rfl (fun _ _ _ _ h => nomatch h.1) rfl (fun _ hS => r_pkF (v := .bool _) rfl rfl) trivial ?_
            refine t_done (by kernel_rfl) ?_
            refine k_met ?_
            exact ⟨rfl, rfl, rfl, rfl, rfl, H.drop.drop.drop⟩
          · refine up_mk rfl ?_
            refine s_call (g_on 101 (by kernel_rfl) rfl) (hCr Ac cc _ (H.grp_ents 3 rfl) (H.sees (m := L) 0 rfl (by simp) (fun h => hAc (by omega)) (by rw [List.length_map, hdj]; exact id))) (ca37 rfl) ?_
            rintro e W1 ⟨g', rfl, hg', H'⟩
            refine ⟨_, rfl, ?_⟩
            have H := H.more (A := [grp _]) (grp_heap H'); clear H'; simp only [List.cons_append, List.nil_append] at H
            refine k_nil ?_
            refine t_on trivial ?_
            refine t_up2 9 13 (by kernel_rfl) ?_ ?_
            · refine up_mk rfl ?_
              refine s_run rfl (g_on 101 (by kernel_rfl) rfl) (r_lv H 2 rfl rfl (by assumption) ag26) ?_
              refine k_nil ?_
              refine t_on trivial ?_
              refine t_up1 13 (by kernel_rfl) ?_
              refine up_mk rfl ?_
              refine s_call (g_on 101 (by kernel_rfl) rfl) (hAl g' _ (H.grp_ents 0 rfl)) (ca47 rfl) ?_
              rintro e W1 ⟨ba, ca, rfl, hca, H'⟩
              refine ⟨_, rfl, ?_⟩
              have H := H.more (A := [_]) H'; clear H'; simp only [List.cons_append, List.nil_append] at H
              refine k_nil ?_
              refine t_on trivial ?_
              refine t_up1 14 (by kernel_rfl) ?_
              refine up_mk rfl ?_
              refine s_call (g_on 101 (by kernel_rfl) rfl) (hRL _ _ _ (H.sees (m := 1) 0 rfl (by simp) (fun _ => rfl) (by simp))) (ca44 rfl) ?_
              rintro e W1 ⟨s', rfl, H', hs'⟩
              refine ⟨_, rfl, ?_⟩
              have H := H.more (A := []) H'; clear H'; simp only [List.nil_append, refE] at H ⊢
              refine k_nil ?_
              refine t_on trivial ?_
              refine t_up1 15 (by kernel_rfl) ?_
              refine up_mk rfl ?_
              refine s_call (g_on 101 (by kernel_rfl) rfl) (hSm s' _ (H.grp_ents 4 rfl) hs') (ca56 rfl) ?_
              rintro e W1 ⟨rfl, H'⟩
              refine ⟨_, rfl, ?_⟩
              have H := H.same H'; clear H'
              refine k_nil ?_
              refine t_on trivial ?_
              refine t_take 16 rfl (by kernel_rfl) (by kernel_rfl) (by kernel_rfl) rfl (fun _ _ _ _ h => nomatch h.1) (g_on 101 (by kernel_rfl) rfl) (fun _ hS => r_notT rfl) trivial ?_
              refine t_take 17 rfl (by kernel_rfl) (by kernel_rfl) (by kernel_rfl) rfl (fun _ _ _ _ h => nomatch h.1) rfl (fun _ hS => r_pkF (v := .bool _) rfl rfl) trivial ?_
              refine t_done (by kernel_rfl) ?_
              refine k_met ?_
              exact ⟨rfl, rfl, rfl, rfl, rfl, H.drop.drop.drop⟩
            · refine up_mk rfl ?_
              refine s_call (g_on 101 (by kernel_rfl) rfl) (hAl g' _ (H.grp_ents 0 rfl)) (ca47 rfl) ?_
              rintro e W1 ⟨ba, ca, rfl, hca, H'⟩
              refine ⟨_, rfl, ?_⟩
              have H := H.more (A := [_]) H'; clear H'; simp only [List.cons_append, List.nil_append] at H
              refine k_nil ?_
              refine t_on trivial ?_
              refine t_up2 9 14 (by kernel_rfl) ?_ ?_
              · refine up_mk rfl ?_
                refine s_run rfl (g_on 101 (by kernel_rfl) rfl) (r_lv H 3 rfl rfl (by assumption) ag26) ?_
                refine k_nil ?_
                refine t_on trivial ?_
                refine t_up1 14 (by kernel_rfl) ?_
                refine up_mk rfl ?_
                refine s_call (g_on 101 (by kernel_rfl) rfl) (hRL _ _ _ (H.sees (m := 1) 0 rfl (by simp) (fun _ => rfl) (by simp))) (ca44 rfl) ?_
                rintro e W1 ⟨s', rfl, H', hs'⟩
                refine ⟨_, rfl, ?_⟩
                have H := H.more (A := []) H'; clear H'; simp only [List.nil_append, refE] at H ⊢
                refine k_nil ?_
                refine t_on trivial ?_
                refine t_up1 15 (by kernel_rfl) ?_
                refine up_mk rfl ?_
                refine s_call (g_on 101 (by kernel_rfl) rfl) (hSm s' _ (H.grp_ents 4 rfl) hs') (ca56 rfl) ?_
                rintro e W1 ⟨rfl, H'⟩
                refine ⟨_, rfl, ?_⟩
                have H := H.same H'; clear H'
                refine k_nil ?_
                refine t_on trivial ?_
                refine t_take 16 rfl (by kernel_rfl) (by kernel_rfl) (by kernel_rfl) rfl (fun _ _ _ _ h => nomatch h.1) (g_on 101 (by kernel_rfl) rfl) (fun _ hS => r_notT rfl) trivial ?_
                refine t_take 17 rfl (by kernel_rfl) (by kernel_rfl) (by kernel_rfl) rfl (fun _ _ _ _ h => nomatch h.1) rfl (fun _ hS => r_pkF (v := .bool _) rfl rfl) trivial ?_
                refine t_done (by kernel_rfl) ?_
                refine k_met ?_
                exact ⟨rfl, rfl, rfl, rfl, rfl, H.drop.drop.drop⟩
              · refine up_mk rfl ?_
                refine s_call (g_on 101 (by kernel_rfl) rfl) (hRL _ _ _ (H.sees (m := 1) 0 rfl (by simp) (fun _ => rfl) (by simp))) (ca44 rfl) ?_
                rintro e W1 ⟨s', rfl, H', hs'⟩
                refine ⟨_, rfl, ?_⟩
                have H := H.more (A := []) H'; clear H'; simp only [List.nil_append, refE] at H ⊢
                refine k_nil ?_
                refine t_on trivial ?_
                refine t_up1 9 (by kernel_rfl) ?_
                refine up_mk rfl ?_
                refine s_run rfl (g_on 101 (by kernel_rfl) rfl) (r_lv H 3 rfl rfl (by assumption) ag26) ?_
                refine k_nil ?_
                refine t_on trivial ?_
                refine t_up1 15 (by kernel_rfl) ?_
                refine up_mk rfl ?_
                refine s_call (g_on 101 (by kernel_rfl) rfl) (hSm s' _ (H.grp_ents 4 rfl) hs') (ca56 rfl) ?_
                rintro e W1 ⟨rfl, H'⟩
                refine ⟨_, rfl, ?_⟩
                have H := H.same H'; clear H'
                refine k_nil ?_
                refine t_on trivial ?_
                refine t_take 16 rfl (by kernel_rfl) (by kernel_rfl) (by kernel_rfl) rfl (fun _ _ _ _ h => nomatch h.1) (g_on 101 (by kernel_rfl) rfl) (fun _ hS => r_notT rfl) trivial ?_
                refine t_take 17 rfl (by kernel_rfl) (by kernel_rfl) (by kernel_rfl) rfl (fun _ _ _ _ h => nomatch h.1) rfl (fun _ hS => r_pkF (v := .bool _) rfl rfl) trivial ?_
                refine t_done (by kernel_rfl) ?_
                refine k_met ?_
                exact ⟨rfl, rfl, rfl, rfl, rfl, H.drop.drop.drop⟩
        clear H
        rintro f W ⟨f7, f10, f11, f12, f113, H⟩
        obtain ⟨f, rfl⟩ := live5 f7 f10 f11 f12 f113
        clear f7 f10 f11 f12 f113
        refine c_norm ?_
        refine k_f rfl ?_
        refine k_skip ?_
        refine b_norm ?_
        refine c_norm ?_
        refine k_rg ?_
        refine s_run rfl rfl (r_mv (v := .int _ _) rfl) ?_
        refine s_run rfl rfl (r_add rfl rfl (wI (by omega))) ?_
        refine s_run rfl rfl (r_as (v := .int _ _) rfl) ?_
        refine k_nil ?_
        refine c_round ?_
        refine ⟨_, _, ?_, rfl, j + 1, by omega, rfl, rfl, rfl, rfl, rfl, H⟩
        omega
    · refine k_seq ?_
      refine k_seq ?_
      refine k_rg ?_
      refine s_run rfl rfl (r_mv (v := .int _ _) rfl) ?_
      refine s_run rfl rfl (r_mv (v := .slice _ _ _) rfl) ?_
      refine s_run rfl rfl (r_len rfl Try.underlying80) ?_
      refine s_run rfl rfl (r_lssF rfl rfl (by omega)) ?_
      refine k_nil ?_
      refine c_norm ?_
      refine k_f rfl ?_
      refine k_exit ?_
      refine c_exit ?_
      refine c_exit ?_
      refine b_hit ?_
      refine c_norm ?_
      refine k_seq ?_
      refine k_rg ?_
      refine s_run rfl rfl (r_as (v := .bool _) rfl) ?_
      refine k_nil ?_
      refine c_norm ?_
      refine k_ret ?_
      refine fin1r (v := .bool _) rfl rfl ?_
      exact ⟨rfl, H.only.below⟩
end Go.Proofs.Ytmekhdclnhhhbaa
end

section
namespace Go.Proofs.Ytmekhdclnhhhbaa.lExploreStates
open Go.ChangeShapes Go.WideShapes Go.ChangeAt Go.RowKit
set_option linter.unusedVariables false
theorem own : ownKnob Try.prog.godebug = none := by kernel_rfl
theorem laidOut : laidOutB Try.prog = true := by kernel_rfl
set_option maxRecDepth 100000 in
theorem lifted (os : Os) (started : os.Started) (H : Type) (enc : TypeId × Value → H) :
    ReturnsInHanded {} Try.checked os 12 .any (Rows.exploreStatesSpec.pre6 enc Try.prog Try.f12 Rows.exploreStatesRow.domain false) (Rows.exploreStatesSpec.post enc Try.prog Try.f12 false true false false) := by
  refine returnsInHanded_of_change (C := Try.checked) own started (by kernel_rfl) Try.func12
    (ChangeSpec.witness6 (enc := enc) (C := Try.checked) false ⟨#[], #[.slice none 0 0, .slice none 0 0, .int .i64 0], []⟩ 8 (by kernel_rfl) (by kernel_rfl) (by kernel_rfl) (by kernel_rfl)) ?_
  intro W base args ds gs before hval0 hW hcnd _
  have hval : ∀ (j : Nat) t v, Try.f12.params[j]? = some t → args[j]? = some v → Value.okWide Try.prog W .any base t v := hval0
  have hW' := hW
  obtain ⟨p, q, hA0, hV, rfl, hfz, hnd⟩ := hW
  have hA : DataW.TrodAll enc Try.prog W 0 (fun _ => true) true Try.f12.params.toList args.toList ds p := hA0
  rw [Try.params12] at hA hval
  obtain ⟨v0, vs0, d0, ds0, p0, q0, hargs, rfl, rfl, h0, r0⟩ := trodAll_cons hA
  obtain ⟨v1, vs1, d1, ds1, p1, q1, rfl, rfl, rfl, h1, r1⟩ := trodAll_cons r0
  obtain ⟨v2, vs2, d2, ds2, p2, q2, rfl, rfl, rfl, h2, r2⟩ := trodAll_cons r1
  obtain ⟨rfl, rfl, rfl⟩ := trodAll_nil r2
  obtain rfl : args = #[v0, v1, v2] := by cases args; simp_all
  obtain ⟨rfl, rfl⟩ := trodVars_none hV
  have k0 := h0
  have lt0 : ∀ x ∈ p0, x.block < W.heap.size := by obtain ⟨m, hm⟩ := k0; exact DataW.trod_lt m _ _ _ hm
  have k1 := h1
  have lt1 : ∀ x ∈ p1, x.block < W.heap.size := by obtain ⟨m, hm⟩ := k1; exact DataW.trod_lt m _ _ _ hm
  have k2 := h2
  have lt2 : ∀ x ∈ p2, x.block < W.heap.size := by obtain ⟨m, hm⟩ := k2; exact DataW.trod_lt m _ _ _ hm
  obtain ⟨a0, len0, cap0, rfl⟩ := okWide_slice Try.underlying25 (hval 0 25 v0 rfl rfl)
  obtain ⟨z0, w0⟩ := open_row Try.underlying25 Try.underlying22 (by kernel_rfl) h0
  obtain ⟨x1, rfl, w1⟩ := open_script W base v1 d1 p1 (hval 1 46 v1 rfl rfl) h1
  obtain ⟨a2, rfl, rfl, rfl, w2⟩ := open_int Try.underlying3 (hval 2 3 v2 rfl rfl) h2
  clear hA0 hval0
  refine (walk_ExploreStates a0 len0 cap0 z0 x1 a2 W w0 w1 w2).mono fun e W' ⟨he, bel⟩ => ?_
  subst he
  exact ⟨_, rfl, _, _, _, [], _, [], hW', trodAll_mk1 (shut_bool Try.underlying4 _), (trodAll_cons_mk (Below.trod laidOut (by kernel_rfl) (of_decide_eq_true (by kernel_rfl)) k0 bel lt0) (trodAll_cons_mk (Below.trod laidOut (by kernel_rfl) (of_decide_eq_true (by kernel_rfl)) k1 bel lt1) (trodAll_cons_mk (Below.trod laidOut (by kernel_rfl) (of_decide_eq_true (by kernel_rfl)) k2 bel lt2) trodAll_mk0))), rfl, bel.frame _, fun h => by cases h⟩
theorem over : Rows.exploreStatesRow.holds Try.pinned (OpenSpec.ofChange Rows.exploreStatesSpec) :=
  OpenClaim.holds_of_wide 12 Try.f12 rfl rfl rfl rfl rfl rfl rfl ⟨rfl, rfl, rfl, rfl, rfl⟩ rfl rfl rfl rfl rfl (by kernel_rfl) Try.func12 (by kernel_rfl)
    (of_decide_eq_true (by kernel_rfl)) (by unfold Func.isWrapper; first | (rw [if_pos (by decide +kernel)]; kernel_rfl) | (rw [if_neg (by decide +kernel)]; exact ⟨rfl, rfl⟩))
    (fun os started H enc _ => lifted os started H enc)
theorem proved : Rows.ExploreStatesSaid := over
#print axioms proved
end Go.Proofs.Ytmekhdclnhhhbaa.lExploreStates
end
