/- NvmStops. -/
import Derived.Test.YtmekhdclnhhhbaaLw8
namespace Go.Proofs.Ytmekhdclnhhhbaa
open Go.RowKit
set_option linter.unusedSimpArgs false
set_option linter.unusedVariables false
theorem killed_dead {x : Nv.D} (h : x.dead = true) : Nv.killed x = x := by
  cases x; simp only at h; subst h; rfl
theorem store_dead {x : Nv.D} (m : Nat) (h : x.dead = true) : ∃ c : Int, c ≠ 0 ∧ ∀ v, Nv.store x m 0 v = (x, c) := by
  by_cases hm : (0 : Int) < 8 * (m : Int)
  · refine ⟨3, by decide, fun v => ?_⟩
    unfold Nv.store
    rw [if_pos ⟨by omega, hm⟩, if_pos (by simp [Nv.stops, h]), killed_dead h]
  · refine ⟨2, by decide, fun v => ?_⟩
    unfold Nv.store
    rw [if_neg (by omega)]
theorem fence_dead {x : Nv.D} (m : Nat) (h : x.dead = true) : Nv.fence x m = (x, 3) := by
  unfold Nv.fence
  rw [if_pos (by simp [Nv.stops, h]), killed_dead h]
theorem walk_NvmStops (A : Option Addr) (n c : Nat) (zs : List Int) (x : Option Addr × Nat × Nat × List OpS) (N : Int) (w : World) (hr : IsRow .u64 w A n c zs) (hx : Script w x.1 x.2.2.2 ∧ x.2.2.2.length = x.2.1 ∧ x.2.1 ≤ 9223372036854775807) (wN : (Lit.int .u8 N).wf = true) :
    Calls Try.prog 5 [.slice A n c, .slice x.1 x.2.1 x.2.2.1, .int .u8 N].toArray w fun e w' => e = .returned (.bool true) ∧ Below w.heap.size w w' := by
  obtain ⟨B, q, cq, ops⟩ := x
  obtain ⟨hs, hl, hq⟩ := hx
  dsimp only at hs hl hq ⊢
  have hN : 0 ≤ N ∧ N ≤ 255 := by
    simp [Lit.wf, IntKind.min, IntKind.max, IntKind.signed, IntKind.bits] at wN; omega
  obtain ⟨hz, lz, hnc, hcm, _⟩ := row_words hr
  have hn : n ≤ 9223372036854775807 := by simp only [maxLen] at hcm; omega
  have H := Heap.nil w
  by_cases hf : fewB n q ops = true
  · have hf2 : n ≤ 200 ∧ q ≤ 60 ∧ ∀ op ∈ ops, op.nc ≤ 100 := of_decide_eq_true hf
    have hF := fun W hs => lFew A n c B q cq ops W hs hl hn hq
    rw [hf] at hF
    have hLd := nLoad A n c (zs.take n)
    have hm : (n + 7) / 8 ≤ 60000 := by omega
    have hA0 : Nv.Armed N (Nv.arm (Nv.load (zs.take n ++ List.replicate (8 * ((n + 7) / 8) - n) 0) ((n + 7) / 8)) N) := Nv.Armed.load hN.1 _ _
    have ho0 : Nv.Ok (Nv.load (zs.take n ++ List.replicate (8 * ((n + 7) / 8) - n) 0) ((n + 7) / 8)) ((n + 7) / 8) := by
      have e : (zs.take n ++ List.replicate (8 * ((n + 7) / 8) - n) (0 : Int)).length = 8 * ((n + 7) / 8) := by rw [List.length_append, lz, List.length_replicate]; omega
      exact ⟨e, e, by simp [Nv.load]; simpa using e, by simp [Nv.load], by simp [Nv.load]⟩
    generalize (n + 7) / 8 = m at *
    generalize Nv.load (zs.take n ++ List.replicate (8 * m - n) 0) m = d0 at *
    refine k_in (N := 79) Try.func5 rfl rfl rfl ?_
    refine k_seq ?_
    refine k_rg ?_
    refine s_run rfl rfl (r_as (v := .bool _) rfl) ?_
    refine k_nil ?_
    refine c_norm ?_
    refine k_seq ?_
    refine k_seq ?_
    refine k_rg ?_
    refine s_call rfl (lAwake _) (ca20 rfl) ?_
    rintro e W1 ⟨rfl, H'⟩
    refine ⟨_, rfl, ?_⟩
    have H := H.same H'; clear H'
    refine s_run rfl rfl (r_notT rfl) ?_
    refine k_nil ?_
    refine c_norm ?_
    refine k_f rfl ?_
    refine k_skip ?_
    refine c_norm ?_
    refine k_seq ?_
    refine k_seq ?_
    refine k_rg ?_
    refine s_run rfl rfl (r_mv (v := .slice _ _ _) rfl) ?_
    refine s_run rfl rfl (r_mv (v := .slice _ _ _) rfl) ?_
    refine s_call rfl (hF _ (hs.later H.only)) (ca31 rfl) ?_
    rintro e W1 ⟨rfl, H'⟩
    refine ⟨_, rfl, ?_⟩
    have H := H.same H'; clear H'
    refine s_run rfl rfl (r_notT rfl) ?_
    refine k_nil ?_
    refine c_norm ?_
    refine k_f rfl ?_
    refine k_skip ?_
    refine c_norm ?_
    refine k_seq ?_
    refine k_rg ?_
    refine s_run rfl rfl (r_mv (v := .slice _ _ _) rfl) ?_
    refine s_call rfl (hLd _ (hz.later H.only (by simp)) lz (by omega)) (ca16 rfl) ?_
    rintro e W1 ⟨g, rfl, hg, H'⟩
    refine ⟨_, rfl, ?_⟩
    have H := H.more (A := [grp _]) (grp_heap H'); clear H'; simp only [List.cons_append, List.nil_append] at H
    refine s_run rfl rfl (r_as (v := .pointer _) rfl) ?_
    refine k_nil ?_
    refine c_norm ?_
    refine k_seq ?_
    refine k_seq ?_
    refine k_rg ?_
    refine s_run rfl rfl (r_mv (v := .pointer _) rfl) ?_
    refine s_run rfl rfl (r_ptnilF rfl rfl Try.underlying26) ?_
    refine k_nil ?_
    refine c_norm ?_
    refine k_f rfl ?_
    refine k_skip ?_
    refine c_norm ?_
    refine k_seq ?_
    refine k_rg ?_
    refine s_run rfl rfl (r_mv (v := .pointer _) rfl) ?_
    refine s_run rfl rfl (r_mv (v := .int _ _) rfl) ?_
    refine s_run rfl rfl (r_cv rfl (by kernel_rfl) Try.underlying3 (wI (by omega))) ?_
    refine s_call rfl (nArm g d0 N _ (H.grp_ents 0 rfl)) (ca32 rfl) ?_
    rintro e W1 ⟨rfl, H'⟩
    refine ⟨_, rfl, ?_⟩
    have H1 := H.grp_at 0 rfl H'; clear H H'; have H := H1; clear H1; simp only [List.set_cons_zero] at H
    refine k_nil ?_
    refine c_norm ?_
    refine k_seq ?_
    refine k_seq ?_
    refine k_rg ?_
    refine s_run rfl rfl (r_as (v := .int _ _) rfl) ?_
    refine k_nil ?_
    refine c_norm ?_
    refine k_b ?_
    refine k_loop (fun z f W => ∃ (k : Nat) (x : Nv.D), k ≤ q ∧ z = q - k ∧ Nv.Armed N x ∧ Nv.Ok x m ∧ f 1 = .slice B q cq ∧ f 2 = .int .u8 N ∧ f 7 = ptr g.p ∧ f 8 = .int .i64 k ∧ Heap w [] [grp (devL g x)] W) q ⟨0, Nv.arm d0 N, by omega, rfl, hA0, ⟨ho0.hl, ho0.hc, ho0.hf, ho0.hd, ho0.hp⟩, rfl, rfl, rfl, rfl, H⟩ ?_
    clear H hA0 ho0
    rintro z f W ⟨k, x, hk, rfl, hA, ho, f1, f2, f7, f8, H⟩
    have hA1 := hA.f0
    have hA2 := hA.su
    have hA3 := hA.de
    obtain ⟨f, rfl⟩ := live4 f1 f2 f7 f8
    clear f1 f2 f7 f8
    by_cases hlt : k < q
    · obtain ⟨b, o, rfl, hrd⟩ := hs.1 (by omega)
      obtain ⟨op, hop⟩ : ∃ op, ops[k]? = some op := ⟨_, List.getElem?_eq_getElem (by omega)⟩
      have hcell := hrd k op hop
      by_cases h5 : op.k < 5
      · refine k_seq ?_
        refine k_seq ?_
        refine k_rg ?_
        refine s_run rfl rfl (r_mv (v := .int _ _) rfl) ?_
        refine s_run rfl rfl (r_mv (v := .slice _ _ _) rfl) ?_
        refine s_run rfl rfl (r_len rfl Try.underlying46) ?_
        refine s_run rfl rfl (r_lssT rfl rfl (by omega)) ?_
        refine k_nil ?_
        refine c_norm ?_
        refine k_t rfl ?_
        refine k_skip ?_
        refine c_norm ?_
        refine k_seq ?_
        refine k_b ?_
        refine k_seq ?_
        refine k_rg ?_
        refine s_run rfl rfl (r_mv (v := .slice _ _ _) rfl) ?_
        refine s_run rfl rfl (r_mv (v := .int _ _) rfl) ?_
        refine s_run rfl rfl (r_ix (i := k) rfl rfl (by omega) (by omega) Try.underlying46 sz51) ?_
        refine s_run rfl rfl (r_lA (enc := fun v : Value => v) (zs := op.cells) (hcell.later H.only (by simp)) rfl rfl ag51 sz51) ?_
        refine s_al H rfl inf51 ?_
        intro p9 _ H'; clear H; have H := H'; clear H'
        refine s_sw H 0 rfl rfl rfl rfl rfl rfl rfl sz51 ?_
        intro _ H'; simp only [List.set_cons_zero, List.set_cons_succ, List.take_succ_cons, List.take_zero, List.drop_succ_cons, List.drop_zero, List.cons_append, List.nil_append, List.append_nil, List.length_cons, List.length_nil, Nat.reduceAdd] at H'; clear H; have H := H'; clear H'
        refine k_nil ?_
        refine c_norm ?_
        refine k_seq ?_
        refine k_seq ?_
        refine k_rg ?_
        refine s_run rfl rfl (r_fa0 rfl fo51_0) ?_
        refine s_run rfl rfl (r_lo H 0 rfl rfl rfl ag3) ?_
        refine s_run rfl rfl (r_lssT rfl rfl (by omega)) ?_
        refine k_nil ?_
        refine c_norm ?_
        refine k_t rfl ?_
        refine k_cut (fun f' W' => ∃ x', Nv.Armed N x' ∧ Nv.Ok x' m ∧ f' 1 = .slice (some ⟨b, o, none⟩) q cq ∧ f' 2 = .int .u8 N ∧ f' 7 = ptr g.p ∧ f' 8 = .int .i64 k ∧ Heap w [] [grp (devL g x')] W') ?_ ?_
        · refine k_trF mixed ?_; have H' := H.drew; clear H; have H := H'; clear H'
          refine t_take 0 rfl (by kernel_rfl) (by kernel_rfl) (by kernel_rfl) rfl (fun _ _ _ _ h => nomatch h.1) rfl (fun _ hS => r_mv (v := .pointer _) rfl) trivial ?_
          refine t_up2 1 2 (by kernel_rfl) ?_ ?_
          · refine up_mk rfl ?_
            refine s_call rfl (rNew (ids (devL g x)) _ (fun i hi => H.idlt i (mem_ids.2 ⟨grp (devL g x), by simp, hi⟩))) (ca34 rfl) ?_
            rintro e W1 ⟨s2, rfl, H', hr2⟩
            refine ⟨_, rfl, ?_⟩
            have H := H.same H'; clear H'
            refine k_nil ?_
            refine t_on trivial ?_
            refine t_up1 2 (by kernel_rfl) ?_
            refine up_mk rfl ?_
            refine s_run rfl rfl (r_la H 0 rfl rfl rfl ag51 sz51) ?_
            refine k_nil ?_
            refine t_on trivial ?_
            refine t_up1 3 (by kernel_rfl) ?_
            refine up_mk rfl ?_
            refine s_call rfl (lDs g x _ s2 m 0 N op.k op.a op.n op.v op.A op.nc op.cc _ h5 (H.grp_ents 1 rfl) hr2 ho hg hm (by omega) hA hN.2) (ca33 rfl) ?_
            rintro e W1 ⟨x', ⟨V, b', rfl⟩, H', hA', ho'⟩
            refine ⟨_, rfl, ?_⟩
            have H1 := H.grp_at 1 rfl H'; clear H H'; have H := H1; clear H1; simp only [List.set_cons_succ, List.set_cons_zero] at H
            refine k_nil ?_
            refine t_on trivial ?_
            refine t_done (by kernel_rfl) ?_
            refine k_met ?_
            exact ⟨x', hA', ho', rfl, rfl, rfl, rfl, H.drop⟩
          · refine up_mk rfl ?_
            refine s_run rfl rfl (r_la H 0 rfl rfl rfl ag51 sz51) ?_
            refine k_nil ?_
            refine t_on trivial ?_
            refine t_up1 1 (by kernel_rfl) ?_
            refine up_mk rfl ?_
            refine s_call rfl (rNew (ids (devL g x)) _ (fun i hi => H.idlt i (mem_ids.2 ⟨grp (devL g x), by simp, hi⟩))) (ca34 rfl) ?_
            rintro e W1 ⟨s2, rfl, H', hr2⟩
            refine ⟨_, rfl, ?_⟩
            have H := H.same H'; clear H'
            refine k_nil ?_
            refine t_on trivial ?_
            refine t_up1 3 (by kernel_rfl) ?_
            refine up_mk rfl ?_
            refine s_call rfl (lDs g x _ s2 m 0 N op.k op.a op.n op.v op.A op.nc op.cc _ h5 (H.grp_ents 1 rfl) hr2 ho hg hm (by omega) hA hN.2) (ca33 rfl) ?_
            rintro e W1 ⟨x', ⟨V, b', rfl⟩, H', hA', ho'⟩
            refine ⟨_, rfl, ?_⟩
            have H1 := H.grp_at 1 rfl H'; clear H H'; have H := H1; clear H1; simp only [List.set_cons_succ, List.set_cons_zero] at H
            refine k_nil ?_
            refine t_on trivial ?_
            refine t_done (by kernel_rfl) ?_
            refine k_met ?_
            exact ⟨x', hA', ho', rfl, rfl, rfl, rfl, H.drop⟩
        clear H
        rintro f' W' ⟨x', hA', ho', f1, f2, f7, f8, H⟩
        have hA1 := hA'.f0
        have hA2 := hA'.su
        have hA3 := hA'.de
        obtain ⟨f', rfl⟩ := live4 f1 f2 f7 f8
        clear f1 f2 f7 f8
        by_cases hdd : x'.dead = true
        · have hDe := nDead g x'
          have hSp := nSteps g x'
          rw [hdd] at hDe
          have hA5 := hA3 hdd
          refine c_norm ?_
          refine k_seq ?_
          refine k_rg ?_
          refine s_run rfl rfl (r_mv (v := .pointer _) rfl) ?_
          refine s_call rfl (hSp _ (H.grp_ents 0 rfl)) (ca29 rfl) ?_
          rintro e W1 ⟨rfl, H'⟩
          refine ⟨_, rfl, ?_⟩
          have H := H.same H'; clear H'
          refine s_run rfl rfl (r_mv (v := .int _ _) rfl) ?_
          refine s_run rfl rfl (r_cv rfl (by kernel_rfl) Try.underlying3 (wI (by omega))) ?_
          refine s_run rfl rfl (r_gtrF rfl rfl (by omega)) ?_
          refine s_run rfl rfl (r_mv (v := .bool _) rfl) ?_
          refine s_run rfl (g_on 47 (by kernel_rfl) rfl) (r_mv (v := .pointer _) rfl) ?_
          refine s_call (g_on 47 (by kernel_rfl) rfl) (hDe _ (H.grp_ents 0 rfl)) (ca28 rfl) ?_
          rintro e W1 ⟨rfl, H'⟩
          refine ⟨_, rfl, ?_⟩
          have H := H.same H'; clear H'
          refine s_run rfl (g_on 47 (by kernel_rfl) rfl) (r_mv (v := .bool _) rfl) ?_
          refine s_run rfl (g_on 50 (by kernel_rfl) rfl) (r_mv (v := .pointer _) rfl) ?_
          refine s_call (g_on 50 (by kernel_rfl) rfl) (hSp _ (H.grp_ents 0 rfl)) (ca29 rfl) ?_
          rintro e W1 ⟨rfl, H'⟩
          refine ⟨_, rfl, ?_⟩
          have H := H.same H'; clear H'
          refine s_run rfl (g_on 50 (by kernel_rfl) rfl) (r_mv (v := .int _ _) rfl) ?_
          refine s_run rfl (g_on 50 (by kernel_rfl) rfl) (r_cv rfl (by kernel_rfl) Try.underlying3 (wI (by omega))) ?_
          refine s_run rfl (g_on 50 (by kernel_rfl) rfl) (r_neqF rfl rfl (by omega)) ?_
          refine s_run rfl (g_on 47 (by kernel_rfl) rfl) (r_pkT (v := .bool _) rfl rfl) ?_
          refine s_run rfl rfl (r_pkF (v := .bool _) rfl rfl) ?_
          refine k_nil ?_
          refine c_norm ?_
          refine k_f rfl ?_
          refine k_skip ?_
          refine b_norm ?_
          refine c_norm ?_
          refine k_rg ?_
          refine s_run rfl rfl (r_mv (v := .int _ _) rfl) ?_
          refine s_run rfl rfl (r_add rfl rfl (wI (by omega))) ?_
          refine s_run rfl rfl (r_as (v := .int _ _) rfl) ?_
          refine k_nil ?_
          refine c_round ?_
          refine ⟨_, _, ?_, rfl, k + 1, x', by omega, rfl, hA', ho', rfl, rfl, rfl, rfl, H⟩
          omega
        · replace hdd : x'.dead = false := by simpa using hdd
          have hDe := nDead g x'
          have hSp := nSteps g x'
          rw [hdd] at hDe
          refine c_norm ?_
          refine k_seq ?_
          refine k_rg ?_
          refine s_run rfl rfl (r_mv (v := .pointer _) rfl) ?_
          refine s_call rfl (hSp _ (H.grp_ents 0 rfl)) (ca29 rfl) ?_
          rintro e W1 ⟨rfl, H'⟩
          refine ⟨_, rfl, ?_⟩
          have H := H.same H'; clear H'
          refine s_run rfl rfl (r_mv (v := .int _ _) rfl) ?_
          refine s_run rfl rfl (r_cv rfl (by kernel_rfl) Try.underlying3 (wI (by omega))) ?_
          refine s_run rfl rfl (r_gtrF rfl rfl (by omega)) ?_
          refine s_run rfl rfl (r_mv (v := .bool _) rfl) ?_
          refine s_run rfl (g_on 47 (by kernel_rfl) rfl) (r_mv (v := .pointer _) rfl) ?_
          refine s_call (g_on 47 (by kernel_rfl) rfl) (hDe _ (H.grp_ents 0 rfl)) (ca28 rfl) ?_
          rintro e W1 ⟨rfl, H'⟩
          refine ⟨_, rfl, ?_⟩
          have H := H.same H'; clear H'
          refine s_run rfl (g_on 47 (by kernel_rfl) rfl) (r_mv (v := .bool _) rfl) ?_
          refine s_off rfl (g_off 50 (by kernel_rfl) rfl rfl) ?_
          refine s_off rfl (g_off 50 (by kernel_rfl) rfl rfl) ?_
          refine s_off rfl (g_off 50 (by kernel_rfl) rfl rfl) ?_
          refine s_off rfl (g_off 50 (by kernel_rfl) rfl rfl) ?_
          refine s_off rfl (g_off 50 (by kernel_rfl) rfl rfl) ?_
          refine s_run rfl (g_on 47 (by kernel_rfl) rfl) (r_pkF (v := .bool _) rfl rfl) ?_
          refine s_run rfl rfl (r_pkF (v := .bool _) rfl rfl) ?_
          refine k_nil ?_
          refine c_norm ?_
          refine k_f rfl ?_
          refine k_skip ?_
          refine b_norm ?_
          refine c_norm ?_
          refine k_rg ?_
          refine s_run rfl rfl (r_mv (v := .int _ _) rfl) ?_
          refine s_run rfl rfl (r_add rfl rfl (wI (by omega))) ?_
          refine s_run rfl rfl (r_as (v := .int _ _) rfl) ?_
          refine k_nil ?_
          refine c_round ?_
          refine ⟨_, _, ?_, rfl, k + 1, x', by omega, rfl, hA', ho', rfl, rfl, rfl, rfl, H⟩
          omega
      · have hA4 := hA3
        by_cases hdd : x.dead = true
        · have hDe := nDead g x
          have hSp := nSteps g x
          rw [hdd] at hDe
          have hA5 := hA3 hdd
          refine k_seq ?_
          refine k_seq ?_
          refine k_rg ?_
          refine s_run rfl rfl (r_mv (v := .int _ _) rfl) ?_
          refine s_run rfl rfl (r_mv (v := .slice _ _ _) rfl) ?_
          refine s_run rfl rfl (r_len rfl Try.underlying46) ?_
          refine s_run rfl rfl (r_lssT rfl rfl (by omega)) ?_
          refine k_nil ?_
          refine c_norm ?_
          refine k_t rfl ?_
          refine k_skip ?_
          refine c_norm ?_
          refine k_seq ?_
          refine k_b ?_
          refine k_seq ?_
          refine k_rg ?_
          refine s_run rfl rfl (r_mv (v := .slice _ _ _) rfl) ?_
          refine s_run rfl rfl (r_mv (v := .int _ _) rfl) ?_
          refine s_run rfl rfl (r_ix (i := k) rfl rfl (by omega) (by omega) Try.underlying46 sz51) ?_
          refine s_run rfl rfl (r_lA (enc := fun v : Value => v) (zs := op.cells) (hcell.later H.only (by simp)) rfl rfl ag51 sz51) ?_
          refine s_al H rfl inf51 ?_
          intro p9 _ H'; clear H; have H := H'; clear H'
          refine s_sw H 0 rfl rfl rfl rfl rfl rfl rfl sz51 ?_
          intro _ H'; simp only [List.set_cons_zero, List.set_cons_succ, List.take_succ_cons, List.take_zero, List.drop_succ_cons, List.drop_zero, List.cons_append, List.nil_append, List.append_nil, List.length_cons, List.length_nil, Nat.reduceAdd] at H'; clear H; have H := H'; clear H'
          refine k_nil ?_
          refine c_norm ?_
          refine k_seq ?_
          refine k_seq ?_
          refine k_rg ?_
          refine s_run rfl rfl (r_fa0 rfl fo51_0) ?_
          refine s_run rfl rfl (r_lo H 0 rfl rfl rfl ag3) ?_
          refine s_run rfl rfl (r_lssF rfl rfl (by omega)) ?_
          refine k_nil ?_
          refine c_norm ?_
          refine k_f rfl ?_
          refine k_skip ?_
          refine c_norm ?_
          refine k_seq ?_
          refine k_rg ?_
          refine s_run rfl rfl (r_mv (v := .pointer _) rfl) ?_
          refine s_call rfl (hSp _ (H.grp_ents 1 rfl)) (ca29 rfl) ?_
          rintro e W1 ⟨rfl, H'⟩
          refine ⟨_, rfl, ?_⟩
          have H := H.same H'; clear H'
          refine s_run rfl rfl (r_mv (v := .int _ _) rfl) ?_
          refine s_run rfl rfl (r_cv rfl (by kernel_rfl) Try.underlying3 (wI (by omega))) ?_
          refine s_run rfl rfl (r_gtrF rfl rfl (by omega)) ?_
          refine s_run rfl rfl (r_mv (v := .bool _) rfl) ?_
          refine s_run rfl (g_on 47 (by kernel_rfl) rfl) (r_mv (v := .pointer _) rfl) ?_
          refine s_call (g_on 47 (by kernel_rfl) rfl) (hDe _ (H.grp_ents 1 rfl)) (ca28 rfl) ?_
          rintro e W1 ⟨rfl, H'⟩
          refine ⟨_, rfl, ?_⟩
          have H := H.same H'; clear H'
          refine s_run rfl (g_on 47 (by kernel_rfl) rfl) (r_mv (v := .bool _) rfl) ?_
          refine s_run rfl (g_on 50 (by kernel_rfl) rfl) (r_mv (v := .pointer _) rfl) ?_
          refine s_call (g_on 50 (by kernel_rfl) rfl) (hSp _ (H.grp_ents 1 rfl)) (ca29 rfl) ?_
          rintro e W1 ⟨rfl, H'⟩
          refine ⟨_, rfl, ?_⟩
          have H := H.same H'; clear H'
          refine s_run rfl (g_on 50 (by kernel_rfl) rfl) (r_mv (v := .int _ _) rfl) ?_
          refine s_run rfl (g_on 50 (by kernel_rfl) rfl) (r_cv rfl (by kernel_rfl) Try.underlying3 (wI (by omega))) ?_
          refine s_run rfl (g_on 50 (by kernel_rfl) rfl) (r_neqF rfl rfl (by omega)) ?_
          refine s_run rfl (g_on 47 (by kernel_rfl) rfl) (r_pkT (v := .bool _) rfl rfl) ?_
          refine s_run rfl rfl (r_pkF (v := .bool _) rfl rfl) ?_
          refine k_nil ?_
          refine c_norm ?_
          refine k_f rfl ?_
          refine k_skip ?_
          refine b_norm ?_
          refine c_norm ?_
          refine k_rg ?_
          refine s_run rfl rfl (r_mv (v := .int _ _) rfl) ?_
          refine s_run rfl rfl (r_add rfl rfl (wI (by omega))) ?_
          refine s_run rfl rfl (r_as (v := .int _ _) rfl) ?_
          refine k_nil ?_
          refine c_round ?_
          refine ⟨_, _, ?_, rfl, k + 1, x, by omega, rfl, hA, ho, rfl, rfl, rfl, rfl, H.drop⟩
          omega
        · replace hdd : x.dead = false := by simpa using hdd
          have hDe := nDead g x
          have hSp := nSteps g x
          rw [hdd] at hDe
          refine k_seq ?_
          refine k_seq ?_
          refine k_rg ?_
          refine s_run rfl rfl (r_mv (v := .int _ _) rfl) ?_
          refine s_run rfl rfl (r_mv (v := .slice _ _ _) rfl) ?_
          refine s_run rfl rfl (r_len rfl Try.underlying46) ?_
          refine s_run rfl rfl (r_lssT rfl rfl (by omega)) ?_
          refine k_nil ?_
          refine c_norm ?_
          refine k_t rfl ?_
          refine k_skip ?_
          refine c_norm ?_
          refine k_seq ?_
          refine k_b ?_
          refine k_seq ?_
          refine k_rg ?_
          refine s_run rfl rfl (r_mv (v := .slice _ _ _) rfl) ?_
          refine s_run rfl rfl (r_mv (v := .int _ _) rfl) ?_
          refine s_run rfl rfl (r_ix (i := k) rfl rfl (by omega) (by omega) Try.underlying46 sz51) ?_
          refine s_run rfl rfl (r_lA (enc := fun v : Value => v) (zs := op.cells) (hcell.later H.only (by simp)) rfl rfl ag51 sz51) ?_
          refine s_al H rfl inf51 ?_
          intro p9 _ H'; clear H; have H := H'; clear H'
          refine s_sw H 0 rfl rfl rfl rfl rfl rfl rfl sz51 ?_
          intro _ H'; simp only [List.set_cons_zero, List.set_cons_succ, List.take_succ_cons, List.take_zero, List.drop_succ_cons, List.drop_zero, List.cons_append, List.nil_append, List.append_nil, List.length_cons, List.length_nil, Nat.reduceAdd] at H'; clear H; have H := H'; clear H'
          refine k_nil ?_
          refine c_norm ?_
          refine k_seq ?_
          refine k_seq ?_
          refine k_rg ?_
          refine s_run rfl rfl (r_fa0 rfl fo51_0) ?_
          refine s_run rfl rfl (r_lo H 0 rfl rfl rfl ag3) ?_
          refine s_run rfl rfl (r_lssF rfl rfl (by omega)) ?_
          refine k_nil ?_
          refine c_norm ?_
          refine k_f rfl ?_
          refine k_skip ?_
          refine c_norm ?_
          refine k_seq ?_
          refine k_rg ?_
          refine s_run rfl rfl (r_mv (v := .pointer _) rfl) ?_
          refine s_call rfl (hSp _ (H.grp_ents 1 rfl)) (ca29 rfl) ?_
          rintro e W1 ⟨rfl, H'⟩
          refine ⟨_, rfl, ?_⟩
          have H := H.same H'; clear H'
          refine s_run rfl rfl (r_mv (v := .int _ _) rfl) ?_
          refine s_run rfl rfl (r_cv rfl (by kernel_rfl) Try.underlying3 (wI (by omega))) ?_
          refine s_run rfl rfl (r_gtrF rfl rfl (by omega)) ?_
          refine s_run rfl rfl (r_mv (v := .bool _) rfl) ?_
          refine s_run rfl (g_on 47 (by kernel_rfl) rfl) (r_mv (v := .pointer _) rfl) ?_
          refine s_call (g_on 47 (by kernel_rfl) rfl) (hDe _ (H.grp_ents 1 rfl)) (ca28 rfl) ?_
          rintro e W1 ⟨rfl, H'⟩
          refine ⟨_, rfl, ?_⟩
          have H := H.same H'; clear H'
          refine s_run rfl (g_on 47 (by kernel_rfl) rfl) (r_mv (v := .bool _) rfl) ?_
          refine s_off rfl (g_off 50 (by kernel_rfl) rfl rfl) ?_
          refine s_off rfl (g_off 50 (by kernel_rfl) rfl rfl) ?_
          refine s_off rfl (g_off 50 (by kernel_rfl) rfl rfl) ?_
          refine s_off rfl (g_off 50 (by kernel_rfl) rfl rfl) ?_
          refine s_off rfl (g_off 50 (by kernel_rfl) rfl rfl) ?_
          refine s_run rfl (g_on 47 (by kernel_rfl) rfl) (r_pkF (v := .bool _) rfl rfl) ?_
          refine s_run rfl rfl (r_pkF (v := .bool _) rfl rfl) ?_
          refine k_nil ?_
          refine c_norm ?_
          refine k_f rfl ?_
          refine k_skip ?_
          refine b_norm ?_
          refine c_norm ?_
          refine k_rg ?_
          refine s_run rfl rfl (r_mv (v := .int _ _) rfl) ?_
          refine s_run rfl rfl (r_add rfl rfl (wI (by omega))) ?_
          refine s_run rfl rfl (r_as (v := .int _ _) rfl) ?_
          refine k_nil ?_
          refine c_round ?_
          refine ⟨_, _, ?_, rfl, k + 1, x, by omega, rfl, hA, ho, rfl, rfl, rfl, rfl, H.drop⟩
          omega
    · obtain rfl : k = q := by omega
      by_cases hdd : x.dead = true
      · obtain ⟨c0, hc0, hst⟩ := store_dead m hdd
        have hfe := fence_dead m hdd
        have hDe := nDead g x
        rw [hdd] at hDe
        have hS := fun v => nStore g x m 0 v
        simp only [hst] at hS
        have hFe := nFence g x m
        simp only [hfe] at hFe
        refine k_seq ?_
        refine k_seq ?_
        refine k_rg ?_
        refine s_run rfl rfl (r_mv (v := .int _ _) rfl) ?_
        refine s_run rfl rfl (r_mv (v := .slice _ _ _) rfl) ?_
        refine s_run rfl rfl (r_len rfl Try.underlying46) ?_
        refine s_run rfl rfl (r_lssF rfl rfl (by omega)) ?_
        refine k_nil ?_
        refine c_norm ?_
        refine k_f rfl ?_
        refine k_exit ?_
        refine c_exit ?_
        refine c_exit ?_
        refine b_hit ?_
        refine c_norm ?_
        refine k_seq ?_
        refine k_seq ?_
        refine k_rg ?_
        refine s_run rfl rfl (r_mv (v := .pointer _) rfl) ?_
        refine s_call rfl (hDe _ (H.grp_ents 0 rfl)) (ca28 rfl) ?_
        rintro e W1 ⟨rfl, H'⟩
        refine ⟨_, rfl, ?_⟩
        have H := H.same H'; clear H'
        refine s_run rfl rfl (r_notT rfl) ?_
        refine k_nil ?_
        refine c_norm ?_
        refine k_f rfl ?_
        refine k_skip ?_
        refine c_norm ?_
        refine k_seq ?_
        refine k_rg ?_
        refine s_run rfl rfl (r_mv (v := .pointer _) rfl) ?_
        refine s_call rfl (nGet g x 0 _ (H.grp_ents 0 rfl)) (ca25 rfl) ?_
        rintro e W1 ⟨rfl, H'⟩
        refine ⟨_, rfl, ?_⟩
        have H := H.same H'; clear H'
        refine s_run rfl rfl (r_as (v := .int _ _) rfl) ?_
        refine k_nil ?_
        refine c_norm ?_
        refine k_seq ?_
        refine k_rg ?_
        refine s_run rfl rfl (r_mv (v := .pointer _) rfl) ?_
        refine s_run rfl rfl (r_mv (v := .int _ _) rfl) ?_
        refine s_run rfl rfl (r_add rfl rfl rfl) ?_
        refine s_call rfl (hS _ _ (H.grp_ents 0 rfl) ho (by omega)) (ca30 rfl) ?_
        rintro e W1 ⟨rfl, H'⟩
        refine ⟨_, rfl, ?_⟩
        have H1 := H.grp_at 0 rfl H'; clear H H'; have H := H1; clear H1; simp only [List.set_cons_zero] at H
        refine s_run rfl rfl (r_neqT rfl rfl (by omega)) ?_
        refine s_run rfl rfl (r_mv (v := .bool _) rfl) ?_
        refine s_run rfl (g_on 68 (by kernel_rfl) rfl) (r_mv (v := .pointer _) rfl) ?_
        refine s_call (g_on 68 (by kernel_rfl) rfl) (hFe _ (H.grp_ents 0 rfl) ho hg (by omega)) (ca35 rfl) ?_
        rintro e W1 ⟨rfl, H'⟩
        refine ⟨_, rfl, ?_⟩
        have H1 := H.grp_at 0 rfl H'; clear H H'; have H := H1; clear H1; simp only [List.set_cons_zero] at H
        refine s_run rfl (g_on 68 (by kernel_rfl) rfl) (r_eqlT rfl rfl (by omega)) ?_
        refine s_run rfl rfl (r_pkT (v := .bool _) rfl rfl) ?_
        refine s_run rfl rfl (r_mv (v := .bool _) rfl) ?_
        refine s_run rfl (g_on 73 (by kernel_rfl) rfl) (r_mv (v := .pointer _) rfl) ?_
        refine s_call (g_on 73 (by kernel_rfl) rfl) (nGet g x 0 _ (H.grp_ents 0 rfl)) (ca25 rfl) ?_
        rintro e W1 ⟨rfl, H'⟩
        refine ⟨_, rfl, ?_⟩
        have H := H.same H'; clear H'
        refine s_run rfl (g_on 73 (by kernel_rfl) rfl) (r_mv (v := .int _ _) rfl) ?_
        refine s_run rfl (g_on 73 (by kernel_rfl) rfl) (r_eqlT rfl rfl (by omega)) ?_
        refine s_run rfl rfl (r_pkT (v := .bool _) rfl rfl) ?_
        refine s_run rfl rfl (r_as (v := .bool _) rfl) ?_
        refine k_nil ?_
        refine c_norm ?_
        refine k_ret ?_
        refine fin1r (v := .bool _) rfl rfl ?_
        exact ⟨rfl, H.only.below⟩
      · replace hdd : x.dead = false := by simpa using hdd
        have hDe := nDead g x
        rw [hdd] at hDe
        refine k_seq ?_
        refine k_seq ?_
        refine k_rg ?_
        refine s_run rfl rfl (r_mv (v := .int _ _) rfl) ?_
        refine s_run rfl rfl (r_mv (v := .slice _ _ _) rfl) ?_
        refine s_run rfl rfl (r_len rfl Try.underlying46) ?_
        refine s_run rfl rfl (r_lssF rfl rfl (by omega)) ?_
        refine k_nil ?_
        refine c_norm ?_
        refine k_f rfl ?_
        refine k_exit ?_
        refine c_exit ?_
        refine c_exit ?_
        refine b_hit ?_
        refine c_norm ?_
        refine k_seq ?_
        refine k_seq ?_
        refine k_rg ?_
        refine s_run rfl rfl (r_mv (v := .pointer _) rfl) ?_
        refine s_call rfl (hDe _ (H.grp_ents 0 rfl)) (ca28 rfl) ?_
        rintro e W1 ⟨rfl, H'⟩
        refine ⟨_, rfl, ?_⟩
        have H := H.same H'; clear H'
        refine s_run rfl rfl (r_notF rfl) ?_
        refine k_nil ?_
        refine c_norm ?_
        refine k_t rfl ?_
        refine k_seq ?_
        refine k_rg ?_
        refine s_run rfl rfl (r_as (v := .bool _) rfl) ?_
        refine k_nil ?_
        refine c_norm ?_
        refine k_ret ?_
        refine c_ret ?_
        refine fin1r (v := .bool _) rfl rfl ?_
        exact ⟨rfl, H.only.below⟩
  · have hf3 : fewB n q ops = false := by simpa using hf
    have hF := fun W hs => lFew A n c B q cq ops W hs hl hn hq
    rw [hf3] at hF
    refine k_in (N := 79) Try.func5 rfl rfl rfl ?_
    refine k_seq ?_
    refine k_rg ?_
    refine s_run rfl rfl (r_as (v := .bool _) rfl) ?_
    refine k_nil ?_
    refine c_norm ?_
    refine k_seq ?_
    refine k_seq ?_
    refine k_rg ?_
    refine s_call rfl (lAwake _) (ca20 rfl) ?_
    rintro e W1 ⟨rfl, H'⟩
    refine ⟨_, rfl, ?_⟩
    have H := H.same H'; clear H'
    refine s_run rfl rfl (r_notT rfl) ?_
    refine k_nil ?_
    refine c_norm ?_
    refine k_f rfl ?_
    refine k_skip ?_
    refine c_norm ?_
    refine k_seq ?_
    refine k_seq ?_
    refine k_rg ?_
    refine s_run rfl rfl (r_mv (v := .slice _ _ _) rfl) ?_
    refine s_run rfl rfl (r_mv (v := .slice _ _ _) rfl) ?_
    refine s_call rfl (hF _ (hs.later H.only)) (ca31 rfl) ?_
    rintro e W1 ⟨rfl, H'⟩
    refine ⟨_, rfl, ?_⟩
    have H := H.same H'; clear H'
    refine s_run rfl rfl (r_notF rfl) ?_
    refine k_nil ?_
    refine c_norm ?_
    refine k_t rfl ?_
    refine k_seq ?_
    refine k_rg ?_
    refine s_run rfl rfl (r_as (v := .bool _) rfl) ?_
    refine k_nil ?_
    refine c_norm ?_
    refine k_ret ?_
    refine c_ret ?_
    refine fin1r (v := .bool _) rfl rfl ?_
    exact ⟨rfl, H.only.below⟩
end Go.Proofs.Ytmekhdclnhhhbaa
