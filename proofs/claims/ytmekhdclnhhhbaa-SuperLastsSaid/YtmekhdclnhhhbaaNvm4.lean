/- Evict, Equal, Fence. -/
import Derived.Test.YtmekhdclnhhhbaaNvm3
namespace Go.Proofs.Ytmekhdclnhhhbaa
open Go.RowKit
set_option linter.unusedSimpArgs false
set_option linter.unusedVariables false
theorem nEvict (g : Geo) (d : Nv.D) (m : Nat) (a : Int) (w : World) (hE : Ents (devL g d) w) (ho : Nv.Ok d m) (hg : GOk g m) (hm : m ≤ 100000) :
    Calls Try.prog 50 [ptr g.p, .int .i64 a].toArray w fun e w' => e = .returned (.int .i64 (Nv.evict d m a).2) ∧ Heap w (ids (devL g d)) (devL g (Nv.evict d m a).1) w' := by
  have H := Heap.start hE
  have hd := ho.hd
  have hp := ho.hp
  have hc := ho.hc
  have hl := ho.hl
  by_cases hin : 0 ≤ a ∧ a < (m : Int)
  · obtain ⟨i, rfl⟩ : ∃ i : Nat, a = (i : Int) := ⟨a.toNat, by omega⟩
    by_cases hs : d.dead = true
    · have er : Nv.evict d m i = (d, 3) := by rw [Nv.evict, if_pos hin, if_pos hs]
      rw [er]
      generalize hF : ids (devL g d) = F at H ⊢
      unfold devL devCells at H
      rw [hs] at H
      refine k_in (N := 49) Try.func50 rfl rfl rfl ?_
      refine k_seq ?_
      refine k_rg ?_
      refine s_run rfl rfl (r_as (v := .int _ _) rfl) ?_
      refine k_nil ?_
      refine c_norm ?_
      refine k_seq ?_
      refine k_b ?_
      refine k_seq ?_
      refine k_rg ?_
      refine s_run rfl rfl (r_mv (v := .int _ _) rfl) ?_
      refine s_run rfl rfl (r_lssF rfl rfl (by omega)) ?_
      refine s_run rfl rfl (r_mv (v := .bool _) rfl) ?_
      refine s_run rfl (g_on 8 (by kernel_rfl) rfl) (r_mv (v := .int _ _) rfl) ?_
      refine s_run rfl (g_on 8 (by kernel_rfl) rfl) (r_mv (v := .pointer _) rfl) ?_
      refine s_run rfl (g_on 8 (by kernel_rfl) rfl) (r_nc rfl) ?_
      refine s_run rfl (g_on 8 (by kernel_rfl) rfl) (r_fa0 rfl fo114_3) ?_
      refine s_run rfl (g_on 8 (by kernel_rfl) rfl) (r_lo H 0 rfl rfl rfl ag53) ?_
      refine s_run rfl (g_on 8 (by kernel_rfl) rfl) (r_len rfl Try.underlying53) ?_
      refine s_run rfl (g_on 8 (by kernel_rfl) rfl) (r_geqF rfl rfl (by omega)) ?_
      refine s_run rfl rfl (r_pkF (v := .bool _) rfl rfl) ?_
      refine s_run rfl rfl (r_as (v := .bool _) rfl) ?_
      refine k_nil ?_
      refine c_norm ?_
      refine k_f rfl ?_
      refine k_seq ?_
      refine k_rg ?_
      refine s_run rfl rfl (r_mv (v := .pointer _) rfl) ?_
      refine s_run rfl rfl (r_nc rfl) ?_
      refine s_run rfl rfl (r_fa0 rfl fo114_8) ?_
      refine s_run rfl rfl (r_lo H 0 rfl rfl rfl ag4) ?_
      refine s_run rfl rfl (r_as (v := .bool _) rfl) ?_
      refine k_nil ?_
      refine c_norm ?_
      refine k_t rfl ?_
      refine k_seq ?_
      refine k_rg ?_
      refine s_run rfl rfl (r_as (v := .int _ _) rfl) ?_
      refine k_nil ?_
      refine c_norm ?_
      refine k_ret ?_
      refine b_ret ?_
      refine c_ret ?_
      refine fin1r (v := .int _ _) rfl rfl ?_
      refine ⟨rfl, ?_⟩
      unfold devL devCells
      rw [hs]
      exact H
    · have hs : d.dead = false := by simpa using hs
      have er : Nv.evict d m i = (Nv.evicted d i, 0) := by rw [Nv.evict, if_pos hin, if_neg (by simp [hs]), Int.toNat_natCast]
      rw [er]
      generalize hF : ids (devL g d) = F at H ⊢
      unfold devL devCells at H
      rw [hs] at H
      have hgc := hg.c
      have hgl := hg.l
      refine k_in (N := 49) Try.func50 rfl rfl rfl ?_
      refine k_seq ?_
      refine k_rg ?_
      refine s_run rfl rfl (r_as (v := .int _ _) rfl) ?_
      refine k_nil ?_
      refine c_norm ?_
      refine k_seq ?_
      refine k_b ?_
      refine k_seq ?_
      refine k_rg ?_
      refine s_run rfl rfl (r_mv (v := .int _ _) rfl) ?_
      refine s_run rfl rfl (r_lssF rfl rfl (by omega)) ?_
      refine s_run rfl rfl (r_mv (v := .bool _) rfl) ?_
      refine s_run rfl (g_on 8 (by kernel_rfl) rfl) (r_mv (v := .int _ _) rfl) ?_
      refine s_run rfl (g_on 8 (by kernel_rfl) rfl) (r_mv (v := .pointer _) rfl) ?_
      refine s_run rfl (g_on 8 (by kernel_rfl) rfl) (r_nc rfl) ?_
      refine s_run rfl (g_on 8 (by kernel_rfl) rfl) (r_fa0 rfl fo114_3) ?_
      refine s_run rfl (g_on 8 (by kernel_rfl) rfl) (r_lo H 0 rfl rfl rfl ag53) ?_
      refine s_run rfl (g_on 8 (by kernel_rfl) rfl) (r_len rfl Try.underlying53) ?_
      refine s_run rfl (g_on 8 (by kernel_rfl) rfl) (r_geqF rfl rfl (by omega)) ?_
      refine s_run rfl rfl (r_pkF (v := .bool _) rfl rfl) ?_
      refine s_run rfl rfl (r_as (v := .bool _) rfl) ?_
      refine k_nil ?_
      refine c_norm ?_
      refine k_f rfl ?_
      refine k_seq ?_
      refine k_rg ?_
      refine s_run rfl rfl (r_mv (v := .pointer _) rfl) ?_
      refine s_run rfl rfl (r_nc rfl) ?_
      refine s_run rfl rfl (r_fa0 rfl fo114_8) ?_
      refine s_run rfl rfl (r_lo H 0 rfl rfl rfl ag4) ?_
      refine s_run rfl rfl (r_as (v := .bool _) rfl) ?_
      refine k_nil ?_
      refine c_norm ?_
      refine k_f rfl ?_
      refine k_skip ?_
      refine b_norm ?_
      refine c_norm ?_
      refine k_seq ?_
      refine k_qt 14 mixed (by kernel_rfl) H rfl rfl ?_
      refine q_run rfl rfl (fun _ H => r_mv (v := .pointer _) rfl) ?_
      refine q_run rfl rfl (fun _ H => r_mv (v := .pointer _) rfl) ?_
      refine q_run rfl rfl (fun _ H => r_nc rfl) ?_
      refine q_run rfl rfl (fun _ H => r_fa0 rfl fo114_0) ?_
      refine q_run rfl rfl (fun _ H => r_lo H 0 rfl rfl rfl ag25) ?_
      refine q_run rfl rfl (fun _ H => r_mv (v := .int _ _) rfl) ?_
      refine q_call rfl rfl (fun _ H => nPart g.bl g.cl i _ _ _ (by omega)) (ca77 rfl) ?_
      refine q_run rfl rfl (fun _ H => r_mv (v := .pointer _) rfl) ?_
      refine q_run rfl rfl (fun _ H => r_mv (v := .pointer _) rfl) ?_
      refine q_run rfl rfl (fun _ H => r_nc rfl) ?_
      refine q_run rfl rfl (fun _ H => r_fa0 rfl fo114_1) ?_
      refine q_run rfl rfl (fun _ H => r_lo H 0 rfl rfl rfl ag25) ?_
      refine q_run rfl rfl (fun _ H => r_mv (v := .int _ _) rfl) ?_
      refine q_call rfl rfl (fun _ H => nPart g.bc g.cc i _ _ _ (by omega)) (ca77 rfl) ?_
      refine q_nil ?_
      intro _ H'; clear H; have H := H'; clear H'
      refine s_cp (enc := (Value.int .u64)) H 1 2 rfl rfl rfl rfl rfl (fun _ => rfl) (by omega) Try.underlying25 inf22 ?_
      intro _ H'; simp only [List.set_cons_zero, List.set_cons_succ, List.take_succ_cons, List.take_zero, List.drop_succ_cons, List.drop_zero, List.cons_append, List.nil_append, List.append_nil, List.length_cons, List.length_nil, Nat.reduceAdd] at H'; clear H; have H := H'; clear H'
      refine k_nil ?_
      refine c_norm ?_
      refine k_seq ?_
      refine k_trK mixed H ?_; have H' := H.drew; clear H; have H := H'; clear H'
      refine t_take 0 rfl (by kernel_rfl) (by kernel_rfl) (by kernel_rfl) rfl (fun _ _ _ _ h => h) rfl (fun _ hS => hS.elim fun _ H => r_mv (v := .pointer _) rfl) ⟨_, H⟩ ?_
      refine t_take 1 rfl (by kernel_rfl) (by kernel_rfl) (by kernel_rfl) rfl (fun _ _ _ _ h => h) rfl (fun _ hS => hS.elim fun _ H => r_nc rfl) ⟨_, H⟩ ?_
      refine t_take 2 rfl (by kernel_rfl) (by kernel_rfl) (by kernel_rfl) rfl (fun _ _ _ _ h => h) rfl (fun _ hS => hS.elim fun _ H => r_fa0 rfl fo114_3) ⟨_, H⟩ ?_
      refine t_take 3 rfl (by kernel_rfl) (by kernel_rfl) (by kernel_rfl) rfl (fun _ _ _ _ h => h) rfl (fun _ hS => hS.elim fun _ H => r_lo H 0 rfl rfl rfl ag53) ⟨_, H⟩ ?_
      refine t_take 4 rfl (by kernel_rfl) (by kernel_rfl) (by kernel_rfl) rfl (fun _ _ _ _ h => h) rfl (fun _ hS => hS.elim fun _ H => r_mv (v := .int _ _) rfl) ⟨_, H⟩ ?_
      refine t_take 5 rfl (by kernel_rfl) (by kernel_rfl) (by kernel_rfl) rfl (fun _ _ _ _ h => h) rfl (fun _ hS => hS.elim fun _ H => r_mv (v := .pointer _) rfl) ⟨_, H⟩ ?_
      refine t_take 6 rfl (by kernel_rfl) (by kernel_rfl) (by kernel_rfl) rfl (fun _ _ _ _ h => h) rfl (fun _ hS => hS.elim fun _ H => r_nc rfl) ⟨_, H⟩ ?_
      refine t_take 7 rfl (by kernel_rfl) (by kernel_rfl) (by kernel_rfl) rfl (fun _ _ _ _ h => h) rfl (fun _ hS => hS.elim fun _ H => r_fa0 rfl fo114_4) ⟨_, H⟩ ?_
      refine t_take 8 rfl (by kernel_rfl) (by kernel_rfl) (by kernel_rfl) rfl (fun _ _ _ _ h => h) rfl (fun _ hS => hS.elim fun _ H => r_lo H 0 rfl rfl rfl ag53) ⟨_, H⟩ ?_
      refine t_take 9 rfl (by kernel_rfl) (by kernel_rfl) (by kernel_rfl) rfl (fun _ _ _ _ h => h) rfl (fun _ hS => hS.elim fun _ H => r_mv (v := .int _ _) rfl) ⟨_, H⟩ ?_
      refine t_take 10 rfl (by kernel_rfl) (by kernel_rfl) (by kernel_rfl) rfl (fun _ _ _ _ h => h) rfl (fun _ hS => hS.elim fun _ H => r_ix1 rfl rfl rfl (by omega) Try.underlying53 sz4) ⟨_, H⟩ ?_
      refine t_up1 11 (by kernel_rfl) ?_
      refine up_mk rfl ?_
      refine s_sv (u := .bool _) H 4 rfl rfl rfl rfl rfl (by omega) (fun _ => rfl) sz4 ?_
      intro _ H'; simp only [List.set_cons_zero, List.set_cons_succ, List.take_succ_cons, List.take_zero, List.drop_succ_cons, List.drop_zero, List.cons_append, List.nil_append, List.append_nil, List.length_cons, List.length_nil, Nat.reduceAdd] at H'; clear H; have H := H'; clear H'
      refine k_nil ?_
      refine t_on ⟨_, H⟩ ?_
      refine t_take 12 rfl (by kernel_rfl) (by kernel_rfl) (by kernel_rfl) rfl (fun _ _ _ _ h => h) rfl (fun _ hS => hS.elim fun _ H => r_ix1 rfl rfl rfl (by omega) Try.underlying53 sz4) ⟨_, H⟩ ?_
      refine t_up1 13 (by kernel_rfl) ?_
      refine up_mk rfl ?_
      refine s_sv (u := .bool _) H 5 rfl rfl rfl rfl rfl (by omega) (fun _ => rfl) sz4 ?_
      intro _ H'; simp only [List.set_cons_zero, List.set_cons_succ, List.take_succ_cons, List.take_zero, List.drop_succ_cons, List.drop_zero, List.cons_append, List.nil_append, List.append_nil, List.length_cons, List.length_nil, Nat.reduceAdd] at H'; clear H; have H := H'; clear H'
      refine k_nil ?_
      refine t_on ⟨_, H⟩ ?_
      refine t_done (by kernel_rfl) ?_
      refine c_norm ?_
      refine k_seq ?_
      refine k_rg ?_
      refine s_run rfl rfl (r_as (v := .int _ _) rfl) ?_
      refine k_nil ?_
      refine c_norm ?_
      refine k_ret ?_
      refine fin1r (v := .int _ _) rfl rfl ?_
      refine ⟨rfl, ?_⟩
      unfold devL devCells Nv.evicted
      have e : Nv.setPart d.last i (Nv.part d.cache i) = d.last.take (8 * i) ++ ((d.cache.drop (8 * i)).take 8 ++ d.last.drop (8 * i + 8)) := by simp [Nv.setPart, Nv.part]
      have hl2 : (Nv.setPart d.last i (Nv.part d.cache i)).length = d.last.length := Nv.length_setPart (by omega) (Nv.length_part (by omega))
      rw [← e] at H
      simp only [hl2, List.length_set, hs]
      exact H
  · have er : Nv.evict d m a = (d, 2) := by rw [Nv.evict, if_neg hin]
    rw [er]
    generalize hF : ids (devL g d) = F at H ⊢
    unfold devL devCells at H
    by_cases h1 : a < 0
    · refine k_in (N := 49) Try.func50 rfl rfl rfl ?_
      refine k_seq ?_
      refine k_rg ?_
      refine s_run rfl rfl (r_as (v := .int _ _) rfl) ?_
      refine k_nil ?_
      refine c_norm ?_
      refine k_seq ?_
      refine k_b ?_
      refine k_seq ?_
      refine k_rg ?_
      refine s_run rfl rfl (r_mv (v := .int _ _) rfl) ?_
      refine s_run rfl rfl (r_lssT rfl rfl (by omega)) ?_
      refine s_run rfl rfl (r_mv (v := .bool _) rfl) ?_
      refine s_off rfl (g_off 8 (by kernel_rfl) rfl rfl) ?_
      refine s_off rfl (g_off 8 (by kernel_rfl) rfl rfl) ?_
      refine s_off rfl (g_off 8 (by kernel_rfl) rfl rfl) ?_
      refine s_off rfl (g_off 8 (by kernel_rfl) rfl rfl) ?_
      refine s_off rfl (g_off 8 (by kernel_rfl) rfl rfl) ?_
      refine s_off rfl (g_off 8 (by kernel_rfl) rfl rfl) ?_
      refine s_off rfl (g_off 8 (by kernel_rfl) rfl rfl) ?_
      refine s_run rfl rfl (r_pkT (v := .bool _) rfl rfl) ?_
      refine s_run rfl rfl (r_as (v := .bool _) rfl) ?_
      refine k_nil ?_
      refine c_norm ?_
      refine k_t rfl ?_
      refine k_seq ?_
      refine k_rg ?_
      refine s_run rfl rfl (r_as (v := .int _ _) rfl) ?_
      refine k_nil ?_
      refine c_norm ?_
      refine k_ret ?_
      refine b_ret ?_
      refine c_ret ?_
      refine fin1r (v := .int _ _) rfl rfl ?_
      exact ⟨rfl, H⟩
    · refine k_in (N := 49) Try.func50 rfl rfl rfl ?_
      refine k_seq ?_
      refine k_rg ?_
      refine s_run rfl rfl (r_as (v := .int _ _) rfl) ?_
      refine k_nil ?_
      refine c_norm ?_
      refine k_seq ?_
      refine k_b ?_
      refine k_seq ?_
      refine k_rg ?_
      refine s_run rfl rfl (r_mv (v := .int _ _) rfl) ?_
      refine s_run rfl rfl (r_lssF rfl rfl (by omega)) ?_
      refine s_run rfl rfl (r_mv (v := .bool _) rfl) ?_
      refine s_run rfl (g_on 8 (by kernel_rfl) rfl) (r_mv (v := .int _ _) rfl) ?_
      refine s_run rfl (g_on 8 (by kernel_rfl) rfl) (r_mv (v := .pointer _) rfl) ?_
      refine s_run rfl (g_on 8 (by kernel_rfl) rfl) (r_nc rfl) ?_
      refine s_run rfl (g_on 8 (by kernel_rfl) rfl) (r_fa0 rfl fo114_3) ?_
      refine s_run rfl (g_on 8 (by kernel_rfl) rfl) (r_lo H 0 rfl rfl rfl ag53) ?_
      refine s_run rfl (g_on 8 (by kernel_rfl) rfl) (r_len rfl Try.underlying53) ?_
      refine s_run rfl (g_on 8 (by kernel_rfl) rfl) (r_geqT rfl rfl (by omega)) ?_
      refine s_run rfl rfl (r_pkF (v := .bool _) rfl rfl) ?_
      refine s_run rfl rfl (r_as (v := .bool _) rfl) ?_
      refine k_nil ?_
      refine c_norm ?_
      refine k_t rfl ?_
      refine k_seq ?_
      refine k_rg ?_
      refine s_run rfl rfl (r_as (v := .int _ _) rfl) ?_
      refine k_nil ?_
      refine c_norm ?_
      refine k_ret ?_
      refine b_ret ?_
      refine c_ret ?_
      refine fin1r (v := .int _ _) rfl rfl ?_
      exact ⟨rfl, H⟩
theorem all_upto {xs ys : List Int} {k : Nat} (h : ∀ i, i < k → xs.getD i default = ys.getD i default) (hx : xs.length = k) (hy : ys.length = k) : xs = ys := by
  apply List.ext_getElem (by omega)
  intro i h1 h2
  have := h i (by omega)
  simpa [List.getD_eq_getElem?_getD, List.getElem?_eq_getElem h1, List.getElem?_eq_getElem h2] using this
theorem nEqual (b o c b2 o2 c2 n : Nat) (xs ys : List Int) (w : World) (hx : Cells w b o xs .u64) (hy : Cells w b2 o2 ys .u64) (lx : xs.length = n) (ly : ys.length = n) (hn : n ≤ 1000000) :
    Calls Try.prog 78 [.slice (some ⟨b, o, none⟩) n c, .slice (some ⟨b2, o2, none⟩) n c2].toArray w fun e w' => e = .returned (.bool (Nv.same xs ys)) ∧ Only [] w w' := by
  have H := Heap.nil w
  refine k_in (N := 26) Try.func78 rfl rfl rfl ?_
  refine k_seq ?_
  refine k_rg ?_
  refine s_run rfl rfl (r_as (v := .bool _) rfl) ?_
  refine k_nil ?_
  refine c_norm ?_
  refine k_seq ?_
  refine k_seq ?_
  refine k_rg ?_
  refine s_run rfl rfl (r_mv (v := .slice _ _ _) rfl) ?_
  refine s_run rfl rfl (r_len rfl Try.underlying25) ?_
  refine s_run rfl rfl (r_mv (v := .slice _ _ _) rfl) ?_
  refine s_run rfl rfl (r_len rfl Try.underlying25) ?_
  refine s_run rfl rfl (r_neqF rfl rfl (by omega)) ?_
  refine k_nil ?_
  refine c_norm ?_
  refine k_f rfl ?_
  refine k_skip ?_
  refine c_norm ?_
  refine k_seq ?_
  refine k_seq ?_
  refine k_rg ?_
  refine s_run rfl rfl (r_mv (v := .slice _ _ _) rfl) ?_
  refine s_run rfl rfl (r_len rfl Try.underlying25) ?_
  refine s_run rfl rfl (r_mv (v := .int _ _) rfl) ?_
  refine k_nil ?_
  refine c_norm ?_
  refine k_b ?_
  refine k_loop (fun m f W => ∃ k : Nat, k ≤ n ∧ m = n - k ∧ (∀ i, i < k → xs.getD i default = ys.getD i default) ∧ f 0 = .slice (some ⟨b, o, none⟩) n c ∧ f 1 = .slice (some ⟨b2, o2, none⟩) n c2 ∧ f 12 = .int .i64 n ∧ f 13 = .int .i64 k ∧ Heap w [] [] W) n ⟨0, by omega, by omega, by omega, rfl, rfl, rfl, rfl, H⟩ ?_
  clear H
  rintro m f W ⟨k, hk, rfl, hall, h0, h1, h2, h3, H⟩
  obtain ⟨f, rfl⟩ := live4 h0 h1 h2 h3
  clear h0 h1 h2 h3
  by_cases hlt : k < n
  · have cx := hx k _ (getE (by omega))
    have cy := hy k _ (getE (by omega))
    by_cases he : xs.getD k default = ys.getD k default
    · refine k_seq ?_
      refine k_rg ?_
      refine s_run rfl rfl (r_lssT rfl rfl (by omega)) ?_
      refine k_nil ?_
      refine c_norm ?_
      refine k_seq ?_
      refine k_t rfl ?_
      refine k_skip ?_
      refine c_norm ?_
      refine k_seq ?_
      refine k_b ?_
      refine k_seq ?_
      refine k_rg ?_
      refine s_run rfl rfl (r_mv (v := .int _ _) rfl) ?_
      refine s_run rfl rfl (r_as (v := .int _ _) rfl) ?_
      refine k_nil ?_
      refine c_norm ?_
      refine k_seq ?_
      refine k_q mixed (by kernel_rfl) H ?_
      refine q_run rfl rfl (fun _ H => r_mv (v := .slice _ _ _) rfl) ?_
      refine q_run rfl rfl (fun _ H => r_mv (v := .int _ _) rfl) ?_
      refine q_run rfl rfl (fun _ H => r_ix1o rfl rfl rfl (by omega) Try.underlying25 sz22) ?_
      refine q_run rfl rfl (fun _ H => r_lr H rfl cx (by simp) ag22) ?_
      refine q_run rfl rfl (fun _ H => r_mv (v := .slice _ _ _) rfl) ?_
      refine q_run rfl rfl (fun _ H => r_mv (v := .int _ _) rfl) ?_
      refine q_run rfl rfl (fun _ H => r_ix1o rfl rfl rfl (by omega) Try.underlying25 sz22) ?_
      refine q_run rfl rfl (fun _ H => r_lr H rfl cy (by simp) ag22) ?_
      refine q_run rfl rfl (fun _ H => r_neqF rfl rfl (by omega)) ?_
      refine q_nil ?_
      intro _ H'; clear H; have H := H'; clear H'
      refine c_norm ?_
      refine k_f rfl ?_
      refine k_skip ?_
      refine b_norm ?_
      refine c_norm ?_
      refine k_rg ?_
      refine s_run rfl rfl (r_add rfl rfl (wI (by omega))) ?_
      refine s_run rfl rfl (r_mv (v := .int _ _) rfl) ?_
      refine k_nil ?_
      refine c_round ?_
      refine ⟨_, _, ?_, rfl, k + 1, by omega, rfl, fun i hi => ?_, rfl, rfl, rfl, rfl, H⟩
      · omega
      · by_cases hik : i = k
        · subst hik; exact he
        · exact hall i (by omega)
    · refine k_seq ?_
      refine k_rg ?_
      refine s_run rfl rfl (r_lssT rfl rfl (by omega)) ?_
      refine k_nil ?_
      refine c_norm ?_
      refine k_seq ?_
      refine k_t rfl ?_
      refine k_skip ?_
      refine c_norm ?_
      refine k_seq ?_
      refine k_b ?_
      refine k_seq ?_
      refine k_rg ?_
      refine s_run rfl rfl (r_mv (v := .int _ _) rfl) ?_
      refine s_run rfl rfl (r_as (v := .int _ _) rfl) ?_
      refine k_nil ?_
      refine c_norm ?_
      refine k_seq ?_
      refine k_q mixed (by kernel_rfl) H ?_
      refine q_run rfl rfl (fun _ H => r_mv (v := .slice _ _ _) rfl) ?_
      refine q_run rfl rfl (fun _ H => r_mv (v := .int _ _) rfl) ?_
      refine q_run rfl rfl (fun _ H => r_ix1o rfl rfl rfl (by omega) Try.underlying25 sz22) ?_
      refine q_run rfl rfl (fun _ H => r_lr H rfl cx (by simp) ag22) ?_
      refine q_run rfl rfl (fun _ H => r_mv (v := .slice _ _ _) rfl) ?_
      refine q_run rfl rfl (fun _ H => r_mv (v := .int _ _) rfl) ?_
      refine q_run rfl rfl (fun _ H => r_ix1o rfl rfl rfl (by omega) Try.underlying25 sz22) ?_
      refine q_run rfl rfl (fun _ H => r_lr H rfl cy (by simp) ag22) ?_
      refine q_run rfl rfl (fun _ H => r_neqT rfl rfl (by omega)) ?_
      refine q_nil ?_
      intro _ H'; clear H; have H := H'; clear H'
      refine c_norm ?_
      refine k_t rfl ?_
      refine k_seq ?_
      refine k_rg ?_
      refine s_run rfl rfl (r_as (v := .bool _) rfl) ?_
      refine k_nil ?_
      refine c_norm ?_
      refine k_ret ?_
      refine b_ret ?_
      refine c_ret ?_
      refine c_ret ?_
      refine b_ret ?_
      refine c_ret ?_
      refine fin1r (v := .bool _) rfl rfl ?_
      refine ⟨?_, H.only⟩
      rw [Nv.same, decide_eq_false (fun h => he (by rw [h]))]
  · obtain rfl : k = n := by omega
    refine k_seq ?_
    refine k_rg ?_
    refine s_run rfl rfl (r_lssF rfl rfl (by omega)) ?_
    refine k_nil ?_
    refine c_norm ?_
    refine k_seq ?_
    refine k_f rfl ?_
    refine k_exit ?_
    refine c_exit ?_
    refine c_exit ?_
    refine b_hit ?_
    refine c_norm ?_
    refine k_seq ?_
    refine k_rg ?_
    refine s_run rfl rfl (r_as (v := .bool _) rfl) ?_
    refine k_nil ?_
    refine c_norm ?_
    refine k_ret ?_
    refine fin1r (v := .bool _) rfl rfl ?_
    refine ⟨?_, H.only⟩
    rw [Nv.same, decide_eq_true (all_upto hall lx ly)]
end Go.Proofs.Ytmekhdclnhhhbaa
