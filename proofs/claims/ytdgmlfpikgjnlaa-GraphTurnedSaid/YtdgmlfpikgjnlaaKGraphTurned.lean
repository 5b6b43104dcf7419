/-
  GraphTurned: for every input the Go function answers true, and its arguments read afterwards as they read before. No condition.
-/
import Derived.Deep.Slices
import Derived.Deep.Fields
import Derived.ChangeSame
import Derived.Test.YtdgmlfpikgjnlaaKGraphTurnedb
set_option linter.unusedSimpArgs false
set_option linter.unusedVariables false
section
namespace Go.Proofs.Ytdgmlfpikgjnlaa
open Go.RowKit
set_option maxRecDepth 100000
set_option maxHeartbeats 2000000
theorem dRight (g : GrS) (w : World) (hg : GrOk w [] g) :
  Calls Try.prog 18 [.agg g.cells.toArray].toArray w fun e w' => e = .returned (.bool (rightB g)) ∧ Only [] w w' := by
 have H := Heap.nil w
 have hrs := hg.rs
 have hrl := hg.rl
 have hmb := hg.mb
 have hnb := hg.nb
 have hnl := hg.nl
 have hbad1 : ∀ r ∈ g.rs, ¬ okP g.m r → rightB g = false := fun r hr hn => decide_eq_false fun h => hn (h.1 r hr)
 have hbad2 : ∀ x ∈ g.ns, ¬ okN g.m x → rightB g = false := fun r hr hn => decide_eq_false fun h => hn (h.2 r hr)
 have hgood : (∀ j r, j < g.n → g.rs[j]? = some r → okP g.m r) → (∀ j x, j < g.m → g.ns[j]? = some x → okN g.m x) → rightB g = true := fun h1 h2 => decide_eq_true ⟨fun r hr => by
  obtain ⟨j, hj, rfl⟩ := List.mem_iff_getElem.1 hr
  exact h1 j _ (by omega) (List.getElem?_eq_getElem hj), fun r hr => by
  obtain ⟨j, hj, rfl⟩ := List.mem_iff_getElem.1 hr
  exact h2 j _ (by omega) (List.getElem?_eq_getElem hj)⟩
 unfold GrS.cells
 refine k_in (N := 77) Try.func18 rfl rfl rfl ?_
 refine k_sg ?_
 refine s_box H rfl rfl ?_
 intro p1 _ H'; clear H; have H := H'; clear H'
 refine s_run rfl rfl (rab rfl) ?_
 refine k_nc ?_
 refine k_seq ?_
 refine k_sg ?_
 refine s_run rfl rfl (rai rfl) ?_
 refine k_nc ?_
 refine k_b ?_
 refine k_loop (fun z f W => ∃ i : Nat, i ≤ g.n ∧ z = g.n - i ∧ (∀ j r, j < i → g.rs[j]? = some r → okP g.m r) ∧ f 1 = ptr p1 ∧ f 3 = .int .i64 i ∧ Heap w [] [blk p1 [.slice g.A g.n g.c, .slice g.B g.m g.d] 30] W) g.n ⟨0, by omega, rfl, by omega, rfl, rfl, H⟩ ?_
 clear H
 rintro z f W ⟨i, hi, rfl, hall, f1, f3, H⟩
 obtain ⟨f, rfl⟩ := live2 f1 f3
 clear f1 f3
 by_cases hlt : i < g.n
 ·obtain ⟨r, hr⟩ : ∃ r, g.rs[i]? = some r := ⟨_, List.getElem?_eq_getElem (by omega)⟩
  obtain ⟨b, o, hA, _, hrd⟩ := hrs (by omega)
  have hcell := hrd i r hr
  rw [hA] at H
  by_cases hok : okP g.m r
  ·have hok2 := hok
   unfold okP at hok2
   refine k_seq ?_
   refine k_sg ?_
   refine s_run rfl rfl (rmi rfl) ?_
   refine s_run rfl rfl (r_fa0 rfl fo30_0) ?_
   refine s_run rfl rfl (r_lo H 0 rfl rfl rfl ag22) ?_
   refine s_run rfl rfl (r_len rfl Try.underlying22) ?_
   refine s_run rfl rfl (r_lssT rfl rfl (by omega)) ?_
   refine k_nc ?_
   refine k_t rfl ?_
   refine k_skip ?_
   refine c_norm ?_
   refine k_seq ?_
   refine k_b ?_
   refine k_seq ?_
   refine k_q mixed (by kernel_rfl) H ?_
   refine q_run rfl rfl (fun _ H => r_fa0 rfl fo30_0) ?_
   refine q_run rfl rfl (fun _ H => r_lo H 0 rfl rfl rfl ag22) ?_
   refine q_run rfl rfl (fun _ H => r_mv (v := .int _ _) rfl) ?_
   refine q_run rfl rfl (fun _ H => r_ix1o (i := i) rfl rfl (by omega) (by omega) Try.underlying22 sz3) ?_
   refine q_run rfl rfl (fun _ H => r_lr H rfl hcell (by simp) ag3) ?_
   refine q_run rfl rfl (fun _ H => r_lssF rfl rfl (by omega)) ?_
   refine q_run rfl rfl (fun _ H => r_mv (v := .bool _) rfl) ?_
   refine q_run rfl (g_on 20 (by kernel_rfl) rfl) (fun _ H => r_fa0 rfl fo30_0) ?_
   refine q_run rfl (g_on 20 (by kernel_rfl) rfl) (fun _ H => r_lo H 0 rfl rfl rfl ag22) ?_
   refine q_run rfl (g_on 20 (by kernel_rfl) rfl) (fun _ H => r_mv (v := .int _ _) rfl) ?_
   refine q_run rfl (g_on 20 (by kernel_rfl) rfl) (fun _ H => r_ix1o (i := i) rfl rfl (by omega) (by omega) Try.underlying22 sz3) ?_
   refine q_run rfl (g_on 20 (by kernel_rfl) rfl) (fun _ H => r_lr H rfl hcell (by simp) ag3) ?_
   refine q_run rfl (g_on 20 (by kernel_rfl) rfl) (fun _ H => r_fa0 rfl fo30_1) ?_
   refine q_run rfl (g_on 20 (by kernel_rfl) rfl) (fun _ H => r_lo H 0 rfl rfl rfl ag28) ?_
   refine q_run rfl (g_on 20 (by kernel_rfl) rfl) (fun _ H => r_len rfl Try.underlying28) ?_
   refine q_run rfl (g_on 20 (by kernel_rfl) rfl) (fun _ H => r_geqF rfl rfl (by omega)) ?_
   refine q_run rfl rfl (fun _ H => r_pkF (v := .bool _) rfl rfl) ?_
   refine q_nil ?_
   intro _ H'; clear H; have H := H'; clear H'
   refine c_norm ?_
   refine k_f rfl ?_
   refine k_skip ?_
   refine b_norm ?_
   refine c_norm ?_
   refine k_rg ?_
   refine s_run rfl rfl (rmi rfl) ?_
   refine s_run rfl rfl (r_add rfl rfl (wI (by omega))) ?_
   refine s_run rfl rfl (rai rfl) ?_
   refine k_nil ?_
   refine c_round ?_
   rw [← hA] at H
   refine ⟨_, _, ?_, rfl, i + 1, by omega, rfl, fun j q hj hq => ?_, rfl, rfl, H⟩
   ·omega
   ·by_cases e : j = i
    ·subst e; rw [hr] at hq; injection hq with hq; subst hq; exact hok
    ·exact hall j q (by omega) hq
  ·rw [hbad1 r (List.mem_of_getElem? hr) hok]
   unfold okP at hok
   by_cases h1 : r < -1
   ·refine k_seq ?_
    refine k_sg ?_
    refine s_run rfl rfl (rmi rfl) ?_
    refine s_run rfl rfl (r_fa0 rfl fo30_0) ?_
    refine s_run rfl rfl (r_lo H 0 rfl rfl rfl ag22) ?_
    refine s_run rfl rfl (r_len rfl Try.underlying22) ?_
    refine s_run rfl rfl (r_lssT rfl rfl (by omega)) ?_
    refine k_nc ?_
    refine k_t rfl ?_
    refine k_skip ?_
    refine c_norm ?_
    refine k_seq ?_
    refine k_b ?_
    refine k_seq ?_
    refine k_q mixed (by kernel_rfl) H ?_
    refine q_run rfl rfl (fun _ H => r_fa0 rfl fo30_0) ?_
    refine q_run rfl rfl (fun _ H => r_lo H 0 rfl rfl rfl ag22) ?_
    refine q_run rfl rfl (fun _ H => r_mv (v := .int _ _) rfl) ?_
    refine q_run rfl rfl (fun _ H => r_ix1o (i := i) rfl rfl (by omega) (by omega) Try.underlying22 sz3) ?_
    refine q_run rfl rfl (fun _ H => r_lr H rfl hcell (by simp) ag3) ?_
    refine q_run rfl rfl (fun _ H => r_lssT rfl rfl (by omega)) ?_
    refine q_run rfl rfl (fun _ H => r_mv (v := .bool _) rfl) ?_
    refine q_off rfl (g_off 20 (by kernel_rfl) rfl rfl) ?_
    refine q_off rfl (g_off 20 (by kernel_rfl) rfl rfl) ?_
    refine q_off rfl (g_off 20 (by kernel_rfl) rfl rfl) ?_
    refine q_off rfl (g_off 20 (by kernel_rfl) rfl rfl) ?_
    refine q_off rfl (g_off 20 (by kernel_rfl) rfl rfl) ?_
    refine q_off rfl (g_off 20 (by kernel_rfl) rfl rfl) ?_
    refine q_off rfl (g_off 20 (by kernel_rfl) rfl rfl) ?_
    refine q_off rfl (g_off 20 (by kernel_rfl) rfl rfl) ?_
    refine q_off rfl (g_off 20 (by kernel_rfl) rfl rfl) ?_
    refine q_run rfl rfl (fun _ H => r_pkT (v := .bool _) rfl rfl) ?_
    refine q_nil ?_
    intro _ H'; clear H; have H := H'; clear H'
    refine c_norm ?_
    refine k_t rfl ?_
    refine k_sg ?_
    refine s_run rfl rfl (rab rfl) ?_
    refine k_nc ?_
    refine k_ret ?_
    refine b_ret ?_
    refine c_ret ?_
    refine c_ret ?_
    refine b_ret ?_
    refine c_ret ?_
    refine fin1r (v := .bool _) rfl rfl ?_
    exact ⟨rfl, H.only⟩
   ·refine k_seq ?_
    refine k_sg ?_
    refine s_run rfl rfl (rmi rfl) ?_
    refine s_run rfl rfl (r_fa0 rfl fo30_0) ?_
    refine s_run rfl rfl (r_lo H 0 rfl rfl rfl ag22) ?_
    refine s_run rfl rfl (r_len rfl Try.underlying22) ?_
    refine s_run rfl rfl (r_lssT rfl rfl (by omega)) ?_
    refine k_nc ?_
    refine k_t rfl ?_
    refine k_skip ?_
    refine c_norm ?_
    refine k_seq ?_
    refine k_b ?_
    refine k_seq ?_
    refine k_q mixed (by kernel_rfl) H ?_
    refine q_run rfl rfl (fun _ H => r_fa0 rfl fo30_0) ?_
    refine q_run rfl rfl (fun _ H => r_lo H 0 rfl rfl rfl ag22) ?_
    refine q_run rfl rfl (fun _ H => r_mv (v := .int _ _) rfl) ?_
    refine q_run rfl rfl (fun _ H => r_ix1o (i := i) rfl rfl (by omega) (by omega) Try.underlying22 sz3) ?_
    refine q_run rfl rfl (fun _ H => r_lr H rfl hcell (by simp) ag3) ?_
    refine q_run rfl rfl (fun _ H => r_lssF rfl rfl (by omega)) ?_
    refine q_run rfl rfl (fun _ H => r_mv (v := .bool _) rfl) ?_
    refine q_run rfl (g_on 20 (by kernel_rfl) rfl) (fun _ H => r_fa0 rfl fo30_0) ?_
    refine q_run rfl (g_on 20 (by kernel_rfl) rfl) (fun _ H => r_lo H 0 rfl rfl rfl ag22) ?_
    refine q_run rfl (g_on 20 (by kernel_rfl) rfl) (fun _ H => r_mv (v := .int _ _) rfl) ?_
    refine q_run rfl (g_on 20 (by kernel_rfl) rfl) (fun _ H => r_ix1o (i := i) rfl rfl (by omega) (by omega) Try.underlying22 sz3) ?_
    refine q_run rfl (g_on 20 (by kernel_rfl) rfl) (fun _ H => r_lr H rfl hcell (by simp) ag3) ?_
    refine q_run rfl (g_on 20 (by kernel_rfl) rfl) (fun _ H => r_fa0 rfl fo30_1) ?_
    refine q_run rfl (g_on 20 (by kernel_rfl) rfl) (fun _ H => r_lo H 0 rfl rfl rfl ag28) ?_
    refine q_run rfl (g_on 20 (by kernel_rfl) rfl) (fun _ H => r_len rfl Try.underlying28) ?_
    refine q_run rfl (g_on 20 (by kernel_rfl) rfl) (fun _ H => r_geqT rfl rfl (by omega)) ?_
    refine q_run rfl rfl (fun _ H => r_pkF (v := .bool _) rfl rfl) ?_
    refine q_nil ?_
    intro _ H'; clear H; have H := H'; clear H'
    refine c_norm ?_
    refine k_t rfl ?_
    refine k_sg ?_
    refine s_run rfl rfl (rab rfl) ?_
    refine k_nc ?_
    refine k_ret ?_
    refine b_ret ?_
    refine c_ret ?_
    refine c_ret ?_
    refine b_ret ?_
    refine c_ret ?_
    refine fin1r (v := .bool _) rfl rfl ?_
    exact ⟨rfl, H.only⟩
 ·obtain rfl : i = g.n := by omega
  refine k_seq ?_
  refine k_sg ?_
  refine s_run rfl rfl (rmi rfl) ?_
  refine s_run rfl rfl (r_fa0 rfl fo30_0) ?_
  refine s_run rfl rfl (r_lo H 0 rfl rfl rfl ag22) ?_
  refine s_run rfl rfl (r_len rfl Try.underlying22) ?_
  refine s_run rfl rfl (r_lssF rfl rfl (by omega)) ?_
  refine k_nc ?_
  refine k_f rfl ?_
  refine k_exit ?_
  refine c_exit ?_
  refine c_exit ?_
  refine b_hit ?_
  refine c_norm ?_
  refine k_seq ?_
  refine k_sg ?_
  refine s_run rfl rfl (rai rfl) ?_
  refine k_nc ?_
  refine k_b ?_
  refine k_loop (fun z f W => ∃ i : Nat, i ≤ g.m ∧ z = g.m - i ∧ (∀ j x, j < i → g.ns[j]? = some x → okN g.m x) ∧ f 1 = ptr p1 ∧ f 4 = .int .i64 i ∧ Heap w [] [blk p1 [.slice g.A g.n g.c, .slice g.B g.m g.d] 30] W) g.m ⟨0, by omega, rfl, by omega, rfl, rfl, H⟩ ?_
  clear H
  rintro z f W ⟨i, hi, rfl, hall2, f1, f4, H⟩
  obtain ⟨f, rfl⟩ := live2 f1 f4
  clear f1 f4
  by_cases hlt : i < g.m
  ·obtain ⟨x, hx⟩ : ∃ x, g.ns[i]? = some x := ⟨_, List.getElem?_eq_getElem (by omega)⟩
   have hxm := List.mem_of_getElem? hx
   obtain ⟨b, o, hB, _, hrd⟩ := hg.ns.1 (by omega)
   have hrx := hrd i x hx
   have hxo := hg.ns.2 x hxm
   have hxn := hxo.nb
   have hxd := hxo.mb
   have hpl := hxo.pl
   rw [hB] at H
   unfold NodeS.cells at hrx
   by_cases h63 : x.n ≤ 63
   ·by_cases hd : x.m ≤ 16384
    ·refine k_seq ?_
     refine k_sg ?_
     refine s_run rfl rfl (rmi rfl) ?_
     refine s_run rfl rfl (r_fa0 rfl fo30_1) ?_
     refine s_run rfl rfl (r_lo H 0 rfl rfl rfl ag28) ?_
     refine s_run rfl rfl (r_len rfl Try.underlying28) ?_
     refine s_run rfl rfl (r_lssT rfl rfl (by omega)) ?_
     refine k_nc ?_
     refine k_t rfl ?_
     refine k_skip ?_
     refine c_norm ?_
     refine k_seq ?_
     refine k_b ?_
     refine k_sg ?_
     refine s_run rfl rfl (r_fa0 rfl fo30_1) ?_
     refine s_run rfl rfl (r_lo H 0 rfl rfl rfl ag28) ?_
     refine s_run rfl rfl (rmi rfl) ?_
     refine s_run rfl rfl (r_ix (i := i) rfl rfl (by omega) (by omega) Try.underlying28 sz40) ?_
     refine s_run rfl rfl (r_lA (enc := fun v : Value => v) (zs := [.slice x.A x.n x.c, .slice x.B x.m x.d]) (hrx.later H.only (by simp)) rfl rfl ag40 sz40) ?_
     refine s_al H rfl inf40 ?_
     intro p5 _ H'; clear H; have H := H'; clear H'
     refine s_sw H 0 rfl rfl rfl rfl rfl rfl rfl sz40 ?_
     clear H; intro _ H; simp only [jA, jB, jC, jD, jE, jF, jG, jH, jI, jJ, jK, Nat.reduceAdd] at H
     refine k_nc ?_
     refine k_seq ?_
     refine k_sg ?_
     refine s_run rfl rfl (r_fa0 rfl fo40_0) ?_
     refine s_run rfl rfl (r_lo H 0 rfl rfl rfl ag22) ?_
     refine s_run rfl rfl (r_len rfl Try.underlying22) ?_
     refine s_run rfl rfl (r_gtrF rfl rfl (by omega)) ?_
     refine s_run rfl rfl (rmb rfl) ?_
     refine s_run rfl (g_on 47 (by kernel_rfl) rfl) (r_fa0 rfl fo40_1) ?_
     refine s_run rfl (g_on 47 (by kernel_rfl) rfl) (r_lo H 0 rfl rfl rfl ag37) ?_
     refine s_run rfl (g_on 47 (by kernel_rfl) rfl) (r_len rfl Try.underlying37) ?_
     refine s_run rfl (g_on 47 (by kernel_rfl) rfl) (r_gtrF rfl rfl (by omega)) ?_
     refine s_run rfl rfl (r_pkF (v := .bool _) rfl rfl) ?_
     refine k_nc ?_
     refine k_f rfl ?_
     refine k_skip ?_
     refine c_norm ?_
     refine k_sg ?_
     refine s_run rfl rfl (rai rfl) ?_
     refine k_nc ?_
     refine k_b ?_
     rw [← hB] at H
     refine k_loop (fun z f W => ∃ k : Nat, k ≤ x.n ∧ z = x.n - k ∧ (∀ j p, j < k → x.ps[j]? = some p → okP g.m p) ∧ f 1 = ptr p1 ∧ f 4 = .int .i64 i ∧ f 5 = ptr p5 ∧ f 6 = .int .i64 k ∧ Heap w [] [blk p5 [.slice x.A x.n x.c, .slice x.B x.m x.d] 40, blk p1 [.slice g.A g.n g.c, .slice g.B g.m g.d] 30] W) x.n ⟨0, by omega, rfl, by omega, rfl, rfl, rfl, rfl, H⟩ ?_
     clear H
     rintro z f W ⟨k, hk, rfl, hall3, f1, f4, f5, f6, H⟩
     obtain ⟨f, rfl⟩ := live4 f1 f4 f5 f6
     clear f1 f4 f5 f6
     by_cases hkl : k < x.n
     ·obtain ⟨q, hq⟩ : ∃ q, x.ps[k]? = some q := ⟨_, List.getElem?_eq_getElem (by omega)⟩
      obtain ⟨b2, o2, hA2, _, hrd2⟩ := hxo.ps (by omega)
      have hcell := hrd2 k q hq
      rw [hA2] at H
      by_cases hok : okP g.m q
      ·have hok2 := hok
       unfold okP at hok2
       refine k_seq ?_
       refine k_sg ?_
       refine s_run rfl rfl (rmi rfl) ?_
       refine s_run rfl rfl (r_fa0 rfl fo40_0) ?_
       refine s_run rfl rfl (r_lo H 0 rfl rfl rfl ag22) ?_
       refine s_run rfl rfl (r_len rfl Try.underlying22) ?_
       refine s_run rfl rfl (r_lssT rfl rfl (by omega)) ?_
       refine k_nc ?_
       refine k_t rfl ?_
       refine k_skip ?_
       refine c_norm ?_
       refine k_seq ?_
       refine k_b ?_
       refine k_seq ?_
       refine k_q mixed (by kernel_rfl) H ?_
       refine q_run rfl rfl (fun _ H => r_fa0 rfl fo40_0) ?_
       refine q_run rfl rfl (fun _ H => r_lo H 0 rfl rfl rfl ag22) ?_
       refine q_run rfl rfl (fun _ H => r_mv (v := .int _ _) rfl) ?_
       refine q_run rfl rfl (fun _ H => r_ix1o (i := k) rfl rfl (by omega) (by omega) Try.underlying22 sz3) ?_
       refine q_run rfl rfl (fun _ H => r_lr H rfl hcell (by simp) ag3) ?_
       refine q_run rfl rfl (fun _ H => r_lssF rfl rfl (by omega)) ?_
       refine q_run rfl rfl (fun _ H => r_mv (v := .bool _) rfl) ?_
       refine q_run rfl (g_on 66 (by kernel_rfl) rfl) (fun _ H => r_fa0 rfl fo40_0) ?_
       refine q_run rfl (g_on 66 (by kernel_rfl) rfl) (fun _ H => r_lo H 0 rfl rfl rfl ag22) ?_
       refine q_run rfl (g_on 66 (by kernel_rfl) rfl) (fun _ H => r_mv (v := .int _ _) rfl) ?_
       refine q_run rfl (g_on 66 (by kernel_rfl) rfl) (fun _ H => r_ix1o (i := k) rfl rfl (by omega) (by omega) Try.underlying22 sz3) ?_
       refine q_run rfl (g_on 66 (by kernel_rfl) rfl) (fun _ H => r_lr H rfl hcell (by simp) ag3) ?_
       refine q_run rfl (g_on 66 (by kernel_rfl) rfl) (fun _ H => r_fa0 rfl fo30_1) ?_
       refine q_run rfl (g_on 66 (by kernel_rfl) rfl) (fun _ H => r_lo H 1 rfl rfl rfl ag28) ?_
       refine q_run rfl (g_on 66 (by kernel_rfl) rfl) (fun _ H => r_len rfl Try.underlying28) ?_
       refine q_run rfl (g_on 66 (by kernel_rfl) rfl) (fun _ H => r_geqF rfl rfl (by omega)) ?_
       refine q_run rfl rfl (fun _ H => r_pkF (v := .bool _) rfl rfl) ?_
       refine q_nil ?_
       intro _ H'; clear H; have H := H'; clear H'
       refine c_norm ?_
       refine k_f rfl ?_
       refine k_skip ?_
       refine b_norm ?_
       refine c_norm ?_
       refine k_rg ?_
       refine s_run rfl rfl (rmi rfl) ?_
       refine s_run rfl rfl (r_add rfl rfl (wI (by omega))) ?_
       refine s_run rfl rfl (rai rfl) ?_
       refine k_nil ?_
       refine c_round ?_
       rw [← hA2] at H
       refine ⟨_, _, ?_, rfl, k + 1, by omega, rfl, fun j p hj hp => ?_, rfl, rfl, rfl, rfl, H⟩
       ·omega
       ·by_cases e : j = k
        ·subst e; rw [hq] at hp; injection hp with hp; subst hp; exact hok
        ·exact hall3 j p (by omega) hp
      ·rw [hbad2 x hxm (fun h => hok (h.2.2 q (List.mem_of_getElem? hq)))]
       unfold okP at hok
       by_cases h1 : q < -1
       ·refine k_seq ?_
        refine k_sg ?_
        refine s_run rfl rfl (rmi rfl) ?_
        refine s_run rfl rfl (r_fa0 rfl fo40_0) ?_
        refine s_run rfl rfl (r_lo H 0 rfl rfl rfl ag22) ?_
        refine s_run rfl rfl (r_len rfl Try.underlying22) ?_
        refine s_run rfl rfl (r_lssT rfl rfl (by omega)) ?_
        refine k_nc ?_
        refine k_t rfl ?_
        refine k_skip ?_
        refine c_norm ?_
        refine k_seq ?_
        refine k_b ?_
        refine k_seq ?_
        refine k_q mixed (by kernel_rfl) H ?_
        refine q_run rfl rfl (fun _ H => r_fa0 rfl fo40_0) ?_
        refine q_run rfl rfl (fun _ H => r_lo H 0 rfl rfl rfl ag22) ?_
        refine q_run rfl rfl (fun _ H => r_mv (v := .int _ _) rfl) ?_
        refine q_run rfl rfl (fun _ H => r_ix1o (i := k) rfl rfl (by omega) (by omega) Try.underlying22 sz3) ?_
        refine q_run rfl rfl (fun _ H => r_lr H rfl hcell (by simp) ag3) ?_
        refine q_run rfl rfl (fun _ H => r_lssT rfl rfl (by omega)) ?_
        refine q_run rfl rfl (fun _ H => r_mv (v := .bool _) rfl) ?_
        refine q_off rfl (g_off 66 (by kernel_rfl) rfl rfl) ?_
        refine q_off rfl (g_off 66 (by kernel_rfl) rfl rfl) ?_
        refine q_off rfl (g_off 66 (by kernel_rfl) rfl rfl) ?_
        refine q_off rfl (g_off 66 (by kernel_rfl) rfl rfl) ?_
        refine q_off rfl (g_off 66 (by kernel_rfl) rfl rfl) ?_
        refine q_off rfl (g_off 66 (by kernel_rfl) rfl rfl) ?_
        refine q_off rfl (g_off 66 (by kernel_rfl) rfl rfl) ?_
        refine q_off rfl (g_off 66 (by kernel_rfl) rfl rfl) ?_
        refine q_off rfl (g_off 66 (by kernel_rfl) rfl rfl) ?_
        refine q_run rfl rfl (fun _ H => r_pkT (v := .bool _) rfl rfl) ?_
        refine q_nil ?_
        intro _ H'; clear H; have H := H'; clear H'
        refine c_norm ?_
        refine k_t rfl ?_
        refine k_sg ?_
        refine s_run rfl rfl (rab rfl) ?_
        refine k_nc ?_
        refine k_ret ?_
        refine b_ret ?_
        refine c_ret ?_
        refine c_ret ?_
        refine b_ret ?_
        refine b_ret ?_
        refine c_ret ?_
        refine c_ret ?_
        refine b_ret ?_
        refine c_ret ?_
        refine fin1r (v := .bool _) rfl rfl ?_
        exact ⟨rfl, H.only⟩
       ·refine k_seq ?_
        refine k_sg ?_
        refine s_run rfl rfl (rmi rfl) ?_
        refine s_run rfl rfl (r_fa0 rfl fo40_0) ?_
        refine s_run rfl rfl (r_lo H 0 rfl rfl rfl ag22) ?_
        refine s_run rfl rfl (r_len rfl Try.underlying22) ?_
        refine s_run rfl rfl (r_lssT rfl rfl (by omega)) ?_
        refine k_nc ?_
        refine k_t rfl ?_
        refine k_skip ?_
        refine c_norm ?_
        refine k_seq ?_
        refine k_b ?_
        refine k_seq ?_
        refine k_q mixed (by kernel_rfl) H ?_
        refine q_run rfl rfl (fun _ H => r_fa0 rfl fo40_0) ?_
        refine q_run rfl rfl (fun _ H => r_lo H 0 rfl rfl rfl ag22) ?_
        refine q_run rfl rfl (fun _ H => r_mv (v := .int _ _) rfl) ?_
        refine q_run rfl rfl (fun _ H => r_ix1o (i := k) rfl rfl (by omega) (by omega) Try.underlying22 sz3) ?_
        refine q_run rfl rfl (fun _ H => r_lr H rfl hcell (by simp) ag3) ?_
        refine q_run rfl rfl (fun _ H => r_lssF rfl rfl (by omega)) ?_
        refine q_run rfl rfl (fun _ H => r_mv (v := .bool _) rfl) ?_
        refine q_run rfl (g_on 66 (by kernel_rfl) rfl) (fun _ H => r_fa0 rfl fo40_0) ?_
        refine q_run rfl (g_on 66 (by kernel_rfl) rfl) (fun _ H => r_lo H 0 rfl rfl rfl ag22) ?_
        refine q_run rfl (g_on 66 (by kernel_rfl) rfl) (fun _ H => r_mv (v := .int _ _) rfl) ?_
        refine q_run rfl (g_on 66 (by kernel_rfl) rfl) (fun _ H => r_ix1o (i := k) rfl rfl (by omega) (by omega) Try.underlying22 sz3) ?_
        refine q_run rfl (g_on 66 (by kernel_rfl) rfl) (fun _ H => r_lr H rfl hcell (by simp) ag3) ?_
        refine q_run rfl (g_on 66 (by kernel_rfl) rfl) (fun _ H => r_fa0 rfl fo30_1) ?_
        refine q_run rfl (g_on 66 (by kernel_rfl) rfl) (fun _ H => r_lo H 1 rfl rfl rfl ag28) ?_
        refine q_run rfl (g_on 66 (by kernel_rfl) rfl) (fun _ H => r_len rfl Try.underlying28) ?_
        refine q_run rfl (g_on 66 (by kernel_rfl) rfl) (fun _ H => r_geqT rfl rfl (by omega)) ?_
        refine q_run rfl rfl (fun _ H => r_pkF (v := .bool _) rfl rfl) ?_
        refine q_nil ?_
        intro _ H'; clear H; have H := H'; clear H'
        refine c_norm ?_
        refine k_t rfl ?_
        refine k_sg ?_
        refine s_run rfl rfl (rab rfl) ?_
        refine k_nc ?_
        refine k_ret ?_
        refine b_ret ?_
        refine c_ret ?_
        refine c_ret ?_
        refine b_ret ?_
        refine b_ret ?_
        refine c_ret ?_
        refine c_ret ?_
        refine b_ret ?_
        refine c_ret ?_
        refine fin1r (v := .bool _) rfl rfl ?_
        exact ⟨rfl, H.only⟩
     ·obtain rfl : k = x.n := by omega
      refine k_seq ?_
      refine k_sg ?_
      refine s_run rfl rfl (rmi rfl) ?_
      refine s_run rfl rfl (r_fa0 rfl fo40_0) ?_
      refine s_run rfl rfl (r_lo H 0 rfl rfl rfl ag22) ?_
      refine s_run rfl rfl (r_len rfl Try.underlying22) ?_
      refine s_run rfl rfl (r_lssF rfl rfl (by omega)) ?_
      refine k_nc ?_
      refine k_f rfl ?_
      refine k_exit ?_
      refine c_exit ?_
      refine c_exit ?_
      refine b_hit ?_
      refine b_norm ?_
      refine c_norm ?_
      refine k_rg ?_
      refine s_run rfl rfl (rmi rfl) ?_
      refine s_run rfl rfl (r_add rfl rfl (wI (by omega))) ?_
      refine s_run rfl rfl (rai rfl) ?_
      refine k_nil ?_
      refine c_round ?_
      refine ⟨_, _, ?_, rfl, i + 1, by omega, rfl, fun j y hj hy => ?_, rfl, rfl, H.drop⟩
      ·omega
      ·by_cases e : j = i
       ·subst e; rw [hx] at hy; injection hy with hy; subst hy
        refine ⟨h63, hd, fun p hp => ?_⟩
        obtain ⟨j, hj, rfl⟩ := List.mem_iff_getElem.1 hp
        exact hall3 j _ (by omega) (List.getElem?_eq_getElem hj)
       ·exact hall2 j y (by omega) hy
    ·rw [hbad2 x hxm (fun h => hd h.2.1)]
     refine k_seq ?_
     refine k_sg ?_
     refine s_run rfl rfl (rmi rfl) ?_
     refine s_run rfl rfl (r_fa0 rfl fo30_1) ?_
     refine s_run rfl rfl (r_lo H 0 rfl rfl rfl ag28) ?_
     refine s_run rfl rfl (r_len rfl Try.underlying28) ?_
     refine s_run rfl rfl (r_lssT rfl rfl (by omega)) ?_
     refine k_nc ?_
     refine k_t rfl ?_
     refine k_skip ?_
     refine c_norm ?_
     refine k_seq ?_
     refine k_b ?_
     refine k_sg ?_
     refine s_run rfl rfl (r_fa0 rfl fo30_1) ?_
     refine s_run rfl rfl (r_lo H 0 rfl rfl rfl ag28) ?_
     refine s_run rfl rfl (rmi rfl) ?_
     refine s_run rfl rfl (r_ix (i := i) rfl rfl (by omega) (by omega) Try.underlying28 sz40) ?_
     refine s_run rfl rfl (r_lA (enc := fun v : Value => v) (zs := [.slice x.A x.n x.c, .slice x.B x.m x.d]) (hrx.later H.only (by simp)) rfl rfl ag40 sz40) ?_
     refine s_al H rfl inf40 ?_
     intro p5 _ H'; clear H; have H := H'; clear H'
     refine s_sw H 0 rfl rfl rfl rfl rfl rfl rfl sz40 ?_
     clear H; intro _ H; simp only [jA, jB, jC, jD, jE, jF, jG, jH, jI, jJ, jK, Nat.reduceAdd] at H
     refine k_nc ?_
     refine k_seq ?_
     refine k_sg ?_
     refine s_run rfl rfl (r_fa0 rfl fo40_0) ?_
     refine s_run rfl rfl (r_lo H 0 rfl rfl rfl ag22) ?_
     refine s_run rfl rfl (r_len rfl Try.underlying22) ?_
     refine s_run rfl rfl (r_gtrF rfl rfl (by omega)) ?_
     refine s_run rfl rfl (rmb rfl) ?_
     refine s_run rfl (g_on 47 (by kernel_rfl) rfl) (r_fa0 rfl fo40_1) ?_
     refine s_run rfl (g_on 47 (by kernel_rfl) rfl) (r_lo H 0 rfl rfl rfl ag37) ?_
     refine s_run rfl (g_on 47 (by kernel_rfl) rfl) (r_len rfl Try.underlying37) ?_
     refine s_run rfl (g_on 47 (by kernel_rfl) rfl) (r_gtrT rfl rfl (by omega)) ?_
     refine s_run rfl rfl (r_pkF (v := .bool _) rfl rfl) ?_
     refine k_nc ?_
     refine k_t rfl ?_
     refine k_sg ?_
     refine s_run rfl rfl (rab rfl) ?_
     refine k_nc ?_
     refine k_ret ?_
     refine c_ret ?_
     refine b_ret ?_
     refine c_ret ?_
     refine c_ret ?_
     refine b_ret ?_
     refine c_ret ?_
     refine fin1r (v := .bool _) rfl rfl ?_
     exact ⟨rfl, H.only⟩
   ·rw [hbad2 x hxm (fun h => h63 h.1)]
    refine k_seq ?_
    refine k_sg ?_
    refine s_run rfl rfl (rmi rfl) ?_
    refine s_run rfl rfl (r_fa0 rfl fo30_1) ?_
    refine s_run rfl rfl (r_lo H 0 rfl rfl rfl ag28) ?_
    refine s_run rfl rfl (r_len rfl Try.underlying28) ?_
    refine s_run rfl rfl (r_lssT rfl rfl (by omega)) ?_
    refine k_nc ?_
    refine k_t rfl ?_
    refine k_skip ?_
    refine c_norm ?_
    refine k_seq ?_
    refine k_b ?_
    refine k_sg ?_
    refine s_run rfl rfl (r_fa0 rfl fo30_1) ?_
    refine s_run rfl rfl (r_lo H 0 rfl rfl rfl ag28) ?_
    refine s_run rfl rfl (rmi rfl) ?_
    refine s_run rfl rfl (r_ix (i := i) rfl rfl (by omega) (by omega) Try.underlying28 sz40) ?_
    refine s_run rfl rfl (r_lA (enc := fun v : Value => v) (zs := [.slice x.A x.n x.c, .slice x.B x.m x.d]) (hrx.later H.only (by simp)) rfl rfl ag40 sz40) ?_
    refine s_al H rfl inf40 ?_
    intro p5 _ H'; clear H; have H := H'; clear H'
    refine s_sw H 0 rfl rfl rfl rfl rfl rfl rfl sz40 ?_
    clear H; intro _ H; simp only [jA, jB, jC, jD, jE, jF, jG, jH, jI, jJ, jK, Nat.reduceAdd] at H
    refine k_nc ?_
    refine k_seq ?_
    refine k_sg ?_
    refine s_run rfl rfl (r_fa0 rfl fo40_0) ?_
    refine s_run rfl rfl (r_lo H 0 rfl rfl rfl ag22) ?_
    refine s_run rfl rfl (r_len rfl Try.underlying22) ?_
    refine s_run rfl rfl (r_gtrT rfl rfl (by omega)) ?_
    refine s_run rfl rfl (rmb rfl) ?_
    refine s_off rfl (g_off 47 (by kernel_rfl) rfl rfl) ?_
    refine s_off rfl (g_off 47 (by kernel_rfl) rfl rfl) ?_
    refine s_off rfl (g_off 47 (by kernel_rfl) rfl rfl) ?_
    refine s_off rfl (g_off 47 (by kernel_rfl) rfl rfl) ?_
    refine s_run rfl rfl (r_pkT (v := .bool _) rfl rfl) ?_
    refine k_nc ?_
    refine k_t rfl ?_
    refine k_sg ?_
    refine s_run rfl rfl (rab rfl) ?_
    refine k_nc ?_
    refine k_ret ?_
    refine c_ret ?_
    refine b_ret ?_
    refine c_ret ?_
    refine c_ret ?_
    refine b_ret ?_
    refine c_ret ?_
    refine fin1r (v := .bool _) rfl rfl ?_
    exact ⟨rfl, H.only⟩
  ·obtain rfl : i = g.m := by omega
   rw [hgood hall hall2]
   refine k_seq ?_
   refine k_sg ?_
   refine s_run rfl rfl (rmi rfl) ?_
   refine s_run rfl rfl (r_fa0 rfl fo30_1) ?_
   refine s_run rfl rfl (r_lo H 0 rfl rfl rfl ag28) ?_
   refine s_run rfl rfl (r_len rfl Try.underlying28) ?_
   refine s_run rfl rfl (r_lssF rfl rfl (by omega)) ?_
   refine k_nc ?_
   refine k_f rfl ?_
   refine k_exit ?_
   refine c_exit ?_
   refine c_exit ?_
   refine b_hit ?_
   refine c_norm ?_
   refine k_sg ?_
   refine s_run rfl rfl (rab rfl) ?_
   refine k_nc ?_
   refine k_ret ?_
   refine fin1r (v := .bool _) rfl rfl ?_
   exact ⟨rfl, H.only⟩
end Go.Proofs.Ytdgmlfpikgjnlaa
end

section
namespace Go.Proofs.Ytdgmlfpikgjnlaa.Gr
/-- how many pointers the nodes have that have not come -/
def rest (pt : Int → List Int) (m : Nat) (out : List Int) : Nat := ((List.range m).map fun x : Nat => if (x : Int) ∈ out then 0 else (pt x).length).sum
end Go.Proofs.Ytdgmlfpikgjnlaa.Gr
end

section
namespace Go.Proofs.Ytdgmlfpikgjnlaa
open Go.RowKit
set_option maxRecDepth 100000
set_option maxHeartbeats 2000000
end Go.Proofs.Ytdgmlfpikgjnlaa
end

section
namespace Go.Proofs.Ytdgmlfpikgjnlaa
open Go.RowKit
set_option maxRecDepth 100000
set_option maxHeartbeats 4000000
def nodeP (x : NodeS) : Ent := grp [ownN 1 (.slice x.A x.n x.c) x.n (x.ps.map (Value.int .i64)) 3]
theorem made_okP {w W : World} {F : List Nat} {L : List Ent} {RA NA : Option Addr} {n m cR cN : Nat} {rs : List Int} {ns : List NodeS} {T : TypeId} (hrl : rs.length = n) (hnl : ns.length = m) (H : Heap w F (ownN 1 (.slice RA n cR) n (rs.map (Value.int .i64)) 3 :: ownN 2 (.slice NA m cN) m ((flatN ns).map C1.v) T :: grp (ns.map nodeP) :: L) W)
  (hr : n ≤ 100000) (hn : m ≤ 100000) (hrb : ∀ p ∈ rs, -9223372036854775808 ≤ p ∧ p ≤ 9223372036854775807) (hx : ∀ x ∈ ns, x.n ≤ 100000 ∧ x.m ≤ 100000 ∧ (∀ p ∈ x.ps, -9223372036854775808 ≤ p ∧ p ≤ 9223372036854775807) ∧ (∀ p ∈ x.ds, 0 ≤ p ∧ p ≤ 18446744073709551615) ∧ Sees (Value.int .u64) W [] x.B x.ds ∧ x.ds.length = x.m) :
  GrOk W [] ⟨RA, n, cR, rs, NA, m, cN, ns⟩ := by
 subst hrl; subst hnl
 refine ⟨H.own_sees 0 rfl, rfl, hrb, ⟨fun h0 => ?_, fun x hxm => ?_⟩, rfl, by show rs.length ≤ _; omega, by show ns.length ≤ _; omega⟩
 ·have h0' : ns.length ≠ 0 := h0
  obtain ⟨b, e, _, hr⟩ := H.own_seesN 1 rfl (by rw [flatN_len]; omega)
  refine ⟨b, 0, e, by simp, fun i x hi j u hj => ?_⟩
  obtain ⟨g1, g2⟩ := flatN_get ns i x hi
  have hj2 : j < 2 := by have := (List.getElem?_eq_some_iff.1 hj).1; exact this
  rw [show 0 + i * 2 + j = 0 + (i * 2 + j) by omega]
  match j, hj2, hj with
  | 0, _, hj => exact (hr _ _ g1).trans (by simpa [NodeS.cells, C1.v] using hj)
  | 1, _, hj => exact (hr _ _ g2).trans (by simpa [NodeS.cells, C1.v] using hj)
 ·have hE := H.grp_ents 2 rfl
  have h1 := hE.1 (nodeP x) (List.mem_map.2 ⟨x, hxm, rfl⟩)
  have h2 : Ents [ownN 1 (.slice x.A x.n x.c) x.n (x.ps.map (Value.int .i64)) 3] W := h1
  have H2 := Heap.start h2
  obtain ⟨b1, b2, b3, b4, b5, b6⟩ := hx x hxm
  refine ⟨H2.own_sees 0 rfl, ?_, b5, b6, b3, b4, by omega, by omega⟩
  have := (H2.own_get 0 rfl).1; simpa using this
end Go.Proofs.Ytdgmlfpikgjnlaa
end

section
namespace Go.Proofs.Ytdgmlfpikgjnlaa
open Go.RowKit
set_option maxRecDepth 100000
set_option maxHeartbeats 4000000
end Go.Proofs.Ytdgmlfpikgjnlaa
end

section
namespace Go.Proofs.Ytdgmlfpikgjnlaa
open Go.RowKit
set_option maxRecDepth 100000
set_option maxHeartbeats 2000000
def fewB (g : GrS) : Bool := decide (g.n ≤ 40 ∧ g.m ≤ 60 ∧ ∀ x ∈ g.ns, x.n ≤ 70 ∧ x.m ≤ 200)
theorem few_sm {g : GrS} (h : fewB g = true) : Sm g := by
 obtain ⟨h1, h2, h3⟩ := of_decide_eq_true h
 exact ⟨by omega, by omega, fun x hx => by have := h3 x hx; omega⟩
theorem lFew (g : GrS) (w : World) (hg : GrOk w [] g) :
  Calls Try.prog 14 [.agg g.cells.toArray].toArray w fun e w' => e = .returned (.bool (fewB g)) ∧ Only [] w w' := by
 have H := Heap.nil w
 have hnl := hg.nl
 have hnb := hg.nb
 have hmb := hg.mb
 have hbad : ∀ x ∈ g.ns, ¬ (x.n ≤ 70 ∧ x.m ≤ 200) → fewB g = false := fun x hx h => decide_eq_false fun h2 => h (h2.2.2 x hx)
 unfold GrS.cells
 by_cases h1 : g.n ≤ 40
 ·by_cases h2 : g.m ≤ 60
  ·refine k_in (N := 39) Try.func14 rfl rfl rfl ?_
   refine k_sg ?_
   refine s_box H rfl rfl ?_
   intro p1 _ H'; clear H; have H := H'; clear H'
   refine s_run rfl rfl (rab rfl) ?_
   refine k_nc ?_
   refine k_seq ?_
   refine k_sg ?_
   refine s_run rfl rfl (r_fa0 rfl fo25_0) ?_
   refine s_run rfl rfl (r_lo H 0 rfl rfl rfl ag22) ?_
   refine s_run rfl rfl (r_len rfl Try.underlying22) ?_
   refine s_run rfl rfl (r_gtrF rfl rfl (by omega)) ?_
   refine s_run rfl rfl (rmb rfl) ?_
   refine s_run rfl (g_on 8 (by kernel_rfl) rfl) (r_fa0 rfl fo25_1) ?_
   refine s_run rfl (g_on 8 (by kernel_rfl) rfl) (r_lo H 0 rfl rfl rfl ag23) ?_
   refine s_run rfl (g_on 8 (by kernel_rfl) rfl) (r_len rfl Try.underlying23) ?_
   refine s_run rfl (g_on 8 (by kernel_rfl) rfl) (r_gtrF rfl rfl (by omega)) ?_
   refine s_run rfl rfl (r_pkF (v := .bool _) rfl rfl) ?_
   refine k_nc ?_
   refine k_f rfl ?_
   refine k_skip ?_
   refine c_norm ?_
   refine k_seq ?_
   refine k_sg ?_
   refine s_run rfl rfl (rai rfl) ?_
   refine k_nc ?_
   refine k_b ?_
   refine k_loop (fun z f W => ∃ i : Nat, i ≤ g.m ∧ z = g.m - i ∧ (∀ j x, j < i → g.ns[j]? = some x → x.n ≤ 70 ∧ x.m ≤ 200) ∧ f 1 = ptr p1 ∧ f 3 = .int .i64 i ∧ Heap w [] [blk p1 [.slice g.A g.n g.c, .slice g.B g.m g.d] 25] W) g.m ⟨0, by omega, rfl, by omega, rfl, rfl, H⟩ ?_
   clear H
   rintro z f W ⟨i, hi, rfl, hall, f1, f3, H⟩
   obtain ⟨f, rfl⟩ := live2 f1 f3
   clear f1 f3
   by_cases hlt : i < g.m
   ·obtain ⟨x, hx⟩ : ∃ x, g.ns[i]? = some x := ⟨_, List.getElem?_eq_getElem (by omega)⟩
    have hxm := List.mem_of_getElem? hx
    have hxo := hg.ns.2 x hxm
    have hxn := hxo.nb
    have hxd := hxo.mb
    obtain ⟨b, o, hB, _, hrd⟩ := hg.ns.1 (by omega)
    have hc0 := hrd i x hx 0 _ rfl
    have hc1 := hrd i x hx 1 _ rfl
    rw [hB] at H
    by_cases h70 : x.n ≤ 70
    ·by_cases h200 : x.m ≤ 200
     ·refine k_seq ?_
      refine k_sg ?_
      refine s_run rfl rfl (rmi rfl) ?_
      refine s_run rfl rfl (r_fa0 rfl fo25_1) ?_
      refine s_run rfl rfl (r_lo H 0 rfl rfl rfl ag23) ?_
      refine s_run rfl rfl (r_len rfl Try.underlying23) ?_
      refine s_run rfl rfl (r_lssT rfl rfl (by omega)) ?_
      refine k_nc ?_
      refine k_t rfl ?_
      refine k_skip ?_
      refine c_norm ?_
      refine k_seq ?_
      refine k_b ?_
      refine k_sg ?_
      refine s_run rfl rfl (r_fa0 rfl fo25_1) ?_
      refine s_run rfl rfl (r_lo H 0 rfl rfl rfl ag23) ?_
      refine s_run rfl rfl (rmi rfl) ?_
      refine s_run rfl rfl (r_ix (i := i) rfl rfl (by omega) (by omega) Try.underlying23 sz39) ?_
      refine s_run rfl rfl (r_fa rfl fo39_0) ?_
      refine s_run rfl rfl (r_lr H rfl hc0 (by simp) ag22) ?_
      refine s_run rfl rfl (r_len rfl Try.underlying22) ?_
      refine s_run rfl rfl (r_gtrF rfl rfl (by omega)) ?_
      refine s_run rfl rfl (rmb rfl) ?_
      refine s_run rfl (g_on 29 (by kernel_rfl) rfl) (r_fa0 rfl fo25_1) ?_
      refine s_run rfl (g_on 29 (by kernel_rfl) rfl) (r_lo H 0 rfl rfl rfl ag23) ?_
      refine s_run rfl (g_on 29 (by kernel_rfl) rfl) (rmi rfl) ?_
      refine s_run rfl (g_on 29 (by kernel_rfl) rfl) (r_ix (i := i) rfl rfl (by omega) (by omega) Try.underlying23 sz39) ?_
      refine s_run rfl (g_on 29 (by kernel_rfl) rfl) (r_fa rfl fo39_1) ?_
      refine s_run rfl (g_on 29 (by kernel_rfl) rfl) (r_lr H rfl hc1 (by simp) ag37) ?_
      refine s_run rfl (g_on 29 (by kernel_rfl) rfl) (r_len rfl Try.underlying37) ?_
      refine s_run rfl (g_on 29 (by kernel_rfl) rfl) (r_gtrF rfl rfl (by omega)) ?_
      refine s_run rfl rfl (r_pkF (v := .bool _) rfl rfl) ?_
      refine k_nc ?_
      refine k_f rfl ?_
      refine k_skip ?_
      refine b_norm ?_
      refine c_norm ?_
      refine k_rg ?_
      refine s_run rfl rfl (rmi rfl) ?_
      refine s_run rfl rfl (r_add rfl rfl (wI (by omega))) ?_
      refine s_run rfl rfl (rai rfl) ?_
      refine k_nil ?_
      refine c_round ?_
      rw [← hB] at H
      refine ⟨_, _, ?_, rfl, i + 1, by omega, rfl, fun j y hj hy => ?_, rfl, rfl, H⟩
      ·omega
      ·by_cases e : j = i
       ·subst e; rw [hx] at hy; injection hy with hy; subst hy; exact ⟨h70, h200⟩
       ·exact hall j y (by omega) hy
     ·rw [hbad x hxm (fun h => h200 h.2)]
      refine k_seq ?_
      refine k_sg ?_
      refine s_run rfl rfl (rmi rfl) ?_
      refine s_run rfl rfl (r_fa0 rfl fo25_1) ?_
      refine s_run rfl rfl (r_lo H 0 rfl rfl rfl ag23) ?_
      refine s_run rfl rfl (r_len rfl Try.underlying23) ?_
      refine s_run rfl rfl (r_lssT rfl rfl (by omega)) ?_
      refine k_nc ?_
      refine k_t rfl ?_
      refine k_skip ?_
      refine c_norm ?_
      refine k_seq ?_
      refine k_b ?_
      refine k_sg ?_
      refine s_run rfl rfl (r_fa0 rfl fo25_1) ?_
      refine s_run rfl rfl (r_lo H 0 rfl rfl rfl ag23) ?_
      refine s_run rfl rfl (rmi rfl) ?_
      refine s_run rfl rfl (r_ix (i := i) rfl rfl (by omega) (by omega) Try.underlying23 sz39) ?_
      refine s_run rfl rfl (r_fa rfl fo39_0) ?_
      refine s_run rfl rfl (r_lr H rfl hc0 (by simp) ag22) ?_
      refine s_run rfl rfl (r_len rfl Try.underlying22) ?_
      refine s_run rfl rfl (r_gtrF rfl rfl (by omega)) ?_
      refine s_run rfl rfl (rmb rfl) ?_
      refine s_run rfl (g_on 29 (by kernel_rfl) rfl) (r_fa0 rfl fo25_1) ?_
      refine s_run rfl (g_on 29 (by kernel_rfl) rfl) (r_lo H 0 rfl rfl rfl ag23) ?_
      refine s_run rfl (g_on 29 (by kernel_rfl) rfl) (rmi rfl) ?_
      refine s_run rfl (g_on 29 (by kernel_rfl) rfl) (r_ix (i := i) rfl rfl (by omega) (by omega) Try.underlying23 sz39) ?_
      refine s_run rfl (g_on 29 (by kernel_rfl) rfl) (r_fa rfl fo39_1) ?_
      refine s_run rfl (g_on 29 (by kernel_rfl) rfl) (r_lr H rfl hc1 (by simp) ag37) ?_
      refine s_run rfl (g_on 29 (by kernel_rfl) rfl) (r_len rfl Try.underlying37) ?_
      refine s_run rfl (g_on 29 (by kernel_rfl) rfl) (r_gtrT rfl rfl (by omega)) ?_
      refine s_run rfl rfl (r_pkF (v := .bool _) rfl rfl) ?_
      refine k_nc ?_
      refine k_t rfl ?_
      refine k_sg ?_
      refine s_run rfl rfl (rab rfl) ?_
      refine k_nc ?_
      refine k_ret ?_
      refine b_ret ?_
      refine c_ret ?_
      refine c_ret ?_
      refine b_ret ?_
      refine c_ret ?_
      refine fin1r (v := .bool _) rfl rfl ?_
      exact ⟨rfl, H.only⟩
    ·rw [hbad x hxm (fun h => h70 h.1)]
     refine k_seq ?_
     refine k_sg ?_
     refine s_run rfl rfl (rmi rfl) ?_
     refine s_run rfl rfl (r_fa0 rfl fo25_1) ?_
     refine s_run rfl rfl (r_lo H 0 rfl rfl rfl ag23) ?_
     refine s_run rfl rfl (r_len rfl Try.underlying23) ?_
     refine s_run rfl rfl (r_lssT rfl rfl (by omega)) ?_
     refine k_nc ?_
     refine k_t rfl ?_
     refine k_skip ?_
     refine c_norm ?_
     refine k_seq ?_
     refine k_b ?_
     refine k_sg ?_
     refine s_run rfl rfl (r_fa0 rfl fo25_1) ?_
     refine s_run rfl rfl (r_lo H 0 rfl rfl rfl ag23) ?_
     refine s_run rfl rfl (rmi rfl) ?_
     refine s_run rfl rfl (r_ix (i := i) rfl rfl (by omega) (by omega) Try.underlying23 sz39) ?_
     refine s_run rfl rfl (r_fa rfl fo39_0) ?_
     refine s_run rfl rfl (r_lr H rfl hc0 (by simp) ag22) ?_
     refine s_run rfl rfl (r_len rfl Try.underlying22) ?_
     refine s_run rfl rfl (r_gtrT rfl rfl (by omega)) ?_
     refine s_run rfl rfl (rmb rfl) ?_
     refine s_off rfl (g_off 29 (by kernel_rfl) rfl rfl) ?_
     refine s_off rfl (g_off 29 (by kernel_rfl) rfl rfl) ?_
     refine s_off rfl (g_off 29 (by kernel_rfl) rfl rfl) ?_
     refine s_off rfl (g_off 29 (by kernel_rfl) rfl rfl) ?_
     refine s_off rfl (g_off 29 (by kernel_rfl) rfl rfl) ?_
     refine s_off rfl (g_off 29 (by kernel_rfl) rfl rfl) ?_
     refine s_off rfl (g_off 29 (by kernel_rfl) rfl rfl) ?_
     refine s_off rfl (g_off 29 (by kernel_rfl) rfl rfl) ?_
     refine s_run rfl rfl (r_pkT (v := .bool _) rfl rfl) ?_
     refine k_nc ?_
     refine k_t rfl ?_
     refine k_sg ?_
     refine s_run rfl rfl (rab rfl) ?_
     refine k_nc ?_
     refine k_ret ?_
     refine b_ret ?_
     refine c_ret ?_
     refine c_ret ?_
     refine b_ret ?_
     refine c_ret ?_
     refine fin1r (v := .bool _) rfl rfl ?_
     exact ⟨rfl, H.only⟩
   ·obtain rfl : i = g.m := by omega
    rw [show fewB g = true from decide_eq_true ⟨h1, h2, fun x hx => by
     obtain ⟨j, hj, rfl⟩ := List.mem_iff_getElem.1 hx
     exact hall j _ (by omega) (List.getElem?_eq_getElem hj)⟩]
    refine k_seq ?_
    refine k_sg ?_
    refine s_run rfl rfl (rmi rfl) ?_
    refine s_run rfl rfl (r_fa0 rfl fo25_1) ?_
    refine s_run rfl rfl (r_lo H 0 rfl rfl rfl ag23) ?_
    refine s_run rfl rfl (r_len rfl Try.underlying23) ?_
    refine s_run rfl rfl (r_lssF rfl rfl (by omega)) ?_
    refine k_nc ?_
    refine k_f rfl ?_
    refine k_exit ?_
    refine c_exit ?_
    refine c_exit ?_
    refine b_hit ?_
    refine c_norm ?_
    refine k_sg ?_
    refine s_run rfl rfl (rab rfl) ?_
    refine k_nc ?_
    refine k_ret ?_
    refine fin1r (v := .bool _) rfl rfl ?_
    exact ⟨rfl, H.only⟩
  ·rw [show fewB g = false from decide_eq_false fun h => h2 h.2.1]
   refine k_in (N := 39) Try.func14 rfl rfl rfl ?_
   refine k_sg ?_
   refine s_box H rfl rfl ?_
   intro p1 _ H'; clear H; have H := H'; clear H'
   refine s_run rfl rfl (rab rfl) ?_
   refine k_nc ?_
   refine k_seq ?_
   refine k_sg ?_
   refine s_run rfl rfl (r_fa0 rfl fo25_0) ?_
   refine s_run rfl rfl (r_lo H 0 rfl rfl rfl ag22) ?_
   refine s_run rfl rfl (r_len rfl Try.underlying22) ?_
   refine s_run rfl rfl (r_gtrF rfl rfl (by omega)) ?_
   refine s_run rfl rfl (rmb rfl) ?_
   refine s_run rfl (g_on 8 (by kernel_rfl) rfl) (r_fa0 rfl fo25_1) ?_
   refine s_run rfl (g_on 8 (by kernel_rfl) rfl) (r_lo H 0 rfl rfl rfl ag23) ?_
   refine s_run rfl (g_on 8 (by kernel_rfl) rfl) (r_len rfl Try.underlying23) ?_
   refine s_run rfl (g_on 8 (by kernel_rfl) rfl) (r_gtrT rfl rfl (by omega)) ?_
   refine s_run rfl rfl (r_pkF (v := .bool _) rfl rfl) ?_
   refine k_nc ?_
   refine k_t rfl ?_
   refine k_sg ?_
   refine s_run rfl rfl (rab rfl) ?_
   refine k_nc ?_
   refine k_ret ?_
   refine c_ret ?_
   refine fin1r (v := .bool _) rfl rfl ?_
   exact ⟨rfl, H.only⟩
 ·rw [show fewB g = false from decide_eq_false fun h => h1 h.1]
  refine k_in (N := 39) Try.func14 rfl rfl rfl ?_
  refine k_sg ?_
  refine s_box H rfl rfl ?_
  intro p1 _ H'; clear H; have H := H'; clear H'
  refine s_run rfl rfl (rab rfl) ?_
  refine k_nc ?_
  refine k_seq ?_
  refine k_sg ?_
  refine s_run rfl rfl (r_fa0 rfl fo25_0) ?_
  refine s_run rfl rfl (r_lo H 0 rfl rfl rfl ag22) ?_
  refine s_run rfl rfl (r_len rfl Try.underlying22) ?_
  refine s_run rfl rfl (r_gtrT rfl rfl (by omega)) ?_
  refine s_run rfl rfl (rmb rfl) ?_
  refine s_off rfl (g_off 8 (by kernel_rfl) rfl rfl) ?_
  refine s_off rfl (g_off 8 (by kernel_rfl) rfl rfl) ?_
  refine s_off rfl (g_off 8 (by kernel_rfl) rfl rfl) ?_
  refine s_off rfl (g_off 8 (by kernel_rfl) rfl rfl) ?_
  refine s_run rfl rfl (r_pkT (v := .bool _) rfl rfl) ?_
  refine k_nc ?_
  refine k_t rfl ?_
  refine k_sg ?_
  refine s_run rfl rfl (rab rfl) ?_
  refine k_nc ?_
  refine k_ret ?_
  refine c_ret ?_
  refine fin1r (v := .bool _) rfl rfl ?_
  exact ⟨rfl, H.only⟩
/-- the document's graph: the same rows, in a row of nodes of its own -/
def refG (g : GrS) (NA : Option Addr) (cN : Nat) : GrS := ⟨g.A, g.n, g.c, g.rs, NA, g.m, cN, g.ns⟩
theorem ref_ok {g : GrS} {w W : World} {F : List Nat} {L : List Ent} {NA : Option Addr} {cN : Nat} {T : TypeId} (hg2 : GrOk W [] g) (H : Heap w F L W) (j : Nat) (hj : L[j]? = some (ownN 2 (.slice NA g.m cN) g.m ((flatN g.ns).map C1.v) T)) : GrOk W [] (refG g NA cN) := by
 refine ⟨hg2.rs, hg2.rl, hg2.rb, ⟨fun h0 => ?_, hg2.ns.2⟩, hg2.nl, hg2.nb, hg2.mb⟩
 have h0' : g.ns.length ≠ 0 := h0
 obtain ⟨b, e, _, hr⟩ := H.own_seesN j hj (by rw [flatN_len]; omega)
 refine ⟨b, 0, e, by simp, fun i x hi j u hj => ?_⟩
 obtain ⟨g1, g2⟩ := flatN_get g.ns i x hi
 have hj2 : j < 2 := by have := (List.getElem?_eq_some_iff.1 hj).1; exact this
 rw [show 0 + i * 2 + j = 0 + (i * 2 + j) by omega]
 match j, hj2, hj with
 | 0, _, hj => exact (hr _ _ g1).trans (by simpa [NodeS.cells, C1.v] using hj)
 | 1, _, hj => exact (hr _ _ g2).trans (by simpa [NodeS.cells, C1.v] using hj)
theorem lRefE (g : GrS) (w : World) (hg : GrOk w [] g) (hs : Sm g) :
  Calls Try.prog 15 [.agg g.cells.toArray].toArray w fun e w' => ∃ NA cN, e = .returned (.agg (refG g NA cN).cells.toArray) ∧ Heap w [] [ownN 2 (.slice NA g.m cN) g.m ((flatN g.ns).map C1.v) 40] w' := by
 have H := Heap.nil w
 have hnl := hg.nl
 have hm := hs.m
 unfold refG GrS.cells
 refine k_in (N := 34) Try.func15 rfl rfl rfl ?_
 refine k_sg ?_
 refine s_box H rfl rfl ?_
 intro p1 _ H'; clear H; have H := H'; clear H'
 refine s_al H rfl inf30 ?_
 intro p2 _ H'; clear H; have H := H'; clear H'
 refine k_nc ?_
 refine k_sg ?_
 refine s_run rfl rfl (r_fa0 rfl fo25_0) ?_
 refine s_run rfl rfl (r_lo H 1 rfl rfl rfl ag22) ?_
 refine s_run rfl rfl (r_bd (bd30_0 _ _ _) rfl) ?_
 refine s_al H rfl inf30 ?_
 intro p3 _ H'; clear H; have H := H'; clear H'
 refine s_sw H 0 rfl rfl rfl rfl rfl rfl rfl sz30 ?_
 clear H; intro _ H; simp only [jA, jB, jC, jD, jE, jF, jG, jH, jI, jJ, jK, Nat.reduceAdd] at H
 refine k_nc ?_
 refine k_seq ?_
 refine k_sg ?_
 refine s_run rfl rfl (rai rfl) ?_
 refine k_nc ?_
 refine k_b ?_
 replace H := H.own_nil 2 40
 replace H := H.order [1, 0, 2, 3] rfl rfl
 refine k_loop (fun z f W => ∃ (i : Nat) (NA : Option Addr) (cN : Nat), i ≤ g.m ∧ z = g.m - i ∧ f 1 = ptr p1 ∧ f 2 = ptr p2 ∧ f 3 = ptr p3 ∧ f 4 = .int .i64 i ∧ Heap w [] [blk p3 [.slice g.A g.n g.c, .slice NA i cN] 30, ownN 2 (.slice NA i cN) i ((flatN (g.ns.take i)).map C1.v) 40, blk p2 [.slice none 0 0, .slice none 0 0] 30, blk p1 [.slice g.A g.n g.c, .slice g.B g.m g.d] 25] W) g.m ⟨0, none, 0, by omega, rfl, rfl, rfl, rfl, rfl, H⟩ ?_
 clear H
 rintro z f W ⟨i, NA, cN, hi, rfl, f1, f2, f3, f4, H⟩
 obtain ⟨f, rfl⟩ := live4 f1 f2 f3 f4
 clear f1 f2 f3 f4
 by_cases hlt : i < g.m
 ·obtain ⟨x, hx⟩ : ∃ x, g.ns[i]? = some x := ⟨_, List.getElem?_eq_getElem (by omega)⟩
  have hxm := List.mem_of_getElem? hx
  obtain ⟨b, o, hB, _, hrd⟩ := hg.ns.1 (by omega)
  have hc0 := hrd i x hx 0 _ rfl
  have hc1 := hrd i x hx 1 _ rfl
  have hfl : flatN (g.ns.take (i + 1)) = flatN (g.ns.take i) ++ [C1.s x.A x.n x.c, C1.s x.B x.m x.d] := by
   rw [List.take_add_one, hx, Option.toList_some, flatN_snoc]
  rw [hB] at H
  refine k_seq ?_
  refine k_sg ?_
  refine s_run rfl rfl (rmi rfl) ?_
  refine s_run rfl rfl (r_fa0 rfl fo25_1) ?_
  refine s_run rfl rfl (r_lo H 3 rfl rfl rfl ag23) ?_
  refine s_run rfl rfl (r_len rfl Try.underlying23) ?_
  refine s_run rfl rfl (r_lssT rfl rfl (by omega)) ?_
  refine k_nc ?_
  refine k_t rfl ?_
  refine k_skip ?_
  refine c_norm ?_
  refine k_seq ?_
  refine k_b ?_
  refine k_trS (A := [_]) mixed H [3] rfl ?_; have H' := H.drew; clear H; have H := H'; clear H'
  refine tqh 0 rfl rfl rfl (fun _ hS => r_fa0 rfl fo30_1) (H.subl [3] rfl rfl) ?_
  refine tqh 2 rfl rfl rfl (fun _ hS => r_fa0 rfl fo25_1) (H.subl [3] rfl rfl) ?_
  refine tqh 3 rfl rfl rfl (fun _ hS => r_lo hS 0 rfl rfl rfl ag23) (H.subl [3] rfl rfl) ?_
  refine tqh 4 rfl rfl rfl (fun _ hS => r_mv (v := .int _ _) rfl) (H.subl [3] rfl rfl) ?_
  refine tqh 5 rfl rfl rfl (fun _ hS => r_ix (i := i) rfl rfl (by omega) (by omega) Try.underlying23 sz39) (H.subl [3] rfl rfl) ?_
  refine tqh 6 rfl rfl rfl (fun _ hS => r_fa rfl fo39_0) (H.subl [3] rfl rfl) ?_
  refine tqh 7 rfl rfl rfl (fun _ hS => r_lr hS rfl hc0 (by simp) ag22) (H.subl [3] rfl rfl) ?_
  refine tqh 8 rfl rfl rfl (fun _ hS => r_fa0 rfl fo25_1) (H.subl [3] rfl rfl) ?_
  refine tqh 9 rfl rfl rfl (fun _ hS => r_lo hS 0 rfl rfl rfl ag23) (H.subl [3] rfl rfl) ?_
  refine tqh 10 rfl rfl rfl (fun _ hS => r_mv (v := .int _ _) rfl) (H.subl [3] rfl rfl) ?_
  refine tqh 11 rfl rfl rfl (fun _ hS => r_ix (i := i) rfl rfl (by omega) (by omega) Try.underlying23 sz39) (H.subl [3] rfl rfl) ?_
  refine tqh 12 rfl rfl rfl (fun _ hS => r_fa rfl fo39_1) (H.subl [3] rfl rfl) ?_
  refine tqh 13 rfl rfl rfl (fun _ hS => r_lr hS rfl hc1 (by simp) ag37) (H.subl [3] rfl rfl) ?_
  refine tqh 14 rfl rfl rfl (fun _ hS => r_bd (bd40_0_1 _ _ _ _ _ _) rfl) (H.subl [3] rfl rfl) ?_
  refine t_up2 1 15 (by kernel_rfl) ?_ ?_
  ·refine up_mk rfl ?_
   refine s_run rfl rfl (r_lo H 0 rfl rfl rfl ag28) ?_
   refine k_nil ?_
   refine t_on (H.subl [3] rfl rfl) ?_
   refine t_up1 15 (by kernel_rfl) ?_
   refine up_mk rfl ?_
   refine s_bsN (enc := C1.v) (size := 2) (zs := [C1.s x.A x.n x.c, C1.s x.B x.m x.d]) H rfl rfl rfl (by omega) (by kernel_rfl) Try.underlying28 inf40 ?_
   intro _ _ H'; clear H; have H := H'; clear H'
   refine k_nil ?_
   refine t_on (H.subl [4] rfl rfl) ?_
   refine t_up1 16 (by kernel_rfl) ?_
   refine up_mk rfl ?_
   refine s_apB (enc := C1.v) (size := 2) H 1 rfl rfl rfl rfl C1.one (by omega) (by omega) Try.underlying28 inf40 rfl ?_
   intro NA' cN' _ H'; simp only [List.set_cons_zero, List.set_cons_succ, List.take_succ_cons, List.take_zero, List.drop_succ_cons, List.drop_zero, List.cons_append, List.nil_append, List.append_nil, List.length_cons, List.length_nil, Nat.reduceAdd] at H'; clear H; have H := H'; clear H'
   refine k_nil ?_
   refine t_on (H.subl [3] rfl rfl) ?_
   refine tqh 17 rfl rfl rfl (fun _ hS => r_fa0 rfl fo30_1) (H.subl [3] rfl rfl) ?_
   refine t_up1 18 (by kernel_rfl) ?_
   refine up_mk rfl ?_
   refine s_st (u := .slice _ _ _) H 0 rfl rfl rfl rfl rfl rfl sz28 ?_
   clear H; intro _ H; simp only [jA, jB, jC, jD, jE, jF, jG, jH, jI, jJ, jK, Nat.reduceAdd] at H
   refine k_nil ?_
   refine t_on (H.subl [3] rfl rfl) ?_
   refine t_done (by kernel_rfl) ?_
   refine b_norm ?_
   refine c_norm ?_
   refine k_rg ?_
   refine s_run rfl rfl (rmi rfl) ?_
   refine s_run rfl rfl (r_add rfl rfl (wI (by omega))) ?_
   refine s_run rfl rfl (rai rfl) ?_
   refine k_nil ?_
   refine c_round ?_
   refine ⟨_, _, ?_, rfl, i + 1, NA', cN', by omega, rfl, rfl, rfl, rfl, rfl, by rw [hfl, hB]; exact H⟩
   omega
  ·refine up_mk rfl ?_
   refine s_bsN (enc := C1.v) (size := 2) (zs := [C1.s x.A x.n x.c, C1.s x.B x.m x.d]) H rfl rfl rfl (by omega) (by kernel_rfl) Try.underlying28 inf40 ?_
   intro _ _ H'; clear H; have H := H'; clear H'
   refine k_nil ?_
   refine t_on (H.subl [4] rfl rfl) ?_
   refine t_up1 1 (by kernel_rfl) ?_
   refine up_mk rfl ?_
   refine s_run rfl rfl (r_lo H 1 rfl rfl rfl ag28) ?_
   refine k_nil ?_
   refine t_on (H.subl [4] rfl rfl) ?_
   refine t_up1 16 (by kernel_rfl) ?_
   refine up_mk rfl ?_
   refine s_apB (enc := C1.v) (size := 2) H 1 rfl rfl rfl rfl C1.one (by omega) (by omega) Try.underlying28 inf40 rfl ?_
   intro NA' cN' _ H'; simp only [List.set_cons_zero, List.set_cons_succ, List.take_succ_cons, List.take_zero, List.drop_succ_cons, List.drop_zero, List.cons_append, List.nil_append, List.append_nil, List.length_cons, List.length_nil, Nat.reduceAdd] at H'; clear H; have H := H'; clear H'
   refine k_nil ?_
   refine t_on (H.subl [3] rfl rfl) ?_
   refine tqh 17 rfl rfl rfl (fun _ hS => r_fa0 rfl fo30_1) (H.subl [3] rfl rfl) ?_
   refine t_up1 18 (by kernel_rfl) ?_
   refine up_mk rfl ?_
   refine s_st (u := .slice _ _ _) H 0 rfl rfl rfl rfl rfl rfl sz28 ?_
   clear H; intro _ H; simp only [jA, jB, jC, jD, jE, jF, jG, jH, jI, jJ, jK, Nat.reduceAdd] at H
   refine k_nil ?_
   refine t_on (H.subl [3] rfl rfl) ?_
   refine t_done (by kernel_rfl) ?_
   refine b_norm ?_
   refine c_norm ?_
   refine k_rg ?_
   refine s_run rfl rfl (rmi rfl) ?_
   refine s_run rfl rfl (r_add rfl rfl (wI (by omega))) ?_
   refine s_run rfl rfl (rai rfl) ?_
   refine k_nil ?_
   refine c_round ?_
   refine ⟨_, _, ?_, rfl, i + 1, NA', cN', by omega, rfl, rfl, rfl, rfl, rfl, by rw [hfl, hB]; exact H⟩
   omega
 ·obtain rfl : i = g.m := by omega
  have et : g.ns.take g.m = g.ns := by rw [← hnl]; exact List.take_length
  rw [et] at H
  refine k_seq ?_
  refine k_sg ?_
  refine s_run rfl rfl (rmi rfl) ?_
  refine s_run rfl rfl (r_fa0 rfl fo25_1) ?_
  refine s_run rfl rfl (r_lo H 3 rfl rfl rfl ag23) ?_
  refine s_run rfl rfl (r_len rfl Try.underlying23) ?_
  refine s_run rfl rfl (r_lssF rfl rfl (by omega)) ?_
  refine k_nc ?_
  refine k_f rfl ?_
  refine k_exit ?_
  refine c_exit ?_
  refine c_exit ?_
  refine b_hit ?_
  refine c_norm ?_
  refine k_sg ?_
  refine s_run rfl rfl (r_la H 0 rfl rfl rfl ag30 sz30) ?_
  refine s_sw H 2 rfl rfl rfl rfl rfl rfl rfl sz30 ?_
  clear H; intro _ H; simp only [jA, jB, jC, jD, jE, jF, jG, jH, jI, jJ, jK, Nat.reduceAdd] at H
  refine k_nc ?_
  refine k_ret ?_
  refine fx1r rfl (rv_a H 2 rfl rfl rfl ag30 sz30) ?_
  exact ⟨NA, cN, rfl, (H.order [1, 0, 2, 3] rfl rfl : Heap w [] ([_] ++ [_, _, _]) _).drops⟩
end Go.Proofs.Ytdgmlfpikgjnlaa
end

section
namespace Go.Proofs.Ytdgmlfpikgjnlaa
open Go.RowKit
set_option maxRecDepth 100000
set_option maxHeartbeats 2000000
def exG (b4 b6 b8 : Nat) : GrS := ⟨some ⟨b4, 0, none⟩, 1, 1, [1], some ⟨b8, 0, none⟩, 2, 2, [⟨none, 0, 0, [], none, 0, 0, []⟩, ⟨some ⟨b6, 0, none⟩, 1, 1, [0], none, 0, 0, []⟩]⟩
theorem exG_right (b4 b6 b8 : Nat) : rightB (exG b4 b6 b8) = true := by
 unfold rightB exG okN okP
 simp
theorem exG_ord (b4 b6 b8 : Nat) (out : List Int) (h : Gr.IsOrd (Gr.ptr (exG b4 b6 b8).nodes) (exG b4 b6 b8).rs out) : out = [1, 0] :=
 h.same ⟨2, rfl⟩
theorem awake38 (w : World) : Calls Try.prog 13 [].toArray w fun e w' => e = .returned (.bool true) ∧ Only [] w w' := by
 have H := Heap.nil w
 refine k_in (N := 55) Try.func13 rfl rfl rfl ?_
 refine k_sg ?_
 refine s_run rfl rfl (rab rfl) ?_
 refine k_nc ?_
 refine k_sg ?_
 refine s_bsO (enc := (Value.int .i64)) (zs := [1]) H rfl rfl rfl (by omega) (by kernel_rfl) Try.underlying22 inf3 ?_
 intro b4 _ H'; clear H; have H := H'; clear H'
 refine s_run rfl rfl (r_bd (bd39 ) rfl) ?_
 refine s_bsO (enc := (Value.int .i64)) (zs := [0]) H rfl rfl rfl (by omega) (by kernel_rfl) Try.underlying22 inf3 ?_
 intro b6 _ H'; clear H; have H := H'; clear H'
 refine s_run rfl rfl (r_bd (bd39_0 _ _ _) rfl) ?_
 refine s_bsM (enc := C1.v) (size := 2) (zs := [C1.s none 0 0, C1.s none 0 0, C1.s (some ⟨b6, 0, none⟩) 1 1, C1.s none 0 0]) H rfl rfl rfl (by omega) (by omega) (by kernel_rfl) Try.underlying23 inf39 ?_
 intro b8 W8 H'
 clear H; have H := H'; clear H'
 refine s_run rfl rfl (r_bd (bd25_0_1 _ _ _ _ _ _) rfl) ?_
 have hok : GrOk W8 [] (exG b4 b6 b8) := by
  refine ⟨H.own_sees 2 rfl, rfl, by simp [exG], ⟨fun _ => ?_, fun x hx => ?_⟩, rfl, by simp [exG], by simp [exG]⟩
  ·obtain ⟨b, e, _, hr⟩ := H.own_seesN 0 rfl (by simp)
   injection e with e
   injection e with e _ _
   subst e
   refine ⟨b8, 0, rfl, by simp, fun i x hi j u hj => ?_⟩
   match i, j, hi, hj with
   | 0, 0, hi, hj => simp [exG] at hi; subst hi; simp [NodeS.cells] at hj; subst hj; exact hr 0 (C1.s none 0 0) rfl
   | 0, 1, hi, hj => simp [exG] at hi; subst hi; simp [NodeS.cells] at hj; subst hj; exact hr 1 (C1.s none 0 0) rfl
   | 1, 0, hi, hj => simp [exG] at hi; subst hi; simp [NodeS.cells] at hj; subst hj; exact hr 2 (C1.s (some ⟨b6, 0, none⟩) 1 1) rfl
   | 1, 1, hi, hj => simp [exG] at hi; subst hi; simp [NodeS.cells] at hj; subst hj; exact hr 3 (C1.s none 0 0) rfl
   | 0, j + 2, hi, hj => simp [exG] at hi; subst hi; simp [NodeS.cells] at hj
   | 1, j + 2, hi, hj => simp [exG] at hi; subst hi; simp [NodeS.cells] at hj
   | i + 2, j, hi, hj => simp [exG] at hi
  ·simp [exG] at hx
   rcases hx with rfl | rfl
   ·exact ⟨Sees.nil, rfl, Sees.nil, rfl, by simp, by simp, by simp [exG], by simp [exG]⟩
   ·exact ⟨H.own_sees 1 rfl, rfl, Sees.nil, rfl, by simp, by simp, by simp [exG], by simp [exG]⟩
 have hsm : Sm (exG b4 b6 b8) := ⟨by simp [exG], by simp [exG], fun x hx => by
  simp [exG] at hx
  rcases hx with rfl | rfl
  ·exact ⟨by simp [exG], by simp [exG]⟩
  ·exact ⟨by simp [exG], by simp [exG]⟩⟩
 have hC := gCanon1 (exG b4 b6 b8) W8 hok (exG_right b4 b6 b8) hsm
 refine s_call rfl (hC) (ca28 rfl) ?_
 rintro e W1 ⟨⟨g', out, rfl, kg, ho, er, en, e3, e4, _, _⟩, H'⟩
 refine ⟨_, rfl, ?_⟩
 have H := H.same H'; clear H'; have HP := H; clear H; have H := Heap.nil W1; unfold GrS.cells
 refine s_run rfl rfl (rmt rfl) ?_
 refine s_run rfl rfl (r_ext (v := .agg _) rfl rfl) ?_
 refine s_run rfl rfl (r_ext (v := .int _ _) rfl rfl) ?_
 refine s_al H rfl inf25 ?_
 intro p1 _ H'; clear H; have H := H'; clear H'
 refine s_sw H 0 rfl rfl rfl rfl rfl rfl rfl sz25 ?_
 clear H; intro _ H; simp only [jA, jB, jC, jD, jE, jF, jG, jH, jI, jJ, jK, Nat.reduceAdd] at H
 refine s_run rfl rfl (rai rfl) ?_
 refine k_nc ?_
 refine k_sg ?_
 obtain rfl := exG_ord b4 b6 b8 out ho
 have er2 : g'.rs = [0] := er.trans rfl
 have en2 : g'.nodes = [([1], []), ([], [])] := en.trans rfl
 have e32 : g'.n = 1 := e3
 have e42 : g'.m = 2 := e4
 obtain ⟨x0, hx0, hx0p⟩ : ∃ x0, g'.ns[0]? = some x0 ∧ x0.ps = [1] := by
  have h1 : g'.nodes[0]? = some ([1], []) := by rw [en2]; rfl
  unfold GrS.nodes at h1
  rw [List.getElem?_map] at h1
  cases hq : g'.ns[0]? with
  | none => rw [hq] at h1; cases h1
  | some x => rw [hq] at h1; injection h1 with h1; injection h1 with h1 _; exact ⟨x, rfl, h1⟩
 have hxo := kg.ns.2 x0 (List.mem_of_getElem? hx0)
 have hx0n : x0.n = 1 := by rw [← hxo.pl, hx0p]; rfl
 obtain ⟨rb, ro, hRA, _, hrr⟩ := kg.rs (by rw [er2]; simp)
 have hc1 := hrr 0 0 (by rw [er2]; rfl)
 obtain ⟨nb, no, hNB, _, hrn⟩ := kg.ns.1 (by have := (List.getElem?_eq_some_iff.1 hx0).1; omega)
 have hc2 := hrn 0 x0 hx0 0 _ rfl
 obtain ⟨pb, po, hPA, _, hrp⟩ := hxo.ps (by rw [hx0p]; simp)
 have hc3 := hrp 0 1 (by rw [hx0p]; rfl)
 rw [hPA, hx0n] at hc2
 rw [hRA, hNB, e32, e42] at H
 refine s_run rfl rfl (rmi rfl) ?_
 refine s_run rfl rfl (r_eqlT rfl rfl (by omega)) ?_
 refine s_run rfl rfl (rmb rfl) ?_
 refine s_run rfl (g_on 15 (by kernel_rfl) rfl) (r_fa0 rfl fo25_0) ?_
 refine s_run rfl (g_on 15 (by kernel_rfl) rfl) (r_lo H 0 rfl rfl rfl ag22) ?_
 refine s_run rfl (g_on 15 (by kernel_rfl) rfl) (r_len rfl Try.underlying22) ?_
 refine s_run rfl (g_on 15 (by kernel_rfl) rfl) (r_eqlT rfl rfl (by omega)) ?_
 refine s_run rfl rfl (r_pkT (v := .bool _) rfl rfl) ?_
 refine s_run rfl rfl (rmb rfl) ?_
 refine s_run rfl (g_on 21 (by kernel_rfl) rfl) (r_fa0 rfl fo25_0) ?_
 refine s_run rfl (g_on 21 (by kernel_rfl) rfl) (r_lo H 0 rfl rfl rfl ag22) ?_
 refine s_run rfl (g_on 21 (by kernel_rfl) rfl) (r_ix1o (i := 0) rfl rfl (by omega) (by omega) Try.underlying22 sz3) ?_
 refine s_run rfl (g_on 21 (by kernel_rfl) rfl) (r_lr H rfl hc1 (by simp) ag3) ?_
 refine s_run rfl (g_on 21 (by kernel_rfl) rfl) (r_eqlT rfl rfl (by omega)) ?_
 refine s_run rfl rfl (r_pkT (v := .bool _) rfl rfl) ?_
 refine s_run rfl rfl (rmb rfl) ?_
 refine s_run rfl (g_on 28 (by kernel_rfl) rfl) (r_fa0 rfl fo25_1) ?_
 refine s_run rfl (g_on 28 (by kernel_rfl) rfl) (r_lo H 0 rfl rfl rfl ag23) ?_
 refine s_run rfl (g_on 28 (by kernel_rfl) rfl) (r_len rfl Try.underlying23) ?_
 refine s_run rfl (g_on 28 (by kernel_rfl) rfl) (r_eqlT rfl rfl (by omega)) ?_
 refine s_run rfl rfl (r_pkT (v := .bool _) rfl rfl) ?_
 refine s_run rfl rfl (rmb rfl) ?_
 refine s_run rfl (g_on 34 (by kernel_rfl) rfl) (r_fa0 rfl fo25_1) ?_
 refine s_run rfl (g_on 34 (by kernel_rfl) rfl) (r_lo H 0 rfl rfl rfl ag23) ?_
 refine s_run rfl (g_on 34 (by kernel_rfl) rfl) (r_ix (i := 0) rfl rfl (by omega) (by omega) Try.underlying23 sz39) ?_
 refine s_run rfl (g_on 34 (by kernel_rfl) rfl) (r_fa rfl fo39_0) ?_
 refine s_run rfl (g_on 34 (by kernel_rfl) rfl) (r_lr H rfl hc2 (by simp) ag22) ?_
 refine s_run rfl (g_on 34 (by kernel_rfl) rfl) (r_len rfl Try.underlying22) ?_
 refine s_run rfl (g_on 34 (by kernel_rfl) rfl) (r_eqlT rfl rfl (by omega)) ?_
 refine s_run rfl rfl (r_pkT (v := .bool _) rfl rfl) ?_
 refine s_run rfl rfl (rmb rfl) ?_
 refine s_run rfl (g_on 43 (by kernel_rfl) rfl) (r_fa0 rfl fo25_1) ?_
 refine s_run rfl (g_on 43 (by kernel_rfl) rfl) (r_lo H 0 rfl rfl rfl ag23) ?_
 refine s_run rfl (g_on 43 (by kernel_rfl) rfl) (r_ix (i := 0) rfl rfl (by omega) (by omega) Try.underlying23 sz39) ?_
 refine s_run rfl (g_on 43 (by kernel_rfl) rfl) (r_fa rfl fo39_0) ?_
 refine s_run rfl (g_on 43 (by kernel_rfl) rfl) (r_lr H rfl hc2 (by simp) ag22) ?_
 refine s_run rfl (g_on 43 (by kernel_rfl) rfl) (r_ix1o (i := 0) rfl rfl (by omega) (by omega) Try.underlying22 sz3) ?_
 refine s_run rfl (g_on 43 (by kernel_rfl) rfl) (r_lr H rfl hc3 (by simp) ag3) ?_
 refine s_run rfl (g_on 43 (by kernel_rfl) rfl) (r_eqlT rfl rfl (by omega)) ?_
 refine s_run rfl rfl (r_pkT (v := .bool _) rfl rfl) ?_
 refine s_run rfl rfl (rmb rfl) ?_
 refine s_run rfl rfl (r_pkT (v := .bool _) rfl rfl) ?_
 refine s_run rfl rfl (rab rfl) ?_
 refine k_nc ?_
 refine k_ret ?_
 refine fin1r (v := .bool _) rfl rfl ?_
 exact ⟨rfl, HP.only.trans H.only⟩
end Go.Proofs.Ytdgmlfpikgjnlaa
end

section
namespace Go.Proofs.Ytdgmlfpikgjnlaa
section
open Go.ChangeShapes Go.WideShapes Go.Deep
variable {H : Type} {enc : TypeId × Value → H} {w : World} {base : Nat} {spare : Nat → Bool} {held : Bool}
theorem o_add {b o i : Nat} : (⟨b, o, none⟩ : Addr).add i = ⟨b, o + i, none⟩ := by
 unfold Addr.add; split
 ·subst_vars; rfl
 ·rfl
theorem o_sees {k : IntKind} {t e : TypeId} {fuel : Nat} {v : Value} {y : DataW H × List MemPlace} (ht : Try.prog.underlying t = some (.slice e)) (he : Try.prog.underlying e = some (.int k)) (hc : Try.prog.cellsOf e = 1)
  (h : DataW.trod enc Try.prog w base spare held fuel t [v] = some y) :
  ∃ A n c xs, v = .slice A n c ∧ Sees (Value.int k) w [] A xs ∧ xs.length = n ∧ n ≤ c ∧ c ≤ maxLen ∧ ∀ z ∈ xs, (Lit.int k z).wf = true := by
 rcases open_ints ht he hc h with ⟨hcs, _⟩ | ⟨x, l, c, zs, hcs, _, hl, hm, hz, _, hcell, hwf⟩
 ·injection hcs with hv _
  exact ⟨none, 0, 0, [], hv, Sees.nil, rfl, by omega, by decide, by simp⟩
 ·injection hcs with hv _
  have hzl : l ≤ zs.length := by rw [hz]; split <;> omega
  refine ⟨some x, l, c, zs.take l, hv, fun h0 => ?_, by simp; omega, hl, hm, fun z hz => hwf z (List.mem_of_mem_take hz)⟩
  obtain ⟨b, off, spot⟩ := x
  have h0' : 0 < l := by simp at h0; omega
  have hc0 := hcell 0 (by omega)
  have hspot : spot = none := by simpa [Addr.add] using World.cell?_spot hc0
  subst hspot
  refine ⟨b, off, rfl, by simp, fun j z hj => ?_⟩
  have hjl : j < l := by have := (List.getElem?_eq_some_iff.1 hj).1; simp at this; omega
  rw [List.getElem?_take_of_lt hjl] at hj
  have hc2 := hcell j (by omega)
  rw [o_add] at hc2
  rw [hc2]
  simp [List.getD, hj]
theorem o_list {α : Type} {Q : Nat → α → Prop} : ∀ n : Nat, (∀ i, i < n → ∃ x, Q i x) → ∃ l : List α, l.length = n ∧ ∀ i x, l[i]? = some x → Q i x
 | 0, _ => ⟨[], rfl, by simp⟩
 | n + 1, h => by
  obtain ⟨l, hl, hq⟩ := o_list n (fun i hi => h i (by omega))
  obtain ⟨x, hx⟩ := h n (by omega)
  refine ⟨l ++ [x], by simp [hl], fun i y hy => ?_⟩
  by_cases hi : i < l.length
  ·rw [List.getElem?_append_left hi] at hy; exact hq i y hy
  ·have hi2 : i < n + 1 := by have := (List.getElem?_eq_some_iff.1 hy).1; simp at this; omega
   obtain rfl : i = n := by omega
   rw [List.getElem?_append_right (by omega)] at hy
   simp [hl] at hy
   subst hy; exact hx
set_option maxRecDepth 100000 in
theorem o_one {t : TypeId} {fs : Array Field} (h : Try.prog.underlying t = some (.struct fs)) (h2 : (match Try.prog.underlying t with | some (.struct fs) => oneCellFields Try.prog fs | _ => false) = true) : oneCellFields Try.prog fs = true := by
 rw [h] at h2; exact h2
end
end Go.Proofs.Ytdgmlfpikgjnlaa
end

section
namespace Go.Proofs.Ytdgmlfpikgjnlaa
open Go.RowKit
structure NodeO where
 A0 : Option Addr
 n0 : Nat
 c0 : Nat
 xs0 : List Int
 A1 : Option Addr
 n1 : Nat
 c1 : Nat
 xs1 : List Int
def NodeO.cells (u : NodeO) : List Value := [.slice u.A0 u.n0 u.c0, .slice u.A1 u.n1 u.c1]
structure NodeOOk (w : World) (u : NodeO) : Prop where
 s0 : Sees (Value.int .i64) w [] u.A0 u.xs0
 l0 : u.xs0.length = u.n0
 m0 : u.n0 ≤ u.c0 ∧ u.c0 ≤ maxLen
 b0 : ∀ z ∈ u.xs0, (Lit.int .i64 z).wf = true
 s1 : Sees (Value.int .u64) w [] u.A1 u.xs1
 l1 : u.xs1.length = u.n1
 m1 : u.n1 ≤ u.c1 ∧ u.c1 ≤ maxLen
 b1 : ∀ z ∈ u.xs1, (Lit.int .u64 z).wf = true
def ScriptNodeO (w : World) (A : Option Addr) (ops : List NodeO) : Prop := (ops.length ≠ 0 → ∃ b o, A = some ⟨b, o, none⟩ ∧ ∀ i op, ops[i]? = some op → Reads (fun v : Value => v) w b (o + i * 2) op.cells) ∧ ∀ op ∈ ops, NodeOOk w op
theorem NodeOOk.later {w W : World} {u : NodeO} (h : NodeOOk w u) (hO : Only [] w W) : NodeOOk W u := ⟨h.s0.later hO (by simp), h.l0, h.m0, h.b0, h.s1.later hO (by simp), h.l1, h.m1, h.b1⟩
theorem ScriptNodeO.later {w W : World} {A : Option Addr} {ops : List NodeO} (h : ScriptNodeO w A ops) (hO : Only [] w W) : ScriptNodeO W A ops :=
 ⟨fun h0 => by
  obtain ⟨b, o, e, hr⟩ := h.1 h0
  exact ⟨b, o, e, fun i op hi => (hr i op hi).later hO (by simp)⟩, fun op hop => (h.2 op hop).later hO⟩
section
open Go.ChangeShapes Go.WideShapes Go.Deep
variable {H : Type} {enc : TypeId × Value → H} {w : World} {base : Nat} {spare : Nat → Bool} {held : Bool}
set_option maxRecDepth 100000 in
theorem open_NodeO {fuel : Nat} {cs : List Value} {y : DataW H × List MemPlace} (h : DataW.trod enc Try.prog w base spare held fuel 39 cs = some y) : ∃ op : NodeO, cs = op.cells ∧ NodeOOk w op := by
 obtain ⟨xs, n, _, _, hl, hlen, hg⟩ := DataW.trod_struct Try.underlying39 h
 have hone := o_one Try.underlying39 (by kernel_rfl)
 have hcl : cs.length = 2 := hl.trans (by kernel_rfl)
 replace hlen : xs.length = 2 := hlen
 match cs, hcl, xs, hlen with
 | [c0, c1], _, [y0, y1], _ =>
  obtain ⟨o0, k0⟩ := hone_of hone 0 _ rfl
  obtain ⟨o1, k1⟩ := hone_of hone 1 _ rfl
  have g0 := hg 0 _ rfl
  have g1 := hg 1 _ rfl
  rw [o0, k0] at g0
  rw [o1, k1] at g1
  replace g0 := g0.trans (show _ = some y0 from rfl)
  replace g1 := g1.trans (show _ = some y1 from rfl)
  obtain ⟨A0, m0, q0, bs0, e0, hs0, hb0, hmc0, hcm0, hw0⟩ := o_sees Try.underlying22 Try.underlying3 (by kernel_rfl) (show DataW.trod enc Try.prog w base spare held n 22 [c0] = some y0 from g0)
  obtain ⟨A1, m1, q1, bs1, e1, hs1, hb1, hmc1, hcm1, hw1⟩ := o_sees Try.underlying37 Try.underlying78 (by kernel_rfl) (show DataW.trod enc Try.prog w base spare held n 37 [c1] = some y1 from g1)
  subst e0
  subst e1
  exact ⟨⟨A0, m0, q0, bs0, A1, m1, q1, bs1⟩, rfl, hs0, hb0, ⟨hmc0, hcm0⟩, hw0, hs1, hb1, ⟨hmc1, hcm1⟩, hw1⟩

def NodeO.s (u : NodeO) : NodeS := ⟨u.A0, u.n0, u.c0, u.xs0, u.A1, u.n1, u.c1, u.xs1⟩
theorem NodeO.ok {W : World} {u : NodeO} (h : NodeOOk W u) : NodeOk W [] u.s := by
 refine ⟨h.s0, h.l0, h.s1, h.l1, fun p hp => bounds_i64 (h.b0 p hp), fun p hp => bounds_u64 (h.b1 p hp), ?_, ?_⟩
 ·have := h.m0; simp only [maxLen] at this; show u.n0 ≤ _; omega
 ·have := h.m1; simp only [maxLen] at this; show u.n1 ≤ _; omega
set_option maxRecDepth 100000 in
theorem open_graph (W : World) {r : Reach} (b0 : Nat) (v : Value) (d : DataW H) (p : List MemPlace)
  (hv : Value.okWide Try.prog W r b0 25 v) (h : DataW.Trod enc Try.prog W base spare held 25 v d p) :
  ∃ g : GrS, v = .agg g.cells.toArray ∧ GrOk W [] g := by
 obtain ⟨cs, rfl, hsz⟩ := okWide_struct Try.underlying25 hv
 obtain ⟨fuel, hf⟩ := h
 obtain ⟨xs, n, _, _, hl, hlen, hg⟩ := DataW.trod_struct Try.underlying25 hf
 have hone := o_one Try.underlying25 (by kernel_rfl)
 have hl2 : cs.toList.length = 2 := hl.trans (by kernel_rfl)
 have hlen2 : xs.length = 2 := hlen
 obtain ⟨cl, rfl⟩ : ∃ cl, cs = List.toArray cl := ⟨cs.toList, by simp⟩
 simp only [List.toList_toArray] at hl2
 match cl, hl2, xs, hlen2 with
 | [c0, c1], _, [y0, y1], _ =>
  obtain ⟨o0, k0⟩ := hone_of hone 0 _ rfl
  obtain ⟨o1, k1⟩ := hone_of hone 1 _ rfl
  have g0 := hg 0 _ rfl
  have g1 := hg 1 _ rfl
  rw [o0, k0] at g0
  rw [o1, k1] at g1
  replace g0 := g0.trans (show _ = some y0 from rfl)
  replace g1 := g1.trans (show _ = some y1 from rfl)
  obtain ⟨A0, m0, q0, bs0, e0, hs0, hb0, hmc0, hcm0, hw0⟩ := o_sees Try.underlying22 Try.underlying3 (by kernel_rfl) (show DataW.trod enc Try.prog W base spare held n 22 [c0] = some y0 from g0)
  subst e0
  have g1' : DataW.trod enc Try.prog W base spare held n 23 [c1] = some y1 := g1
  have c2 : Try.prog.cellsOf 39 = 2 := by kernel_rfl
  have hm0 : m0 ≤ 9223372036854775807 := by simp only [maxLen] at hcm0; omega
  rcases open_slice Try.underlying23 g1' with ⟨hcs, _⟩ | ⟨x, len, cap, m, n2, D, Pl, hcs, _, hl3, hm, hmm, _, hx⟩
  ·injection hcs with hcs _
   subst hcs
   exact ⟨⟨A0, m0, q0, bs0, none, 0, 0, []⟩, rfl, ⟨hs0, hb0, fun p hp => bounds_i64 (hw0 p hp), ⟨fun h => absurd rfl h, by simp⟩, rfl, hm0, by show (0 : Nat) ≤ _; omega⟩⟩
  ·injection hcs with hcs _
   subst hcs
   rw [c2] at hx
   have hlm : len ≤ m := by rw [hmm]; split <;> omega
   obtain ⟨ops, hol, hq⟩ := o_list (Q := fun i (op : NodeO) => NodeOOk W op ∧ ∀ j u, op.cells[j]? = some u → W.cell? (x.add (i * 2 + j)) = some u) len (fun i hi => by
    obtain ⟨cs', hc, ht⟩ := hx i (by omega)
    obtain ⟨op, rfl, hok⟩ := open_NodeO ht
    obtain ⟨_, hcl, hat⟩ := World.cells?_some hc
    refine ⟨op, hok, fun j u hj => ?_⟩
    have hj5 : j < 2 := by have := (List.getElem?_eq_some_iff.1 hj).1; rw [hcl] at this; exact this
    rw [← Go.Deep.add_add, hat j hj5, hj])
   refine ⟨⟨A0, m0, q0, bs0, some x, len, cap, ops.map NodeO.s⟩, rfl, ⟨hs0, hb0, fun p hp => bounds_i64 (hw0 p hp), ⟨fun h0 => ?_, fun z hz => ?_⟩, by simp [hol], hm0, by simp only [maxLen] at hm; show len ≤ _; omega⟩⟩
   ·have h00 : ops.length ≠ 0 := by simpa using h0
    obtain ⟨op0, hop0⟩ : ∃ op, ops[0]? = some op := ⟨_, List.getElem?_eq_getElem (by omega)⟩
    obtain ⟨b, off, spot⟩ := x
    have hc0 := (hq 0 op0 hop0).2 0 _ rfl
    have hspot : spot = none := by simpa [Addr.add] using World.cell?_spot hc0
    subst hspot
    refine ⟨b, off, rfl, by simp, fun i z hz j u hj => ?_⟩
    have hz' : (ops.map NodeO.s)[i]? = some z := hz
    rw [List.getElem?_map] at hz'
    cases hoi : ops[i]? with
    | none => rw [hoi] at hz'; cases hz'
    | some op =>
     rw [hoi] at hz'
     injection hz' with hz'
     subst hz'
     have := (hq i op hoi).2 j u hj
     rw [o_add] at this
     rw [Nat.add_assoc]; exact this
   ·have hz' : z ∈ ops.map NodeO.s := hz
    obtain ⟨op, hop, rfl⟩ := List.mem_map.1 hz'
    obtain ⟨i, hi, rfl⟩ := List.mem_iff_getElem.1 hop
    exact NodeO.ok (hq i _ (List.getElem?_eq_getElem hi)).1
end
end Go.Proofs.Ytdgmlfpikgjnlaa
end

section
namespace Go.Proofs.Ytdgmlfpikgjnlaa
open Go.RowKit
open Classical in
/-- both are right, and numbered as one comes to their nodes they are one graph -/
noncomputable def alB (a b : GrS) : Bool := decide (rightB a = true ∧ rightB b = true ∧ ∃ oa ob, Gr.IsOrd (Gr.ptr a.nodes) a.rs oa ∧ Gr.IsOrd (Gr.ptr b.nodes) b.rs ob ∧ Gr.canonR a.rs oa = Gr.canonR b.rs ob ∧ Gr.canonN a.nodes oa = Gr.canonN b.nodes ob)
end Go.Proofs.Ytdgmlfpikgjnlaa
end

section
namespace Go.Proofs.Ytdgmlfpikgjnlaa
open Go.RowKit
set_option maxRecDepth 100000
set_option maxHeartbeats 4000000
end Go.Proofs.Ytdgmlfpikgjnlaa
end

section
namespace Go.Proofs.Ytdgmlfpikgjnlaa.Gr
def Bd (a : List Int) (lo hi : Int) : Prop := ∀ v ∈ a, lo ≤ v ∧ v ≤ hi
theorem Bd.mono {a : List Int} {lo hi lo' hi' : Int} (h : Bd a lo hi) (h1 : lo' ≤ lo) (h2 : hi ≤ hi') : Bd a lo' hi' := fun v hv => by have := h v hv; omega
theorem Bd.set {a : List Int} {lo hi : Int} (h : Bd a lo hi) (i : Nat) (v : Int) (hv : lo ≤ v ∧ v ≤ hi) : Bd (a.set i v) lo hi := fun z hz => by
 rcases List.mem_or_eq_of_mem_set hz with hz | rfl
 ·exact h z hz
 ·exact hv
end Go.Proofs.Ytdgmlfpikgjnlaa.Gr
end

section
namespace Go.Proofs.Ytdgmlfpikgjnlaa
open Go.RowKit
set_option maxRecDepth 100000
set_option maxHeartbeats 4000000
end Go.Proofs.Ytdgmlfpikgjnlaa
end

section
namespace Go.Proofs.Ytdgmlfpikgjnlaa
open Go.RowKit
set_option maxRecDepth 100000
set_option maxHeartbeats 4000000
def wordsN (ns : Gr.Nodes) : Nat := (ns.map fun x => 1 + x.1.length + x.2.length).sum
theorem wordsN_snoc (ns : Gr.Nodes) (i : Nat) (x : List Int × List Int) (h : ns[i]? = some x) : wordsN (ns.take (i + 1)) = wordsN (ns.take i) + (1 + x.1.length + x.2.length) := by
 unfold wordsN
 rw [take_snoc _ _ _ _ h, List.sum_append]; simp
theorem wordsN_trn (ns : Gr.Nodes) : wordsN (Gr.trnN ns) = wordsN ns := by
 unfold wordsN Gr.trnN
 rw [List.map_map, List.map_reverse, List.sum_reverse]
 congr 1
 apply List.map_congr_left
 intro x _
 simp
theorem gWords (g : GrS) (w : World) (hg : GrOk w [] g) (hs : Sm g) :
  Calls Try.prog 27 [.agg g.cells.toArray].toArray w fun e w' => e = .returned (.int .i64 (wordsN g.nodes : Nat)) ∧ Only [] w w' := by
 have H := Heap.nil w
 have hnl := hg.nl
 have hm := hs.m
 unfold GrS.cells
 refine k_in (N := 25) Try.func27 rfl rfl rfl ?_
 refine k_sg ?_
 refine s_box H rfl rfl ?_
 intro p1 _ H'; clear H; have H := H'; clear H'
 refine s_run rfl rfl (rai rfl) ?_
 refine k_nc ?_
 refine k_sg ?_
 refine s_run rfl rfl (rai rfl) ?_
 refine k_nc ?_
 refine k_seq ?_
 refine k_sg ?_
 refine s_run rfl rfl (r_fa0 rfl fo25_1) ?_
 refine s_run rfl rfl (r_lo H 0 rfl rfl rfl ag23) ?_
 refine s_run rfl rfl (r_len rfl Try.underlying23) ?_
 refine s_run rfl rfl (rmi rfl) ?_
 refine k_nc ?_
 refine k_b ?_
 refine k_loop (fun z f W => ∃ i s : Nat, i ≤ g.m ∧ z = g.m - i ∧ s = wordsN (g.nodes.take i) ∧ s ≤ i * 101001 ∧ f 3 = .int .i64 (s : Nat) ∧ f 7 = .slice g.B g.m g.d ∧ f 8 = .int .i64 g.m ∧ f 9 = .int .i64 i ∧ Heap w [] [blk p1 [.slice g.A g.n g.c, .slice g.B g.m g.d] 25] W) g.m ⟨0, 0, by omega, rfl, rfl, by omega, rfl, rfl, rfl, rfl, H⟩ ?_
 clear H
 rintro z f W ⟨i, s, hi, rfl, hss, hsb, f3, f7, f8, f9, H⟩
 by_cases hlt : i < g.m
 ·obtain ⟨x, hx⟩ : ∃ x, g.ns[i]? = some x := ⟨_, List.getElem?_eq_getElem (by omega)⟩
  have hxm := List.mem_of_getElem? hx
  obtain ⟨b, o, hB, _, hrd⟩ := hg.ns.1 (by omega)
  have hrx := hrd i x hx
  have hxo := hg.ns.2 x hxm
  have hxn := (hs.p x hxm).1
  have hxd := (hs.p x hxm).2
  have hstep := wordsN_snoc g.nodes i _ (nodes_get hx)
  rw [← hss] at hstep
  have e1 : x.ps.length = x.n := hxo.pl
  have e2 : x.ds.length = x.m := hxo.dl
  simp only [e1, e2] at hstep
  rw [hB] at f7
  obtain ⟨f, rfl⟩ := live4 f3 f7 f8 f9
  clear f3 f7 f8 f9
  unfold NodeS.cells at hrx
  refine k_sg ?_
  refine s_run rfl rfl (r_lssT rfl rfl (by omega)) ?_
  refine k_nc ?_
  refine k_seq ?_
  refine k_t rfl ?_
  refine k_skip ?_
  refine c_norm ?_
  refine k_seq ?_
  refine k_b ?_
  refine k_sg ?_
  refine s_run rfl rfl (r_ix (i := i) rfl rfl (by omega) (by omega) Try.underlying23 sz39) ?_
  refine s_run rfl rfl (r_lA (enc := fun v : Value => v) (zs := [.slice x.A x.n x.c, .slice x.B x.m x.d]) (hrx.later H.only (by simp)) rfl rfl ag39 sz39) ?_
  refine s_al H rfl inf39 ?_
  intro p5 _ H'; clear H; have H := H'; clear H'
  refine s_sw H 0 rfl rfl rfl rfl rfl rfl rfl sz39 ?_
  clear H; intro _ H; simp only [jA, jB, jC, jD, jE, jF, jG, jH, jI, jJ, jK, Nat.reduceAdd] at H
  refine k_nc ?_
  refine k_rg ?_
  refine s_run rfl rfl (rmi rfl) ?_
  refine s_run rfl rfl (r_fa0 rfl fo39_0) ?_
  refine s_run rfl rfl (r_lo H 0 rfl rfl rfl ag22) ?_
  refine s_run rfl rfl (r_len rfl Try.underlying22) ?_
  refine s_run rfl rfl (r_add rfl rfl (wI (by omega))) ?_
  refine s_run rfl rfl (r_fa0 rfl fo39_1) ?_
  refine s_run rfl rfl (r_lo H 0 rfl rfl rfl ag37) ?_
  refine s_run rfl rfl (r_len rfl Try.underlying37) ?_
  refine s_run rfl rfl (r_add rfl rfl (wI (by omega))) ?_
  refine s_run rfl rfl (r_add rfl rfl (wI (by omega))) ?_
  refine s_run rfl rfl (rai rfl) ?_
  refine k_nil ?_
  refine b_norm ?_
  refine c_norm ?_
  refine k_rg ?_
  refine s_run rfl rfl (r_add rfl rfl (wI (by omega))) ?_
  refine s_run rfl rfl (rmi rfl) ?_
  refine k_nil ?_
  refine c_round ?_
  have H := H.drop
  refine ⟨_, _, ?_, rfl, i + 1, s + (1 + x.n + x.m), by omega, rfl, hstep.symm, by omega, ?_, by rw [hB]; rfl, rfl, rfl, H⟩
  ·omega
  ·first | rfl | (simp only [upd_same, upd_ne]; congr 1; omega)
 ·obtain rfl : i = g.m := by omega
  have e : g.nodes.take g.m = g.nodes := by rw [← hnl, ← g.nodes_len]; exact List.take_length
  rw [e] at hss
  subst hss
  obtain ⟨f, rfl⟩ := live4 f3 f7 f8 f9
  clear f3 f7 f8 f9
  refine k_sg ?_
  refine s_run rfl rfl (r_lssF rfl rfl (by omega)) ?_
  refine k_nc ?_
  refine k_seq ?_
  refine k_f rfl ?_
  refine k_exit ?_
  refine c_exit ?_
  refine c_exit ?_
  refine b_hit ?_
  refine c_norm ?_
  refine k_sg ?_
  refine s_run rfl rfl (rmi rfl) ?_
  refine s_run rfl rfl (rai rfl) ?_
  refine k_nc ?_
  refine k_ret ?_
  refine fin1r (v := .int _ _) rfl rfl ?_
  exact ⟨rfl, H.only⟩
theorem lTurned (k : Int) (n : Nat) (w : World) (hk : -1 ≤ k ∧ k < (n : Int)) (hn : n ≤ 1000) :
  Calls Try.prog 26 [.int .i64 k, .int .i64 n].toArray w fun e w' => e = .returned (.int .i64 (Gr.trn n k)) ∧ Only [] w w' := by
 have H := Heap.nil w
 unfold Gr.trn
 by_cases h0 : k < 0
 ·rw [if_pos h0]
  refine k_in (N := 12) Try.func26 rfl rfl rfl ?_
  refine k_sg ?_
  refine s_run rfl rfl (rai rfl) ?_
  refine k_nc ?_
  refine k_seq ?_
  refine k_sg ?_
  refine s_run rfl rfl (rmi rfl) ?_
  refine s_run rfl rfl (r_lssT rfl rfl (by omega)) ?_
  refine k_nc ?_
  refine k_t rfl ?_
  refine k_sg ?_
  refine s_run rfl rfl (rmi rfl) ?_
  refine s_run rfl rfl (rai rfl) ?_
  refine k_nc ?_
  refine k_ret ?_
  refine c_ret ?_
  refine fin1r (v := .int _ _) rfl rfl ?_
  exact ⟨rfl, H.only⟩
 ·rw [if_neg h0]
  refine k_in (N := 12) Try.func26 rfl rfl rfl ?_
  refine k_sg ?_
  refine s_run rfl rfl (rai rfl) ?_
  refine k_nc ?_
  refine k_seq ?_
  refine k_sg ?_
  refine s_run rfl rfl (rmi rfl) ?_
  refine s_run rfl rfl (r_lssF rfl rfl (by omega)) ?_
  refine k_nc ?_
  refine k_f rfl ?_
  refine k_skip ?_
  refine c_norm ?_
  refine k_sg ?_
  refine s_run rfl rfl (rmi rfl) ?_
  refine s_run rfl rfl (r_sub rfl rfl (wI (by omega))) ?_
  refine s_run rfl rfl (rmi rfl) ?_
  refine s_run rfl rfl (r_sub rfl rfl (wI (by omega))) ?_
  refine s_run rfl rfl (rai rfl) ?_
  refine k_nc ?_
  refine k_ret ?_
  refine fin1r (v := .int _ _) rfl rfl ?_
  exact ⟨rfl, H.only⟩
end Go.Proofs.Ytdgmlfpikgjnlaa
end

section
namespace Go.Proofs.Ytdgmlfpikgjnlaa
open Go.RowKit
set_option maxRecDepth 100000
set_option maxHeartbeats 4000000
def trnP (m : Nat) (x : NodeS) : List Int × List Int := (x.ps.map (Gr.trn m), x.ds)
theorem trn_bd {m : Nat} {p : Int} (hp : okP m p) : okP m (Gr.trn m p) := by
 unfold okP Gr.trn at *
 split <;> omega
theorem rt_of {g : GrS} (hnl : g.ns.length = g.m) (hb : rightB g = true) : Gr.Rt g.rs g.nodes := by
 have e : g.nodes.length = g.m := by simp [GrS.nodes, hnl]
 exact ⟨fun r hr => by
  have := right_roots hb r hr
  unfold okP at this
  rw [e]; exact this, fun x hx p hp => by
  unfold GrS.nodes at hx
  obtain ⟨y, hy, rfl⟩ := List.mem_map.1 hx
  have := right_ptrs hb y hy p hp
  unfold okP at this
  rw [e]; exact this⟩
/-- what is turned, is right and alike -/
theorem trn_right {g t : GrS} (hnl : g.ns.length = g.m) (hb : rightB g = true) (hx : ∀ x ∈ g.ns, x.ps.length = x.n ∧ x.ds.length = x.m) (hy : ∀ x ∈ t.ns, x.ps.length = x.n ∧ x.ds.length = x.m) (hm : t.m = g.m) (hr : t.rs = g.rs.map (Gr.trn g.m)) (hn : t.nodes = Gr.trnN g.nodes) : rightB t = true := by
 have e : g.nodes.length = g.m := by simp [GrS.nodes, hnl]
 refine decide_eq_true ⟨fun r hr' => ?_, fun x hx' => ?_⟩
 ·rw [hr] at hr'
  obtain ⟨q, hq, rfl⟩ := List.mem_map.1 hr'
  rw [hm]; exact trn_bd (right_roots hb q hq)
 ·have h1 : (x.ps, x.ds) ∈ Gr.trnN g.nodes := by rw [← hn]; exact List.mem_map.2 ⟨x, hx', rfl⟩
  unfold Gr.trnN at h1
  obtain ⟨y, hy', he⟩ := List.mem_map.1 h1
  rw [List.mem_reverse] at hy'
  unfold GrS.nodes at hy'
  obtain ⟨z, hz, rfl⟩ := List.mem_map.1 hy'
  injection he with he1 he2
  simp only at he1 he2
  have hok := (of_decide_eq_true hb).2 z hz
  obtain ⟨k1, k2, k3⟩ := hok
  obtain ⟨l1, l2⟩ := hx z hz
  obtain ⟨l3, l4⟩ := hy x hx'
  rw [hm]
  refine ⟨?_, ?_, fun p hp => ?_⟩
  ·rw [← l3, ← he1, List.length_map, l1]; exact k1
  ·rw [← l4, ← he2, l2]; exact k2
  ·rw [← he1] at hp
   obtain ⟨q, hq, rfl⟩ := List.mem_map.1 hp
   rw [e]; exact trn_bd (k3 q hq)
theorem trn_alike {g t : GrS} (hnl : g.ns.length = g.m) (hb : rightB g = true) (ht : rightB t = true) (hr : t.rs = g.rs.map (Gr.trn g.m)) (hn : t.nodes = Gr.trnN g.nodes) {oa ob : List Int} (ha : Gr.IsOrd (Gr.ptr g.nodes) g.rs oa) (hob : Gr.IsOrd (Gr.ptr t.nodes) t.rs ob) : Gr.canonR g.rs oa = Gr.canonR t.rs ob ∧ Gr.canonN g.nodes oa = Gr.canonN t.nodes ob := by
 have e : g.nodes.length = g.m := by simp [GrS.nodes, hnl]
 have hrt := rt_of hnl hb
 have h1 := Gr.turned_ord hrt ha
 have h2 := Gr.turned_canon hrt ha
 rw [e] at h1 h2
 rw [hr, hn] at hob
 have e2 := h1.same hob
 rw [hr, hn, ← e2]
 exact ⟨h2.1.symm, h2.2.symm⟩
theorem walk_GraphTurned (g : GrS) (w : World) (hg : GrOk w [] g) :
  Calls Try.prog 6 [.agg g.cells.toArray].toArray w fun e w' => e = .returned (.bool true) ∧ Below w.heap.size w w' := by
 have H := Heap.nil w
 have hF := fun W (h : Only [] w W) => lFew g W (hg.later h (by simp))
 cases fa : fewB g with
 | false =>
  rw [fa] at hF
  unfold GrS.cells at hF ⊢
  refine k_in (N := 98) Try.func6 rfl rfl rfl ?_
  refine k_sg ?_
  refine s_box H rfl rfl ?_
  intro p1 _ H'; clear H; have H := H'; clear H'
  refine s_run rfl rfl (rab rfl) ?_
  refine k_nc ?_
  refine k_seq ?_
  refine k_sg ?_
  refine s_call rfl (awake38 _) (ca13 rfl) ?_
  rintro e W1 ⟨rfl, H'⟩
  refine ⟨_, rfl, ?_⟩
  have H := H.same H'; clear H'
  refine s_run rfl rfl (r_notT rfl) ?_
  refine k_nc ?_
  refine k_f rfl ?_
  refine k_skip ?_
  refine c_norm ?_
  refine k_seq ?_
  refine k_sg ?_
  refine s_run rfl rfl (r_la H 0 rfl rfl rfl ag25 sz25) ?_
  refine s_call rfl (hF _ H.only) (ca14 rfl) ?_
  rintro e W1 ⟨rfl, H'⟩
  refine ⟨_, rfl, ?_⟩
  have H := H.same H'; clear H'
  refine s_run rfl rfl (r_notF rfl) ?_
  refine s_run rfl rfl (rmb rfl) ?_
  refine s_off rfl (g_off 14 (by kernel_rfl) rfl rfl) ?_
  refine s_off rfl (g_off 14 (by kernel_rfl) rfl rfl) ?_
  refine s_off rfl (g_off 14 (by kernel_rfl) rfl rfl) ?_
  refine s_off rfl (g_off 14 (by kernel_rfl) rfl rfl) ?_
  refine s_run rfl rfl (r_pkT (v := .bool _) rfl rfl) ?_
  refine k_nc ?_
  refine k_t rfl ?_
  refine k_sg ?_
  refine s_run rfl rfl (rab rfl) ?_
  refine k_nc ?_
  refine k_ret ?_
  refine c_ret ?_
  refine fin1r (v := .bool _) rfl rfl ?_
  exact ⟨rfl, H.below⟩
 | true =>
  rw [fa] at hF
  have sa := few_sm fa
  have hE := fun W (h : Only [] w W) => lRefE g W (hg.later h (by simp)) sa
  have hD := fun NA cN W' L (h : Heap w [] (ownN 2 (.slice NA g.m cN) g.m ((flatN g.ns).map C1.v) 40 :: L) W') => dRight (refG g NA cN) W' (ref_ok (hg.later h.only (by simp)) h 0 rfl)
  cases hb : rightB g with
  | false =>
   have hD2 := fun NA cN => (show rightB (refG g NA cN) = false from hb)
   simp only [hD2] at hD
   unfold GrS.cells at *
   unfold refG at *
   refine k_in (N := 98) Try.func6 rfl rfl rfl ?_
   refine k_sg ?_
   refine s_box H rfl rfl ?_
   intro p1 _ H'; clear H; have H := H'; clear H'
   refine s_run rfl rfl (rab rfl) ?_
   refine k_nc ?_
   refine k_seq ?_
   refine k_sg ?_
   refine s_call rfl (awake38 _) (ca13 rfl) ?_
   rintro e W1 ⟨rfl, H'⟩
   refine ⟨_, rfl, ?_⟩
   have H := H.same H'; clear H'
   refine s_run rfl rfl (r_notT rfl) ?_
   refine k_nc ?_
   refine k_f rfl ?_
   refine k_skip ?_
   refine c_norm ?_
   refine k_seq ?_
   refine k_sg ?_
   refine s_run rfl rfl (r_la H 0 rfl rfl rfl ag25 sz25) ?_
   refine s_call rfl (hF _ H.only) (ca14 rfl) ?_
   rintro e W1 ⟨rfl, H'⟩
   refine ⟨_, rfl, ?_⟩
   have H := H.same H'; clear H'
   refine s_run rfl rfl (r_notT rfl) ?_
   refine s_run rfl rfl (rmb rfl) ?_
   refine s_run rfl (g_on 14 (by kernel_rfl) rfl) (r_la H 0 rfl rfl rfl ag25 sz25) ?_
   refine s_call (g_on 14 (by kernel_rfl) rfl) (hE _ H.only) (ca15 rfl) ?_
   rintro e W1 ⟨NA, cN, rfl, H'⟩
   refine ⟨_, rfl, ?_⟩
   have H := H.more H'; clear H'
   refine s_call (g_on 14 (by kernel_rfl) rfl) (hD NA cN _ _ H) (ca18 rfl) ?_
   rintro e W1 ⟨rfl, H'⟩
   refine ⟨_, rfl, ?_⟩
   have H := H.same H'; clear H'
   refine s_run rfl (g_on 14 (by kernel_rfl) rfl) (r_notF rfl) ?_
   refine s_run rfl rfl (r_pkF (v := .bool _) rfl rfl) ?_
   refine k_nc ?_
   refine k_t rfl ?_
   refine k_sg ?_
   refine s_run rfl rfl (rab rfl) ?_
   refine k_nc ?_
   refine k_ret ?_
   refine c_ret ?_
   refine fin1r (v := .bool _) rfl rfl ?_
   exact ⟨rfl, H.below⟩
  | true =>
   have hD2 := fun NA cN => (show rightB (refG g NA cN) = true from hb)
   simp only [hD2] at hD
   have hrs := hg.rs
   have hrl := hg.rl
   have hnl := hg.nl
   have hn := sa.n
   have hm := sa.m
   have hW1 := fun W (h : Only [] w W) => gWords g W (hg.later h (by simp)) sa
   unfold GrS.cells at hF hE hD hW1 ⊢
   unfold refG at *
   refine k_in (N := 98) Try.func6 rfl rfl rfl ?_
   refine k_sg ?_
   refine s_box H rfl rfl ?_
   intro p1 _ H'; clear H; have H := H'; clear H'
   refine s_run rfl rfl (rab rfl) ?_
   refine k_nc ?_
   refine k_seq ?_
   refine k_sg ?_
   refine s_call rfl (awake38 _) (ca13 rfl) ?_
   rintro e W1 ⟨rfl, H'⟩
   refine ⟨_, rfl, ?_⟩
   have H := H.same H'; clear H'
   refine s_run rfl rfl (r_notT rfl) ?_
   refine k_nc ?_
   refine k_f rfl ?_
   refine k_skip ?_
   refine c_norm ?_
   refine k_seq ?_
   refine k_sg ?_
   refine s_run rfl rfl (r_la H 0 rfl rfl rfl ag25 sz25) ?_
   refine s_call rfl (hF _ H.only) (ca14 rfl) ?_
   rintro e W1 ⟨rfl, H'⟩
   refine ⟨_, rfl, ?_⟩
   have H := H.same H'; clear H'
   refine s_run rfl rfl (r_notT rfl) ?_
   refine s_run rfl rfl (rmb rfl) ?_
   refine s_run rfl (g_on 14 (by kernel_rfl) rfl) (r_la H 0 rfl rfl rfl ag25 sz25) ?_
   refine s_call (g_on 14 (by kernel_rfl) rfl) (hE _ H.only) (ca15 rfl) ?_
   rintro e W1 ⟨NA0, cN0, rfl, H'⟩
   refine ⟨_, rfl, ?_⟩
   have H := H.more H'; clear H'
   refine s_call (g_on 14 (by kernel_rfl) rfl) (hD NA0 cN0 _ _ H) (ca18 rfl) ?_
   rintro e W1 ⟨rfl, H'⟩
   refine ⟨_, rfl, ?_⟩
   have H := H.same H'; clear H'
   refine s_run rfl (g_on 14 (by kernel_rfl) rfl) (r_notT rfl) ?_
   refine s_run rfl rfl (r_pkF (v := .bool _) rfl rfl) ?_
   refine k_nc ?_
   refine k_f rfl ?_
   refine k_skip ?_
   refine c_norm ?_
   refine k_sg ?_
   refine s_run rfl rfl (r_fa0 rfl fo25_1) ?_
   refine s_run rfl rfl (r_lo H 1 rfl rfl rfl ag23) ?_
   refine s_run rfl rfl (r_len rfl Try.underlying23) ?_
   refine s_run rfl rfl (rai rfl) ?_
   refine k_nc ?_
   refine k_sg ?_
   refine s_al H rfl inf25 ?_
   intro p4 _ H'; clear H; have H := H'; clear H'
   refine k_nc ?_
   refine k_seq ?_
   refine k_sg ?_
   refine s_run rfl rfl (rai rfl) ?_
   refine k_nc ?_
   refine k_b ?_
   replace H := (H.order [0, 2, 1] rfl rfl : Heap w [] ([_, _] ++ [_]) _).drops
   replace H := H.own_nil 1 3
   replace H := H.order [1, 0, 2] rfl rfl
   refine k_loop (fun z f W => ∃ (i : Nat) (RA : Option Addr) (cR : Nat), i ≤ g.n ∧ z = g.n - i ∧ f 1 = ptr p1 ∧ f 3 = .int .i64 g.m ∧ f 4 = ptr p4 ∧ f 5 = .int .i64 i ∧ Heap w [] [blk p4 [.slice RA i cR, .slice none 0 0] 25, ownN 1 (.slice RA i cR) i (((g.rs.take i).map (Gr.trn g.m)).map (Value.int .i64)) 3, blk p1 [.slice g.A g.n g.c, .slice g.B g.m g.d] 25] W) g.n ⟨0, none, 0, by omega, rfl, rfl, rfl, rfl, rfl, H⟩ ?_
   clear H
   rintro z f W ⟨i, RA, cR, hi, rfl, f1, f3, f4, f5, H⟩
   obtain ⟨f, rfl⟩ := live4 f1 f3 f4 f5
   clear f1 f3 f4 f5
   by_cases hlt : i < g.n
   ·obtain ⟨r, hrr⟩ : ∃ r, g.rs[i]? = some r := ⟨_, List.getElem?_eq_getElem (by omega)⟩
    obtain ⟨b, o, hA, _, hrd⟩ := hrs (by omega)
    have hcell := hrd i r hrr
    have hok := right_roots hb r (List.mem_of_getElem? hrr)
    rw [hA] at H
    refine k_seq ?_
    refine k_sg ?_
    refine s_run rfl rfl (rmi rfl) ?_
    refine s_run rfl rfl (r_fa0 rfl fo25_0) ?_
    refine s_run rfl rfl (r_lo H 2 rfl rfl rfl ag22) ?_
    refine s_run rfl rfl (r_len rfl Try.underlying22) ?_
    refine s_run rfl rfl (r_lssT rfl rfl (by omega)) ?_
    refine k_nc ?_
    refine k_t rfl ?_
    refine k_skip ?_
    refine c_norm ?_
    refine k_seq ?_
    refine k_b ?_
    refine k_trS (A := [_]) mixed H [2] rfl ?_; have H' := H.drew; clear H; have H := H'; clear H'
    refine tqh 0 rfl rfl rfl (fun _ hS => r_fa0 rfl fo25_0) (H.subl [2] rfl rfl) ?_
    refine tqh 2 rfl rfl rfl (fun _ hS => r_fa0 rfl fo25_0) (H.subl [2] rfl rfl) ?_
    refine tqh 3 rfl rfl rfl (fun _ hS => r_lo hS 0 rfl rfl rfl ag22) (H.subl [2] rfl rfl) ?_
    refine tqh 4 rfl rfl rfl (fun _ hS => r_mv (v := .int _ _) rfl) (H.subl [2] rfl rfl) ?_
    refine tqh 5 rfl rfl rfl (fun _ hS => r_ix1o (i := i) rfl rfl (by omega) (by omega) Try.underlying22 sz3) (H.subl [2] rfl rfl) ?_
    refine tqh 6 rfl rfl rfl (fun _ hS => r_lr hS rfl hcell (by simp) ag3) (H.subl [2] rfl rfl) ?_
    refine tqh 7 rfl rfl rfl (fun _ hS => r_mv (v := .int _ _) rfl) (H.subl [2] rfl rfl) ?_
    refine t_up2 1 8 (by kernel_rfl) ?_ ?_
    ·refine up_mk rfl ?_
     refine s_run rfl rfl (r_lo H 0 rfl rfl rfl ag22) ?_
     refine k_nil ?_
     refine t_on (H.subl [2] rfl rfl) ?_
     refine t_up1 8 (by kernel_rfl) ?_
     refine up_mk rfl ?_
     refine s_call rfl (lTurned r g.m _ hok hm) (ca26 rfl) ?_
     rintro e W1 ⟨rfl, H'⟩
     refine ⟨_, rfl, ?_⟩
     have H := H.same H'; clear H'
     refine k_nil ?_
     refine t_on (H.subl [2] rfl rfl) ?_
     refine t_up1 9 (by kernel_rfl) ?_
     refine up_mk rfl ?_
     refine s_bsO (enc := (Value.int .i64)) (zs := [Gr.trn g.m r]) H rfl rfl rfl (by omega) (by kernel_rfl) Try.underlying22 inf3 ?_
     intro _ _ H'; clear H; have H := H'; clear H'
     refine k_nil ?_
     refine t_on (H.subl [3] rfl rfl) ?_
     refine t_up1 10 (by kernel_rfl) ?_
     refine up_mk rfl ?_
     refine s_apB (enc := (Value.int .i64)) (size := 1) H 1 rfl rfl rfl rfl (fun _ => rfl) (by omega) (by omega) Try.underlying22 inf3 rfl ?_
     intro RA' cR' _ H'; simp only [List.set_cons_zero, List.set_cons_succ, List.take_succ_cons, List.take_zero, List.drop_succ_cons, List.drop_zero, List.cons_append, List.nil_append, List.append_nil, List.length_cons, List.length_nil, Nat.reduceAdd] at H'; clear H; have H := H'; clear H'
     refine k_nil ?_
     refine t_on (H.subl [2] rfl rfl) ?_
     refine tqh 11 rfl rfl rfl (fun _ hS => r_fa0 rfl fo25_0) (H.subl [2] rfl rfl) ?_
     refine t_up1 12 (by kernel_rfl) ?_
     refine up_mk rfl ?_
     refine s_st (u := .slice _ _ _) H 0 rfl rfl rfl rfl rfl rfl sz22 ?_
     clear H; intro _ H; simp only [jA, jB, jC, jD, jE, jF, jG, jH, jI, jJ, jK, Nat.reduceAdd] at H
     refine k_nil ?_
     refine t_on (H.subl [2] rfl rfl) ?_
     refine t_done (by kernel_rfl) ?_
     refine b_norm ?_
     refine c_norm ?_
     refine k_rg ?_
     refine s_run rfl rfl (rmi rfl) ?_
     refine s_run rfl rfl (r_add rfl rfl (wI (by omega))) ?_
     refine s_run rfl rfl (rai rfl) ?_
     refine k_nil ?_
     refine c_round ?_
     refine ⟨_, _, ?_, rfl, i + 1, RA', cR', by omega, rfl, rfl, rfl, rfl, rfl, by rw [take_snoc _ _ _ _ hrr, hA]; exact H⟩
     omega
    ·refine up_mk rfl ?_
     refine s_call rfl (lTurned r g.m _ hok hm) (ca26 rfl) ?_
     rintro e W1 ⟨rfl, H'⟩
     refine ⟨_, rfl, ?_⟩
     have H := H.same H'; clear H'
     refine k_nil ?_
     refine t_on (H.subl [2] rfl rfl) ?_
     refine t_up2 1 9 (by kernel_rfl) ?_ ?_
     ·refine up_mk rfl ?_
      refine s_run rfl rfl (r_lo H 0 rfl rfl rfl ag22) ?_
      refine k_nil ?_
      refine t_on (H.subl [2] rfl rfl) ?_
      refine t_up1 9 (by kernel_rfl) ?_
      refine up_mk rfl ?_
      refine s_bsO (enc := (Value.int .i64)) (zs := [Gr.trn g.m r]) H rfl rfl rfl (by omega) (by kernel_rfl) Try.underlying22 inf3 ?_
      intro _ _ H'; clear H; have H := H'; clear H'
      refine k_nil ?_
      refine t_on (H.subl [3] rfl rfl) ?_
      refine t_up1 10 (by kernel_rfl) ?_
      refine up_mk rfl ?_
      refine s_apB (enc := (Value.int .i64)) (size := 1) H 1 rfl rfl rfl rfl (fun _ => rfl) (by omega) (by omega) Try.underlying22 inf3 rfl ?_
      intro RA' cR' _ H'; simp only [List.set_cons_zero, List.set_cons_succ, List.take_succ_cons, List.take_zero, List.drop_succ_cons, List.drop_zero, List.cons_append, List.nil_append, List.append_nil, List.length_cons, List.length_nil, Nat.reduceAdd] at H'; clear H; have H := H'; clear H'
      refine k_nil ?_
      refine t_on (H.subl [2] rfl rfl) ?_
      refine tqh 11 rfl rfl rfl (fun _ hS => r_fa0 rfl fo25_0) (H.subl [2] rfl rfl) ?_
      refine t_up1 12 (by kernel_rfl) ?_
      refine up_mk rfl ?_
      refine s_st (u := .slice _ _ _) H 0 rfl rfl rfl rfl rfl rfl sz22 ?_
      clear H; intro _ H; simp only [jA, jB, jC, jD, jE, jF, jG, jH, jI, jJ, jK, Nat.reduceAdd] at H
      refine k_nil ?_
      refine t_on (H.subl [2] rfl rfl) ?_
      refine t_done (by kernel_rfl) ?_
      refine b_norm ?_
      refine c_norm ?_
      refine k_rg ?_
      refine s_run rfl rfl (rmi rfl) ?_
      refine s_run rfl rfl (r_add rfl rfl (wI (by omega))) ?_
      refine s_run rfl rfl (rai rfl) ?_
      refine k_nil ?_
      refine c_round ?_
      refine ⟨_, _, ?_, rfl, i + 1, RA', cR', by omega, rfl, rfl, rfl, rfl, rfl, by rw [take_snoc _ _ _ _ hrr, hA]; exact H⟩
      omega
     ·refine up_mk rfl ?_
      refine s_bsO (enc := (Value.int .i64)) (zs := [Gr.trn g.m r]) H rfl rfl rfl (by omega) (by kernel_rfl) Try.underlying22 inf3 ?_
      intro _ _ H'; clear H; have H := H'; clear H'
      refine k_nil ?_
      refine t_on (H.subl [3] rfl rfl) ?_
      refine t_up1 1 (by kernel_rfl) ?_
      refine up_mk rfl ?_
      refine s_run rfl rfl (r_lo H 1 rfl rfl rfl ag22) ?_
      refine k_nil ?_
      refine t_on (H.subl [3] rfl rfl) ?_
      refine t_up1 10 (by kernel_rfl) ?_
      refine up_mk rfl ?_
      refine s_apB (enc := (Value.int .i64)) (size := 1) H 1 rfl rfl rfl rfl (fun _ => rfl) (by omega) (by omega) Try.underlying22 inf3 rfl ?_
      intro RA' cR' _ H'; simp only [List.set_cons_zero, List.set_cons_succ, List.take_succ_cons, List.take_zero, List.drop_succ_cons, List.drop_zero, List.cons_append, List.nil_append, List.append_nil, List.length_cons, List.length_nil, Nat.reduceAdd] at H'; clear H; have H := H'; clear H'
      refine k_nil ?_
      refine t_on (H.subl [2] rfl rfl) ?_
      refine tqh 11 rfl rfl rfl (fun _ hS => r_fa0 rfl fo25_0) (H.subl [2] rfl rfl) ?_
      refine t_up1 12 (by kernel_rfl) ?_
      refine up_mk rfl ?_
      refine s_st (u := .slice _ _ _) H 0 rfl rfl rfl rfl rfl rfl sz22 ?_
      clear H; intro _ H; simp only [jA, jB, jC, jD, jE, jF, jG, jH, jI, jJ, jK, Nat.reduceAdd] at H
      refine k_nil ?_
      refine t_on (H.subl [2] rfl rfl) ?_
      refine t_done (by kernel_rfl) ?_
      refine b_norm ?_
      refine c_norm ?_
      refine k_rg ?_
      refine s_run rfl rfl (rmi rfl) ?_
      refine s_run rfl rfl (r_add rfl rfl (wI (by omega))) ?_
      refine s_run rfl rfl (rai rfl) ?_
      refine k_nil ?_
      refine c_round ?_
      refine ⟨_, _, ?_, rfl, i + 1, RA', cR', by omega, rfl, rfl, rfl, rfl, rfl, by rw [take_snoc _ _ _ _ hrr, hA]; exact H⟩
      omega
   ·obtain rfl : i = g.n := by omega
    have etk : g.rs.take g.n = g.rs := by rw [← hrl]; exact List.take_length
    rw [etk] at H
    refine k_seq ?_
    refine k_sg ?_
    refine s_run rfl rfl (rmi rfl) ?_
    refine s_run rfl rfl (r_fa0 rfl fo25_0) ?_
    refine s_run rfl rfl (r_lo H 2 rfl rfl rfl ag22) ?_
    refine s_run rfl rfl (r_len rfl Try.underlying22) ?_
    refine s_run rfl rfl (r_lssF rfl rfl (by omega)) ?_
    refine k_nc ?_
    refine k_f rfl ?_
    refine k_exit ?_
    refine c_exit ?_
    refine c_exit ?_
    refine b_hit ?_
    refine c_norm ?_
    refine k_seq ?_
    refine k_sg ?_
    refine s_run rfl rfl (rmi rfl) ?_
    refine s_run rfl rfl (r_sub rfl rfl (wI (by omega))) ?_
    refine s_run rfl rfl (rai rfl) ?_
    refine k_nc ?_
    refine k_b ?_
    replace H := (H.own_nil 2 39).grp_nil
    replace H := H.order [2, 1, 0, 3, 4] rfl rfl
    refine k_loop (fun z f W => ∃ (r : Nat) (NA : Option Addr) (cN : Nat) (ns : List NodeS), r ≤ g.m ∧ z = r ∧ ns.length = g.m - r ∧ ns.map (fun x => (x.ps, x.ds)) = (g.ns.drop r).reverse.map (trnP g.m) ∧ (∀ x ∈ ns, x.n ≤ 1000 ∧ x.m ≤ 100000 ∧ x.ps.length = x.n ∧ Sees (Value.int .u64) w [] x.B x.ds ∧ x.ds.length = x.m) ∧ f 1 = ptr p1 ∧ f 3 = .int .i64 g.m ∧ f 4 = ptr p4 ∧ f 6 = .int .i64 ((r : Int) - 1) ∧ Heap w [] [blk p4 [.slice RA g.n cR, .slice NA (g.m - r) cN] 25, ownN 2 (.slice NA (g.m - r) cN) (g.m - r) ((flatN ns).map C1.v) 39, grp (ns.map nodeP), ownN 1 (.slice RA g.n cR) g.n ((g.rs.map (Gr.trn g.m)).map (Value.int .i64)) 3, blk p1 [.slice g.A g.n g.c, .slice g.B g.m g.d] 25] W) g.m ⟨g.m, none, 0, [], by omega, rfl, by simp, by rw [List.drop_of_length_le (by omega)]; rfl, by simp, rfl, rfl, rfl, rfl, by rw [Nat.sub_self]; exact H⟩ ?_
    clear H
    rintro z f W ⟨r, NA, cN, ns, hr, rfl, hnsl, hnsm, hnsb, f1, f3, f4, f6, H⟩
    cases z with
    | succ k =>
     obtain ⟨x, hx⟩ : ∃ x, g.ns[k]? = some x := ⟨_, List.getElem?_eq_getElem (by omega)⟩
     have hxm := List.mem_of_getElem? hx
     obtain ⟨b, o, hB, _, hrd⟩ := hg.ns.1 (by omega)
     have hc0 := hrd k x hx 0 _ rfl
     have hc1 := hrd k x hx 1 _ rfl
     have hxo := hg.ns.2 x hxm
     have hxn := (sa.p x hxm).1
     have hxd := (sa.p x hxm).2
     have hpl := hxo.pl
     have hxp := right_ptrs hb x hxm
     have hdrop : g.ns.drop k = x :: g.ns.drop (k + 1) := by
      obtain ⟨h1, h2⟩ := List.getElem?_eq_some_iff.1 hx
      rw [List.drop_eq_getElem_cons h1, h2]
     rw [show (((k + 1 : Nat) : Int) - 1) = (k : Int) by omega] at f6
     rw [hB] at H
     obtain ⟨f, rfl⟩ := live4 f1 f3 f4 f6
     clear f1 f3 f4 f6
     refine k_seq ?_
     refine k_sg ?_
     refine s_run rfl rfl (rmi rfl) ?_
     refine s_run rfl rfl (r_geqT rfl rfl (by omega)) ?_
     refine k_nc ?_
     refine k_t rfl ?_
     refine k_skip ?_
     refine c_norm ?_
     refine k_seq ?_
     refine k_b ?_
     refine k_sg ?_
     refine s_run rfl rfl (r_fa0 rfl fo25_1) ?_
     refine s_run rfl rfl (r_lo H 4 rfl rfl rfl ag23) ?_
     refine s_run rfl rfl (rmi rfl) ?_
     refine s_run rfl rfl (r_ix (i := k) rfl rfl (by omega) (by omega) Try.underlying23 sz39) ?_
     refine s_run rfl rfl (r_fa rfl fo39_1) ?_
     refine s_run rfl rfl (r_lr H rfl hc1 (by simp) ag37) ?_
     refine s_run rfl rfl (r_bd (bd39_1 _ _ _) rfl) ?_
     refine s_al H rfl inf39 ?_
     intro p7 _ H'; clear H; have H := H'; clear H'
     refine s_sw H 0 rfl rfl rfl rfl rfl rfl rfl sz39 ?_
     clear H; intro _ H; simp only [jA, jB, jC, jD, jE, jF, jG, jH, jI, jJ, jK, Nat.reduceAdd] at H
     refine k_nc ?_
     refine k_seq ?_
     refine k_sg ?_
     refine s_run rfl rfl (rai rfl) ?_
     refine k_nc ?_
     refine k_b ?_
     rw [← hB] at H
     replace H := H.own_nil 1 3
     replace H := H.order [1, 0, 2, 3, 4, 5, 6] rfl rfl
     refine k_loop (fun z f W => ∃ (j : Nat) (PA : Option Addr) (cP : Nat), j ≤ x.n ∧ z = x.n - j ∧ f 1 = ptr p1 ∧ f 3 = .int .i64 g.m ∧ f 4 = ptr p4 ∧ f 6 = .int .i64 k ∧ f 7 = ptr p7 ∧ f 8 = .int .i64 j ∧ Heap w [] [blk p7 [.slice PA j cP, .slice x.B x.m x.d] 39, ownN 1 (.slice PA j cP) j (((x.ps.take j).map (Gr.trn g.m)).map (Value.int .i64)) 3, blk p4 [.slice RA g.n cR, .slice NA (g.m - (k + 1)) cN] 25, ownN 2 (.slice NA (g.m - (k + 1)) cN) (g.m - (k + 1)) ((flatN ns).map C1.v) 39, grp (ns.map nodeP), ownN 1 (.slice RA g.n cR) g.n ((g.rs.map (Gr.trn g.m)).map (Value.int .i64)) 3, blk p1 [.slice g.A g.n g.c, .slice g.B g.m g.d] 25] W) x.n ⟨0, none, 0, by omega, rfl, rfl, rfl, rfl, rfl, rfl, rfl, H⟩ ?_
     clear H
     rintro z f W ⟨j, PA, cP, hj, rfl, f1, f3, f4, f6, f7, f8, H⟩
     rw [hB] at H
     obtain ⟨f, rfl⟩ := live6 f1 f3 f4 f6 f7 f8
     clear f1 f3 f4 f6 f7 f8
     by_cases hlj : j < x.n
     ·obtain ⟨q, hq⟩ : ∃ q, x.ps[j]? = some q := ⟨_, List.getElem?_eq_getElem (by omega)⟩
      obtain ⟨b2, o2, hA2, _, hrd2⟩ := hxo.ps (by omega)
      have hcell := hrd2 j q hq
      have hok := hxp q (List.mem_of_getElem? hq)
      rw [hA2] at hc0
      refine k_seq ?_
      refine k_sg ?_
      refine s_run rfl rfl (rmi rfl) ?_
      refine s_run rfl rfl (r_fa0 rfl fo25_1) ?_
      refine s_run rfl rfl (r_lo H 6 rfl rfl rfl ag23) ?_
      refine s_run rfl rfl (rmi rfl) ?_
      refine s_run rfl rfl (r_ix (i := k) rfl rfl (by omega) (by omega) Try.underlying23 sz39) ?_
      refine s_run rfl rfl (r_fa rfl fo39_0) ?_
      refine s_run rfl rfl (r_lr H rfl hc0 (by simp) ag22) ?_
      refine s_run rfl rfl (r_len rfl Try.underlying22) ?_
      refine s_run rfl rfl (r_lssT rfl rfl (by omega)) ?_
      refine k_nc ?_
      refine k_t rfl ?_
      refine k_skip ?_
      refine c_norm ?_
      refine k_seq ?_
      refine k_b ?_
      refine k_trS (A := [_]) mixed H [6] rfl ?_; have H' := H.drew; clear H; have H := H'; clear H'
      refine tqh 0 rfl rfl rfl (fun _ hS => r_fa0 rfl fo39_0) (H.subl [6] rfl rfl) ?_
      refine tqh 2 rfl rfl rfl (fun _ hS => r_fa0 rfl fo25_1) (H.subl [6] rfl rfl) ?_
      refine tqh 3 rfl rfl rfl (fun _ hS => r_lo hS 0 rfl rfl rfl ag23) (H.subl [6] rfl rfl) ?_
      refine tqh 4 rfl rfl rfl (fun _ hS => r_mv (v := .int _ _) rfl) (H.subl [6] rfl rfl) ?_
      refine tqh 5 rfl rfl rfl (fun _ hS => r_ix (i := k) rfl rfl (by omega) (by omega) Try.underlying23 sz39) (H.subl [6] rfl rfl) ?_
      refine tqh 6 rfl rfl rfl (fun _ hS => r_fa rfl fo39_0) (H.subl [6] rfl rfl) ?_
      refine tqh 7 rfl rfl rfl (fun _ hS => r_lr hS rfl hc0 (by simp) ag22) (H.subl [6] rfl rfl) ?_
      refine tqh 8 rfl rfl rfl (fun _ hS => r_mv (v := .int _ _) rfl) (H.subl [6] rfl rfl) ?_
      refine tqh 9 rfl rfl rfl (fun _ hS => r_ix1o (i := j) rfl rfl (by omega) (by omega) Try.underlying22 sz3) (H.subl [6] rfl rfl) ?_
      refine tqh 10 rfl rfl rfl (fun _ hS => r_lr hS rfl hcell (by simp) ag3) (H.subl [6] rfl rfl) ?_
      refine tqh 11 rfl rfl rfl (fun _ hS => r_mv (v := .int _ _) rfl) (H.subl [6] rfl rfl) ?_
      refine t_up2 1 12 (by kernel_rfl) ?_ ?_
      ·refine up_mk rfl ?_
       refine s_run rfl rfl (r_lo H 0 rfl rfl rfl ag22) ?_
       refine k_nil ?_
       refine t_on (H.subl [6] rfl rfl) ?_
       refine t_up1 12 (by kernel_rfl) ?_
       refine up_mk rfl ?_
       refine s_call rfl (lTurned q g.m _ hok hm) (ca26 rfl) ?_
       rintro e W1 ⟨rfl, H'⟩
       refine ⟨_, rfl, ?_⟩
       have H := H.same H'; clear H'
       refine k_nil ?_
       refine t_on (H.subl [6] rfl rfl) ?_
       refine t_up1 13 (by kernel_rfl) ?_
       refine up_mk rfl ?_
       refine s_bsO (enc := (Value.int .i64)) (zs := [Gr.trn g.m q]) H rfl rfl rfl (by omega) (by kernel_rfl) Try.underlying22 inf3 ?_
       intro _ _ H'; clear H; have H := H'; clear H'
       refine k_nil ?_
       refine t_on (H.subl [7] rfl rfl) ?_
       refine t_up1 14 (by kernel_rfl) ?_
       refine up_mk rfl ?_
       refine s_apB (enc := (Value.int .i64)) (size := 1) H 1 rfl rfl rfl rfl (fun _ => rfl) (by omega) (by omega) Try.underlying22 inf3 rfl ?_
       intro PA' cP' _ H'; simp only [List.set_cons_zero, List.set_cons_succ, List.take_succ_cons, List.take_zero, List.drop_succ_cons, List.drop_zero, List.cons_append, List.nil_append, List.append_nil, List.length_cons, List.length_nil, Nat.reduceAdd] at H'; clear H; have H := H'; clear H'
       refine k_nil ?_
       refine t_on (H.subl [6] rfl rfl) ?_
       refine tqh 15 rfl rfl rfl (fun _ hS => r_fa0 rfl fo39_0) (H.subl [6] rfl rfl) ?_
       refine t_up1 16 (by kernel_rfl) ?_
       refine up_mk rfl ?_
       refine s_st (u := .slice _ _ _) H 0 rfl rfl rfl rfl rfl rfl sz22 ?_
       clear H; intro _ H; simp only [jA, jB, jC, jD, jE, jF, jG, jH, jI, jJ, jK, Nat.reduceAdd] at H
       refine k_nil ?_
       refine t_on (H.subl [6] rfl rfl) ?_
       refine t_done (by kernel_rfl) ?_
       refine b_norm ?_
       refine c_norm ?_
       refine k_rg ?_
       refine s_run rfl rfl (rmi rfl) ?_
       refine s_run rfl rfl (r_add rfl rfl (wI (by omega))) ?_
       refine s_run rfl rfl (rai rfl) ?_
       refine k_nil ?_
       refine c_round ?_
       refine ⟨_, _, ?_, rfl, j + 1, PA', cP', by omega, rfl, rfl, rfl, rfl, rfl, rfl, rfl, by rw [take_snoc _ _ _ _ hq, hB]; exact H⟩
       omega
      ·refine up_mk rfl ?_
       refine s_call rfl (lTurned q g.m _ hok hm) (ca26 rfl) ?_
       rintro e W1 ⟨rfl, H'⟩
       refine ⟨_, rfl, ?_⟩
       have H := H.same H'; clear H'
       refine k_nil ?_
       refine t_on (H.subl [6] rfl rfl) ?_
       refine t_up2 1 13 (by kernel_rfl) ?_ ?_
       ·refine up_mk rfl ?_
        refine s_run rfl rfl (r_lo H 0 rfl rfl rfl ag22) ?_
        refine k_nil ?_
        refine t_on (H.subl [6] rfl rfl) ?_
        refine t_up1 13 (by kernel_rfl) ?_
        refine up_mk rfl ?_
        refine s_bsO (enc := (Value.int .i64)) (zs := [Gr.trn g.m q]) H rfl rfl rfl (by omega) (by kernel_rfl) Try.underlying22 inf3 ?_
        intro _ _ H'; clear H; have H := H'; clear H'
        refine k_nil ?_
        refine t_on (H.subl [7] rfl rfl) ?_
        refine t_up1 14 (by kernel_rfl) ?_
        refine up_mk rfl ?_
        refine s_apB (enc := (Value.int .i64)) (size := 1) H 1 rfl rfl rfl rfl (fun _ => rfl) (by omega) (by omega) Try.underlying22 inf3 rfl ?_
        intro PA' cP' _ H'; simp only [List.set_cons_zero, List.set_cons_succ, List.take_succ_cons, List.take_zero, List.drop_succ_cons, List.drop_zero, List.cons_append, List.nil_append, List.append_nil, List.length_cons, List.length_nil, Nat.reduceAdd] at H'; clear H; have H := H'; clear H'
        refine k_nil ?_
        refine t_on (H.subl [6] rfl rfl) ?_
        refine tqh 15 rfl rfl rfl (fun _ hS => r_fa0 rfl fo39_0) (H.subl [6] rfl rfl) ?_
        refine t_up1 16 (by kernel_rfl) ?_
        refine up_mk rfl ?_
        refine s_st (u := .slice _ _ _) H 0 rfl rfl rfl rfl rfl rfl sz22 ?_
        clear H; intro _ H; simp only [jA, jB, jC, jD, jE, jF, jG, jH, jI, jJ, jK, Nat.reduceAdd] at H
        refine k_nil ?_
        refine t_on (H.subl [6] rfl rfl) ?_
        refine t_done (by kernel_rfl) ?_
        refine b_norm ?_
        refine c_norm ?_
        refine k_rg ?_
        refine s_run rfl rfl (rmi rfl) ?_
        refine s_run rfl rfl (r_add rfl rfl (wI (by omega))) ?_
        refine s_run rfl rfl (rai rfl) ?_
        refine k_nil ?_
        refine c_round ?_
        refine ⟨_, _, ?_, rfl, j + 1, PA', cP', by omega, rfl, rfl, rfl, rfl, rfl, rfl, rfl, by rw [take_snoc _ _ _ _ hq, hB]; exact H⟩
        omega
       ·refine up_mk rfl ?_
        refine s_bsO (enc := (Value.int .i64)) (zs := [Gr.trn g.m q]) H rfl rfl rfl (by omega) (by kernel_rfl) Try.underlying22 inf3 ?_
        intro _ _ H'; clear H; have H := H'; clear H'
        refine k_nil ?_
        refine t_on (H.subl [7] rfl rfl) ?_
        refine t_up1 1 (by kernel_rfl) ?_
        refine up_mk rfl ?_
        refine s_run rfl rfl (r_lo H 1 rfl rfl rfl ag22) ?_
        refine k_nil ?_
        refine t_on (H.subl [7] rfl rfl) ?_
        refine t_up1 14 (by kernel_rfl) ?_
        refine up_mk rfl ?_
        refine s_apB (enc := (Value.int .i64)) (size := 1) H 1 rfl rfl rfl rfl (fun _ => rfl) (by omega) (by omega) Try.underlying22 inf3 rfl ?_
        intro PA' cP' _ H'; simp only [List.set_cons_zero, List.set_cons_succ, List.take_succ_cons, List.take_zero, List.drop_succ_cons, List.drop_zero, List.cons_append, List.nil_append, List.append_nil, List.length_cons, List.length_nil, Nat.reduceAdd] at H'; clear H; have H := H'; clear H'
        refine k_nil ?_
        refine t_on (H.subl [6] rfl rfl) ?_
        refine tqh 15 rfl rfl rfl (fun _ hS => r_fa0 rfl fo39_0) (H.subl [6] rfl rfl) ?_
        refine t_up1 16 (by kernel_rfl) ?_
        refine up_mk rfl ?_
        refine s_st (u := .slice _ _ _) H 0 rfl rfl rfl rfl rfl rfl sz22 ?_
        clear H; intro _ H; simp only [jA, jB, jC, jD, jE, jF, jG, jH, jI, jJ, jK, Nat.reduceAdd] at H
        refine k_nil ?_
        refine t_on (H.subl [6] rfl rfl) ?_
        refine t_done (by kernel_rfl) ?_
        refine b_norm ?_
        refine c_norm ?_
        refine k_rg ?_
        refine s_run rfl rfl (rmi rfl) ?_
        refine s_run rfl rfl (r_add rfl rfl (wI (by omega))) ?_
        refine s_run rfl rfl (rai rfl) ?_
        refine k_nil ?_
        refine c_round ?_
        refine ⟨_, _, ?_, rfl, j + 1, PA', cP', by omega, rfl, rfl, rfl, rfl, rfl, rfl, rfl, by rw [take_snoc _ _ _ _ hq, hB]; exact H⟩
        omega
     ·obtain rfl : j = x.n := by omega
      have etp : x.ps.take x.n = x.ps := by rw [← hpl]; exact List.take_length
      rw [etp] at H
      refine k_seq ?_
      refine k_sg ?_
      refine s_run rfl rfl (rmi rfl) ?_
      refine s_run rfl rfl (r_fa0 rfl fo25_1) ?_
      refine s_run rfl rfl (r_lo H 6 rfl rfl rfl ag23) ?_
      refine s_run rfl rfl (rmi rfl) ?_
      refine s_run rfl rfl (r_ix (i := k) rfl rfl (by omega) (by omega) Try.underlying23 sz39) ?_
      refine s_run rfl rfl (r_fa rfl fo39_0) ?_
      refine s_run rfl rfl (r_lr H rfl hc0 (by simp) ag22) ?_
      refine s_run rfl rfl (r_len rfl Try.underlying22) ?_
      refine s_run rfl rfl (r_lssF rfl rfl (by omega)) ?_
      refine k_nc ?_
      refine k_f rfl ?_
      refine k_exit ?_
      refine c_exit ?_
      refine c_exit ?_
      refine b_hit ?_
      refine c_norm ?_
      refine k_rg ?_
      refine s_run rfl rfl (r_fa0 rfl fo25_1) ?_
      refine s_run rfl rfl (r_lo H 2 rfl rfl rfl ag23) ?_
      refine s_run rfl rfl (r_la H 0 rfl rfl rfl ag39 sz39) ?_
      refine s_appN (enc := C1.v) (zs := [C1.s PA x.n cP, C1.s x.B x.m x.d]) H 3 rfl rfl rfl rfl C1.one (by omega) (by kernel_rfl) rfl rfl rfl (by omega) Try.underlying23 inf39 rfl ?_
      intro _ NA' cN' _ H'; simp only [List.set_cons_zero, List.set_cons_succ, List.take_succ_cons, List.take_zero, List.drop_succ_cons, List.drop_zero, List.cons_append, List.nil_append, List.append_nil, List.length_cons, List.length_nil, Nat.reduceAdd] at H'; clear H; have H := H'; clear H'
      refine s_run rfl rfl (r_fa0 rfl fo25_1) ?_
      refine s_st (u := .slice _ _ _) H 2 rfl rfl rfl rfl rfl rfl sz23 ?_
      clear H; intro _ H; simp only [jA, jB, jC, jD, jE, jF, jG, jH, jI, jJ, jK, Nat.reduceAdd] at H
      refine k_nil ?_
      refine b_norm ?_
      refine c_norm ?_
      refine k_rg ?_
      refine s_run rfl rfl (rmi rfl) ?_
      refine s_run rfl rfl (r_sub rfl rfl (wI (by omega))) ?_
      refine s_run rfl rfl (rai rfl) ?_
      refine k_nil ?_
      refine c_round ?_
      rw [← hB] at H
      replace H := (H.order [1, 4, 2, 3, 5, 6, 0] rfl rfl : Heap w [] ([_] ++ [_, _, _, _, _, _]) _).wrap
      replace H := H.grp_snoc (E := nodeP (NodeS.mk PA x.n cP (x.ps.map (Gr.trn g.m)) x.B x.m x.d x.ds))
      replace H := (H.order [1, 2, 0, 3, 4, 5] rfl rfl : Heap w [] ([_, _, _, _, _] ++ [_]) _).drops
      have e1 : ns.map nodeP ++ [nodeP (NodeS.mk PA x.n cP (x.ps.map (Gr.trn g.m)) x.B x.m x.d x.ds)] = (ns ++ [NodeS.mk PA x.n cP (x.ps.map (Gr.trn g.m)) x.B x.m x.d x.ds]).map nodeP := by simp
      rw [e1] at H
      have e2 := flatN_snoc ns (NodeS.mk PA x.n cP (x.ps.map (Gr.trn g.m)) x.B x.m x.d x.ds)
      have e3 : g.m - (k + 1) + 1 = g.m - k := by omega
      refine ⟨_, _, ?_, rfl, k, some ⟨NA', 0, none⟩, cN', ns ++ [NodeS.mk PA x.n cP (x.ps.map (Gr.trn g.m)) x.B x.m x.d x.ds], by omega, rfl, by rw [List.length_append, hnsl]; exact e3, ?_, fun z hz => ?_, rfl, rfl, rfl, rfl, ?_⟩
      ·omega
      ·rw [hdrop, List.reverse_cons, List.map_append, List.map_append, hnsm]; rfl
      ·rcases List.mem_append.1 hz with hz | hz
       ·exact hnsb z hz
       ·rw [List.mem_singleton.1 hz]; exact ⟨hxn, hxd, by show (x.ps.map _).length = _; rw [List.length_map]; exact hpl, hxo.ds, hxo.dl⟩
      ·rw [e2, ← e3]; exact H
    | zero =>
     rw [List.drop_zero] at hnsm
     rw [Nat.sub_zero] at hnsl H
     have hNs : ns.map (fun x => (x.ps, x.ds)) = Gr.trnN g.nodes := by
      rw [hnsm]
      unfold Gr.trnN GrS.nodes trnP
      rw [← List.map_reverse, List.map_map, List.length_map, hnl]
      rfl
     have htr : ∀ p, okP g.m p → -9223372036854775808 ≤ Gr.trn g.m p ∧ Gr.trn g.m p ≤ 9223372036854775807 := fun p hp => by
      have := trn_bd hp; unfold okP at this; omega
     replace H := H.order [3, 1, 2, 0, 4] rfl rfl
     have hT := fun W' L (h : Heap w [] (ownN 1 (.slice RA g.n cR) g.n ((g.rs.map (Gr.trn g.m)).map (Value.int .i64)) 3 :: ownN 2 (.slice NA g.m cN) g.m ((flatN ns).map C1.v) 39 :: grp (ns.map nodeP) :: L) W') => made_okP (n := g.n) (m := g.m) (by rw [List.length_map, hrl]) hnsl h (by omega) (by omega) (fun p hp => by
      obtain ⟨z, hz, rfl⟩ := List.mem_map.1 hp
      exact htr z (right_roots hb z hz)) (fun x hx => by
      obtain ⟨h1, h2, h20, h21, h22⟩ := hnsb x hx
      have h3 : (x.ps, x.ds) ∈ g.ns.reverse.map (trnP g.m) := by rw [← hnsm]; exact List.mem_map.2 ⟨x, hx, rfl⟩
      obtain ⟨y, hy, he⟩ := List.mem_map.1 h3
      rw [List.mem_reverse] at hy
      unfold trnP at he
      injection he with he1 he2
      refine ⟨by omega, h2, fun p hp => ?_, fun p hp => ?_, h21.later h.only (by simp), h22⟩
      ·rw [← he1] at hp
       obtain ⟨z, hz, rfl⟩ := List.mem_map.1 hp
       exact htr z (right_ptrs hb y hy z hz)
      ·rw [← he2] at hp
       exact (hg.ns.2 y hy).db p hp)
     have ht : rightB ⟨RA, g.n, cR, g.rs.map (Gr.trn g.m), NA, g.m, cN, ns⟩ = true := trn_right hnl hb (fun x hx => ⟨(hg.ns.2 x hx).pl, (hg.ns.2 x hx).dl⟩) (fun x hx => ⟨(hnsb x hx).2.2.1, (hnsb x hx).2.2.2.2⟩) rfl rfl hNs
     have st : Sm ⟨RA, g.n, cR, g.rs.map (Gr.trn g.m), NA, g.m, cN, ns⟩ := ⟨hn, hm, fun x hx => ⟨(hnsb x hx).1, (hnsb x hx).2.1⟩⟩
     have hAl := fun W' L h => (gAlike g ⟨RA, g.n, cR, g.rs.map (Gr.trn g.m), NA, g.m, cN, ns⟩ W' (hg.later (Heap.only h) (by simp)) (hT W' L h) sa st).mono (R' := fun e w' => e = .returned (.bool true) ∧ Only [] W' w') fun e w' ⟨⟨r, he, _, h1⟩, ho⟩ => ⟨by
      obtain ⟨oa, ob, hoa, hob, hr⟩ := h1 (by rw [hb, ht]; rfl)
      rw [he, hr, decide_eq_true (trn_alike hnl hb ht rfl hNs hoa hob)], ho⟩
     have hW2 := fun W' L h => gWords ⟨RA, g.n, cR, g.rs.map (Gr.trn g.m), NA, g.m, cN, ns⟩ W' (hT W' L h) st
     have ewo : wordsN (GrS.nodes ⟨RA, g.n, cR, g.rs.map (Gr.trn g.m), NA, g.m, cN, ns⟩) = wordsN g.nodes := by
      rw [← wordsN_trn g.nodes, ← hNs]; rfl
     rw [ewo] at hW2
     generalize wordsN g.nodes = wo at hW1 hW2
     unfold GrS.cells at hAl hW2
     obtain ⟨f, rfl⟩ := live4 f1 f3 f4 f6
     clear f1 f3 f4 f6
     refine k_seq ?_
     refine k_sg ?_
     refine s_run rfl rfl (rmi rfl) ?_
     refine s_run rfl rfl (r_geqF rfl rfl (by omega)) ?_
     refine k_nc ?_
     refine k_f rfl ?_
     refine k_exit ?_
     refine c_exit ?_
     refine c_exit ?_
     refine b_hit ?_
     refine c_norm ?_
     refine k_seq ?_
     refine k_q mixed (by kernel_rfl) H ?_
     refine q_run rfl rfl (fun _ H => r_la H 4 rfl rfl rfl ag25 sz25) ?_
     refine q_run rfl rfl (fun _ H => r_la H 3 rfl rfl rfl ag25 sz25) ?_
     refine q_call rfl rfl (fun _ H => hAl _ _ H) (ca20 rfl) ?_
     refine q_run rfl rfl (fun _ H => r_mv (v := .bool _) rfl) ?_
     refine q_run rfl (g_on 91 (by kernel_rfl) rfl) (fun _ H => r_la H 3 rfl rfl rfl ag25 sz25) ?_
     refine q_call rfl (g_on 91 (by kernel_rfl) rfl) (fun _ H => hW2 _ _ H) (ca27 rfl) ?_
     refine q_run rfl (g_on 91 (by kernel_rfl) rfl) (fun _ H => r_la H 4 rfl rfl rfl ag25 sz25) ?_
     refine q_call rfl (g_on 91 (by kernel_rfl) rfl) (fun _ H => hW1 _ H.only) (ca27 rfl) ?_
     refine q_run rfl (g_on 91 (by kernel_rfl) rfl) (fun _ H => r_eqlT rfl rfl (by omega)) ?_
     refine q_run rfl rfl (fun _ H => r_pkT (v := .bool _) rfl rfl) ?_
     refine q_run rfl rfl (fun _ H => r_as (v := .bool _) rfl) ?_
     refine q_nil ?_
     intro _ H'; clear H; have H := H'; clear H'
     refine c_norm ?_
     refine k_ret ?_
     refine fin1r (v := .bool _) rfl rfl ?_
     exact ⟨rfl, H.below⟩
end Go.Proofs.Ytdgmlfpikgjnlaa
end

section
namespace Go.Proofs.Ytdgmlfpikgjnlaa.lGraphTurned
open Go.ChangeShapes Go.WideShapes Go.ChangeAt Go.RowKit
theorem own : ownKnob Try.prog.godebug = none := by kernel_rfl
theorem laidOut : laidOutB Try.prog = true := by kernel_rfl
set_option maxRecDepth 100000 in
theorem lifted (os : Os) (started : os.Started) (H : Type) (enc : TypeId × Value → H) :
  ReturnsInHanded {} Try.checked os 6 .any (Rows.graphTurnedSpec.pre6 enc Try.prog Try.f6 Rows.graphTurnedRow.domain false) (Rows.graphTurnedSpec.post enc Try.prog Try.f6 false true false false) := by
 refine returnsInHanded_of_change (C := Try.checked) own started (by kernel_rfl) Try.func6
  (ChangeSpec.witness6 (enc := enc) (C := Try.checked) false ⟨#[], #[.agg #[.slice none 0 0, .slice none 0 0]], []⟩ 8 (by kernel_rfl) (by kernel_rfl) (by kernel_rfl) (by kernel_rfl)) ?_
 intro W base args ds gs before hval0 hW hcnd _
 have hval : ∀ (j : Nat) t v, Try.f6.params[j]? = some t → args[j]? = some v → Value.okWide Try.prog W .any base t v := hval0
 have hW' := hW
 obtain ⟨p, q, hA0, hV, rfl, hfz, hnd⟩ := hW
 have hA : DataW.TrodAll enc Try.prog W 0 (fun _ => true) true Try.f6.params.toList args.toList ds p := hA0
 rw [Try.params6] at hA hval
 obtain ⟨v0, vs0, d0, ds0, p0, q0, hargs, rfl, rfl, h0, r0⟩ := trodAll_cons hA
 obtain ⟨rfl, rfl, rfl⟩ := trodAll_nil r0
 obtain rfl : args = #[v0] := by cases args; simp_all
 obtain ⟨rfl, rfl⟩ := trodVars_none hV
 have k0 := h0
 have lt0 : ∀ x ∈ p0, x.block < W.heap.size := by obtain ⟨m, hm⟩ := k0; exact DataW.trod_lt m _ _ _ hm
 obtain ⟨x0, rfl, w0⟩ := open_graph W base v0 d0 p0 (hval 0 25 v0 rfl rfl) h0
 clear hA0 hval0
 refine (walk_GraphTurned x0 W w0).mono fun e W' ⟨he, bel⟩ => ?_
 subst he
 exact ⟨_, rfl, _, _, _, [], _, [], hW', trodAll_mk1 (shut_bool Try.underlying4 _), (trodAll_cons_mk (Below.trod laidOut (by kernel_rfl) (of_decide_eq_true (by kernel_rfl)) k0 bel lt0) trodAll_mk0), rfl, bel.frame _, fun h => by cases h⟩
theorem over : Rows.graphTurnedRow.holds Try.pinned (OpenSpec.ofChange Rows.graphTurnedSpec) :=
 OpenClaim.holds_of_wide 6 Try.f6 rfl rfl rfl rfl rfl rfl rfl ⟨rfl, rfl, rfl, rfl, rfl⟩ rfl rfl rfl rfl rfl (by kernel_rfl) Try.func6 (by kernel_rfl)
  (of_decide_eq_true (by kernel_rfl)) (by unfold Func.isWrapper; first | (rw [if_pos (by decide +kernel)]; kernel_rfl) | (rw [if_neg (by decide +kernel)]; exact ⟨rfl, rfl⟩))
  (fun os started H enc _ => lifted os started H enc)
theorem proved : Rows.GraphTurnedSaid := over
#print axioms proved
end Go.Proofs.Ytdgmlfpikgjnlaa.lGraphTurned
end
