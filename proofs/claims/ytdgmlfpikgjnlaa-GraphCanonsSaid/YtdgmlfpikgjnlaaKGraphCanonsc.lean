/- Parts of the proof, one behind the other. -/
import Derived.Test.YtdgmlfpikgjnlaaKGraphCanonsb
set_option linter.unusedSimpArgs false
set_option linter.unusedVariables false
section
namespace Go.Proofs.Ytdgmlfpikgjnlaa
open Go.RowKit
set_option maxRecDepth 100000
set_option maxHeartbeats 2000000
theorem eqI (A B : Option Addr) (n c m d : Nat) (xs ys : List Int) (w : World) (hx : Sees (Value.int .i64) w [] A xs) (hy : Sees (Value.int .i64) w [] B ys) (lx : xs.length = n) (ly : ys.length = m) (hn : n ≤ 100000) (hm : m ≤ 100000) :
  Calls Try.prog 47 [.slice A n c, .slice B m d].toArray w fun e w' => e = .returned (.bool (eqB xs ys)) ∧ Only [] w w' := by
 have H := Heap.nil w
 by_cases hnm : n = m
 ·subst hnm
  refine k_in (N := 26) Try.func47 rfl rfl rfl ?_
  refine k_sg ?_
  refine s_run rfl rfl (rab rfl) ?_
  refine k_nc ?_
  refine k_seq ?_
  refine k_sg ?_
  refine s_run rfl rfl (rms rfl) ?_
  refine s_run rfl rfl (r_len rfl Try.underlying22) ?_
  refine s_run rfl rfl (rms rfl) ?_
  refine s_run rfl rfl (r_len rfl Try.underlying22) ?_
  refine s_run rfl rfl (r_neqF rfl rfl (by omega)) ?_
  refine k_nc ?_
  refine k_f rfl ?_
  refine k_skip ?_
  refine c_norm ?_
  refine k_seq ?_
  refine k_sg ?_
  refine s_run rfl rfl (rms rfl) ?_
  refine s_run rfl rfl (r_len rfl Try.underlying22) ?_
  refine s_run rfl rfl (rmi rfl) ?_
  refine k_nc ?_
  refine k_b ?_
  refine k_loop (fun z f W => ∃ i : Nat, i ≤ n ∧ z = n - i ∧ xs.take i = ys.take i ∧ f 0 = .slice A n c ∧ f 1 = .slice B n d ∧ f 12 = .int .i64 n ∧ f 13 = .int .i64 i ∧ Heap w [] [] W) n ⟨0, by omega, rfl, rfl, rfl, rfl, rfl, rfl, H⟩ ?_
  clear H
  rintro z f W ⟨i, hi, rfl, he, f0, f1, f12, f13, H⟩
  by_cases hlt : i < n
  ·obtain ⟨x, hx1⟩ : ∃ x, xs[i]? = some x := ⟨_, List.getElem?_eq_getElem (by omega)⟩
   obtain ⟨y, hy1⟩ : ∃ y, ys[i]? = some y := ⟨_, List.getElem?_eq_getElem (by omega)⟩
   obtain ⟨b, o, hA, _, hrx⟩ := hx (by omega)
   obtain ⟨b2, o2, hB, _, hry⟩ := hy (by omega)
   have hcx := hrx i x hx1
   have hcy := hry i y hy1
   rw [hA] at f0
   rw [hB] at f1
   obtain ⟨f, rfl⟩ := live4 f0 f1 f12 f13
   clear f0 f1 f12 f13
   by_cases hxy : x = y
   ·refine k_sg ?_
    refine s_run rfl rfl (r_lssT rfl rfl (by omega)) ?_
    refine k_nc ?_
    refine k_seq ?_
    refine k_t rfl ?_
    refine k_skip ?_
    refine c_norm ?_
    refine k_seq ?_
    refine k_b ?_
    refine k_sg ?_
    refine s_run rfl rfl (rmi rfl) ?_
    refine s_run rfl rfl (rai rfl) ?_
    refine k_nc ?_
    refine k_seq ?_
    refine k_q mixed (by kernel_rfl) H ?_
    refine q_run rfl rfl (fun _ H => r_mv (v := .slice _ _ _) rfl) ?_
    refine q_run rfl rfl (fun _ H => r_mv (v := .int _ _) rfl) ?_
    refine q_run rfl rfl (fun _ H => r_ix1o (i := i) rfl rfl (by omega) (by omega) Try.underlying22 sz3) ?_
    refine q_run rfl rfl (fun _ H => r_lr H rfl hcx (by simp) ag3) ?_
    refine q_run rfl rfl (fun _ H => r_mv (v := .slice _ _ _) rfl) ?_
    refine q_run rfl rfl (fun _ H => r_mv (v := .int _ _) rfl) ?_
    refine q_run rfl rfl (fun _ H => r_ix1o (i := i) rfl rfl (by omega) (by omega) Try.underlying22 sz3) ?_
    refine q_run rfl rfl (fun _ H => r_lr H rfl hcy (by simp) ag3) ?_
    refine q_run rfl rfl (fun _ H => r_neqF rfl rfl (by omega)) ?_
    refine q_nil ?_
    intro _ H'; clear H; have H := H'; clear H'
    refine c_norm ?_
    refine k_f rfl ?_
    refine k_skip ?_
    refine b_norm ?_
    refine c_norm ?_
    refine k_rg ?_
    refine s_run rfl rfl (r_add rfl rfl (wI (by omega))) ?_
    refine s_run rfl rfl (rmi rfl) ?_
    refine k_nil ?_
    refine c_round ?_
    refine ⟨_, _, ?_, rfl, i + 1, by omega, rfl, by rw [List.take_add_one, List.take_add_one, he, hx1, hy1, hxy], by rw [hA]; rfl, by rw [hB]; rfl, rfl, rfl, H⟩
    omega
   ·rw [eqB_no xs ys (fun h => hxy (by rw [h, hy1] at hx1; injection hx1 with hx1; exact hx1.symm))]
    refine k_sg ?_
    refine s_run rfl rfl (r_lssT rfl rfl (by omega)) ?_
    refine k_nc ?_
    refine k_seq ?_
    refine k_t rfl ?_
    refine k_skip ?_
    refine c_norm ?_
    refine k_seq ?_
    refine k_b ?_
    refine k_sg ?_
    refine s_run rfl rfl (rmi rfl) ?_
    refine s_run rfl rfl (rai rfl) ?_
    refine k_nc ?_
    refine k_seq ?_
    refine k_q mixed (by kernel_rfl) H ?_
    refine q_run rfl rfl (fun _ H => r_mv (v := .slice _ _ _) rfl) ?_
    refine q_run rfl rfl (fun _ H => r_mv (v := .int _ _) rfl) ?_
    refine q_run rfl rfl (fun _ H => r_ix1o (i := i) rfl rfl (by omega) (by omega) Try.underlying22 sz3) ?_
    refine q_run rfl rfl (fun _ H => r_lr H rfl hcx (by simp) ag3) ?_
    refine q_run rfl rfl (fun _ H => r_mv (v := .slice _ _ _) rfl) ?_
    refine q_run rfl rfl (fun _ H => r_mv (v := .int _ _) rfl) ?_
    refine q_run rfl rfl (fun _ H => r_ix1o (i := i) rfl rfl (by omega) (by omega) Try.underlying22 sz3) ?_
    refine q_run rfl rfl (fun _ H => r_lr H rfl hcy (by simp) ag3) ?_
    refine q_run rfl rfl (fun _ H => r_neqT rfl rfl (by omega)) ?_
    refine q_nil ?_
    intro _ H'; clear H; have H := H'; clear H'
    refine c_norm ?_
    refine k_t rfl ?_
    refine k_sg ?_
    refine s_run rfl rfl (rab rfl) ?_
    refine k_nc ?_
    refine k_ret ?_
    refine b_ret ?_
    refine c_ret ?_
    refine c_ret ?_
    refine b_ret ?_
    refine c_ret ?_
    refine fin1r (v := .bool _) rfl rfl ?_
    exact ⟨rfl, H.only⟩
  ·obtain rfl : i = n := by omega
   obtain ⟨f, rfl⟩ := live4 f0 f1 f12 f13
   clear f0 f1 f12 f13
   have e1 : xs.take i = xs := by rw [← lx]; exact List.take_length
   have e2 : ys.take i = ys := by rw [← ly]; exact List.take_length
   rw [eqB_yes xs ys (by rw [← e1, ← e2]; exact he)]
   refine k_sg ?_
   refine s_run rfl rfl (r_lssF rfl rfl (by omega)) ?_
   refine k_nc ?_
   refine k_seq ?_
   refine k_f rfl ?_
   refine k_exit ?_
   refine c_exit ?_
   refine c_exit ?_
   refine b_hit ?_
   refine c_norm ?_
   refine k_sg ?_
   refine s_run rfl rfl (rab rfl) ?_
   refine k_nc ?_
   refine k_ret ?_
   refine fin1r (v := .bool _) rfl rfl ?_
   exact ⟨rfl, H.only⟩
 ·rw [eqB_no xs ys (fun h => hnm (by rw [← lx, ← ly, h]))]
  refine k_in (N := 26) Try.func47 rfl rfl rfl ?_
  refine k_sg ?_
  refine s_run rfl rfl (rab rfl) ?_
  refine k_nc ?_
  refine k_seq ?_
  refine k_sg ?_
  refine s_run rfl rfl (rms rfl) ?_
  refine s_run rfl rfl (r_len rfl Try.underlying22) ?_
  refine s_run rfl rfl (rms rfl) ?_
  refine s_run rfl rfl (r_len rfl Try.underlying22) ?_
  refine s_run rfl rfl (r_neqT rfl rfl (by omega)) ?_
  refine k_nc ?_
  refine k_t rfl ?_
  refine k_sg ?_
  refine s_run rfl rfl (rab rfl) ?_
  refine k_nc ?_
  refine k_ret ?_
  refine c_ret ?_
  refine fin1r (v := .bool _) rfl rfl ?_
  exact ⟨rfl, H.only⟩
theorem eqU (A B : Option Addr) (n c m d : Nat) (xs ys : List Int) (w : World) (hx : Sees (Value.int .u64) w [] A xs) (hy : Sees (Value.int .u64) w [] B ys) (lx : xs.length = n) (ly : ys.length = m) (hn : n ≤ 100000) (hm : m ≤ 100000) :
  Calls Try.prog 48 [.slice A n c, .slice B m d].toArray w fun e w' => e = .returned (.bool (eqB xs ys)) ∧ Only [] w w' := by
 have H := Heap.nil w
 by_cases hnm : n = m
 ·subst hnm
  refine k_in (N := 26) Try.func48 rfl rfl rfl ?_
  refine k_sg ?_
  refine s_run rfl rfl (rab rfl) ?_
  refine k_nc ?_
  refine k_seq ?_
  refine k_sg ?_
  refine s_run rfl rfl (rms rfl) ?_
  refine s_run rfl rfl (r_len rfl Try.underlying37) ?_
  refine s_run rfl rfl (rms rfl) ?_
  refine s_run rfl rfl (r_len rfl Try.underlying37) ?_
  refine s_run rfl rfl (r_neqF rfl rfl (by omega)) ?_
  refine k_nc ?_
  refine k_f rfl ?_
  refine k_skip ?_
  refine c_norm ?_
  refine k_seq ?_
  refine k_sg ?_
  refine s_run rfl rfl (rms rfl) ?_
  refine s_run rfl rfl (r_len rfl Try.underlying37) ?_
  refine s_run rfl rfl (rmi rfl) ?_
  refine k_nc ?_
  refine k_b ?_
  refine k_loop (fun z f W => ∃ i : Nat, i ≤ n ∧ z = n - i ∧ xs.take i = ys.take i ∧ f 0 = .slice A n c ∧ f 1 = .slice B n d ∧ f 12 = .int .i64 n ∧ f 13 = .int .i64 i ∧ Heap w [] [] W) n ⟨0, by omega, rfl, rfl, rfl, rfl, rfl, rfl, H⟩ ?_
  clear H
  rintro z f W ⟨i, hi, rfl, he, f0, f1, f12, f13, H⟩
  by_cases hlt : i < n
  ·obtain ⟨x, hx1⟩ : ∃ x, xs[i]? = some x := ⟨_, List.getElem?_eq_getElem (by omega)⟩
   obtain ⟨y, hy1⟩ : ∃ y, ys[i]? = some y := ⟨_, List.getElem?_eq_getElem (by omega)⟩
   obtain ⟨b, o, hA, _, hrx⟩ := hx (by omega)
   obtain ⟨b2, o2, hB, _, hry⟩ := hy (by omega)
   have hcx := hrx i x hx1
   have hcy := hry i y hy1
   rw [hA] at f0
   rw [hB] at f1
   obtain ⟨f, rfl⟩ := live4 f0 f1 f12 f13
   clear f0 f1 f12 f13
   by_cases hxy : x = y
   ·refine k_sg ?_
    refine s_run rfl rfl (r_lssT rfl rfl (by omega)) ?_
    refine k_nc ?_
    refine k_seq ?_
    refine k_t rfl ?_
    refine k_skip ?_
    refine c_norm ?_
    refine k_seq ?_
    refine k_b ?_
    refine k_sg ?_
    refine s_run rfl rfl (rmi rfl) ?_
    refine s_run rfl rfl (rai rfl) ?_
    refine k_nc ?_
    refine k_seq ?_
    refine k_q mixed (by kernel_rfl) H ?_
    refine q_run rfl rfl (fun _ H => r_mv (v := .slice _ _ _) rfl) ?_
    refine q_run rfl rfl (fun _ H => r_mv (v := .int _ _) rfl) ?_
    refine q_run rfl rfl (fun _ H => r_ix1o (i := i) rfl rfl (by omega) (by omega) Try.underlying37 sz78) ?_
    refine q_run rfl rfl (fun _ H => r_lr H rfl hcx (by simp) ag78) ?_
    refine q_run rfl rfl (fun _ H => r_mv (v := .slice _ _ _) rfl) ?_
    refine q_run rfl rfl (fun _ H => r_mv (v := .int _ _) rfl) ?_
    refine q_run rfl rfl (fun _ H => r_ix1o (i := i) rfl rfl (by omega) (by omega) Try.underlying37 sz78) ?_
    refine q_run rfl rfl (fun _ H => r_lr H rfl hcy (by simp) ag78) ?_
    refine q_run rfl rfl (fun _ H => r_neqF rfl rfl (by omega)) ?_
    refine q_nil ?_
    intro _ H'; clear H; have H := H'; clear H'
    refine c_norm ?_
    refine k_f rfl ?_
    refine k_skip ?_
    refine b_norm ?_
    refine c_norm ?_
    refine k_rg ?_
    refine s_run rfl rfl (r_add rfl rfl (wI (by omega))) ?_
    refine s_run rfl rfl (rmi rfl) ?_
    refine k_nil ?_
    refine c_round ?_
    refine ⟨_, _, ?_, rfl, i + 1, by omega, rfl, by rw [List.take_add_one, List.take_add_one, he, hx1, hy1, hxy], by rw [hA]; rfl, by rw [hB]; rfl, rfl, rfl, H⟩
    omega
   ·rw [eqB_no xs ys (fun h => hxy (by rw [h, hy1] at hx1; injection hx1 with hx1; exact hx1.symm))]
    refine k_sg ?_
    refine s_run rfl rfl (r_lssT rfl rfl (by omega)) ?_
    refine k_nc ?_
    refine k_seq ?_
    refine k_t rfl ?_
    refine k_skip ?_
    refine c_norm ?_
    refine k_seq ?_
    refine k_b ?_
    refine k_sg ?_
    refine s_run rfl rfl (rmi rfl) ?_
    refine s_run rfl rfl (rai rfl) ?_
    refine k_nc ?_
    refine k_seq ?_
    refine k_q mixed (by kernel_rfl) H ?_
    refine q_run rfl rfl (fun _ H => r_mv (v := .slice _ _ _) rfl) ?_
    refine q_run rfl rfl (fun _ H => r_mv (v := .int _ _) rfl) ?_
    refine q_run rfl rfl (fun _ H => r_ix1o (i := i) rfl rfl (by omega) (by omega) Try.underlying37 sz78) ?_
    refine q_run rfl rfl (fun _ H => r_lr H rfl hcx (by simp) ag78) ?_
    refine q_run rfl rfl (fun _ H => r_mv (v := .slice _ _ _) rfl) ?_
    refine q_run rfl rfl (fun _ H => r_mv (v := .int _ _) rfl) ?_
    refine q_run rfl rfl (fun _ H => r_ix1o (i := i) rfl rfl (by omega) (by omega) Try.underlying37 sz78) ?_
    refine q_run rfl rfl (fun _ H => r_lr H rfl hcy (by simp) ag78) ?_
    refine q_run rfl rfl (fun _ H => r_neqT rfl rfl (by omega)) ?_
    refine q_nil ?_
    intro _ H'; clear H; have H := H'; clear H'
    refine c_norm ?_
    refine k_t rfl ?_
    refine k_sg ?_
    refine s_run rfl rfl (rab rfl) ?_
    refine k_nc ?_
    refine k_ret ?_
    refine b_ret ?_
    refine c_ret ?_
    refine c_ret ?_
    refine b_ret ?_
    refine c_ret ?_
    refine fin1r (v := .bool _) rfl rfl ?_
    exact ⟨rfl, H.only⟩
  ·obtain rfl : i = n := by omega
   obtain ⟨f, rfl⟩ := live4 f0 f1 f12 f13
   clear f0 f1 f12 f13
   have e1 : xs.take i = xs := by rw [← lx]; exact List.take_length
   have e2 : ys.take i = ys := by rw [← ly]; exact List.take_length
   rw [eqB_yes xs ys (by rw [← e1, ← e2]; exact he)]
   refine k_sg ?_
   refine s_run rfl rfl (r_lssF rfl rfl (by omega)) ?_
   refine k_nc ?_
   refine k_seq ?_
   refine k_f rfl ?_
   refine k_exit ?_
   refine c_exit ?_
   refine c_exit ?_
   refine b_hit ?_
   refine c_norm ?_
   refine k_sg ?_
   refine s_run rfl rfl (rab rfl) ?_
   refine k_nc ?_
   refine k_ret ?_
   refine fin1r (v := .bool _) rfl rfl ?_
   exact ⟨rfl, H.only⟩
 ·rw [eqB_no xs ys (fun h => hnm (by rw [← lx, ← ly, h]))]
  refine k_in (N := 26) Try.func48 rfl rfl rfl ?_
  refine k_sg ?_
  refine s_run rfl rfl (rab rfl) ?_
  refine k_nc ?_
  refine k_seq ?_
  refine k_sg ?_
  refine s_run rfl rfl (rms rfl) ?_
  refine s_run rfl rfl (r_len rfl Try.underlying37) ?_
  refine s_run rfl rfl (rms rfl) ?_
  refine s_run rfl rfl (r_len rfl Try.underlying37) ?_
  refine s_run rfl rfl (r_neqT rfl rfl (by omega)) ?_
  refine k_nc ?_
  refine k_t rfl ?_
  refine k_sg ?_
  refine s_run rfl rfl (rab rfl) ?_
  refine k_nc ?_
  refine k_ret ?_
  refine c_ret ?_
  refine fin1r (v := .bool _) rfl rfl ?_
  exact ⟨rfl, H.only⟩
def sameB (a b : GrS) : Bool := decide (a.rs = b.rs ∧ a.nodes = b.nodes)
theorem GrS.nodes_len (g : GrS) : g.nodes.length = g.ns.length := by simp [GrS.nodes]
theorem nodes_get {g : GrS} {i : Nat} {x : NodeS} (h : g.ns[i]? = some x) : g.nodes[i]? = some (x.ps, x.ds) := by unfold GrS.nodes; rw [List.getElem?_map, h]; rfl
theorem gSame (a b : GrS) (w : World) (ha : GrOk w [] a) (hb : GrOk w [] b) (sa : Sm a) (sb : Sm b) :
  Calls Try.prog 16 [.agg a.cells.toArray, .agg b.cells.toArray].toArray w fun e w' => e = .returned (.bool (sameB a b)) ∧ Only [] w w' := by
 have H := Heap.nil w
 have an := sa.n
 have bn := sb.n
 have am := sa.m
 have bm := sb.m
 have anl := ha.nl
 have bnl := hb.nl
 have hEr := fun W (h : Only [] w W) => eqI a.A b.A a.n a.c b.n b.c a.rs b.rs W (ha.rs.later h (by simp)) (hb.rs.later h (by simp)) ha.rl hb.rl (by omega) (by omega)
 have hno : a.rs ≠ b.rs ∨ a.m ≠ b.m → sameB a b = false := fun h => decide_eq_false fun h2 => by
  rcases h with h | h
  ·exact h h2.1
  ·have := congrArg List.length h2.2
   rw [a.nodes_len, b.nodes_len] at this; omega
 unfold GrS.cells at *
 by_cases hrs : a.rs = b.rs
 ·rw [eqB_yes _ _ hrs] at hEr
  by_cases hmm : a.m = b.m
  ·refine k_in (N := 53) Try.func16 rfl rfl rfl ?_
   refine k_sg ?_
   refine s_box H rfl rfl ?_
   intro p2 _ H'; clear H; have H := H'; clear H'
   refine s_box H rfl rfl ?_
   intro p3 _ H'; clear H; have H := H'; clear H'
   refine s_run rfl rfl (rab rfl) ?_
   refine k_nc ?_
   refine k_seq ?_
   refine k_sg ?_
   refine s_run rfl rfl (r_fa0 rfl fo25_0) ?_
   refine s_run rfl rfl (r_lo H 1 rfl rfl rfl ag22) ?_
   refine s_run rfl rfl (r_fa0 rfl fo25_0) ?_
   refine s_run rfl rfl (r_lo H 0 rfl rfl rfl ag22) ?_
   refine s_call rfl (hEr _ H.only) (ca47 rfl) ?_
   rintro e W1 ⟨rfl, H'⟩
   refine ⟨_, rfl, ?_⟩
   have H := H.same H'; clear H'
   refine s_run rfl rfl (r_notT rfl) ?_
   refine s_run rfl rfl (rmb rfl) ?_
   refine s_run rfl (g_on 13 (by kernel_rfl) rfl) (r_fa0 rfl fo25_1) ?_
   refine s_run rfl (g_on 13 (by kernel_rfl) rfl) (r_lo H 1 rfl rfl rfl ag23) ?_
   refine s_run rfl (g_on 13 (by kernel_rfl) rfl) (r_len rfl Try.underlying23) ?_
   refine s_run rfl (g_on 13 (by kernel_rfl) rfl) (r_fa0 rfl fo25_1) ?_
   refine s_run rfl (g_on 13 (by kernel_rfl) rfl) (r_lo H 0 rfl rfl rfl ag23) ?_
   refine s_run rfl (g_on 13 (by kernel_rfl) rfl) (r_len rfl Try.underlying23) ?_
   refine s_run rfl (g_on 13 (by kernel_rfl) rfl) (r_neqF rfl rfl (by omega)) ?_
   refine s_run rfl rfl (r_pkF (v := .bool _) rfl rfl) ?_
   refine k_nc ?_
   refine k_f rfl ?_
   refine k_skip ?_
   refine c_norm ?_
   refine k_seq ?_
   refine k_sg ?_
   refine s_run rfl rfl (r_fa0 rfl fo25_1) ?_
   refine s_run rfl rfl (r_lo H 1 rfl rfl rfl ag23) ?_
   refine s_run rfl rfl (r_len rfl Try.underlying23) ?_
   refine s_run rfl rfl (rmi rfl) ?_
   refine k_nc ?_
   refine k_b ?_
   refine k_loop (fun z f W => ∃ i : Nat, i ≤ a.m ∧ z = a.m - i ∧ a.nodes.take i = b.nodes.take i ∧ f 3 = ptr p3 ∧ f 23 = .slice a.B a.m a.d ∧ f 24 = .int .i64 a.m ∧ f 25 = .int .i64 i ∧ Heap w [] [blk p3 [.slice b.A b.n b.c, .slice b.B b.m b.d] 25] W) a.m ⟨0, by omega, rfl, rfl, rfl, rfl, rfl, rfl, (H.drops (A := [_]) (L := [_]))⟩ ?_
   clear H
   rintro z f W ⟨i, hi, rfl, he, f3, f23, f24, f25, H⟩
   by_cases hlt : i < a.m
   ·obtain ⟨x, hx⟩ : ∃ x, a.ns[i]? = some x := ⟨_, List.getElem?_eq_getElem (by omega)⟩
    obtain ⟨y, hy⟩ : ∃ y, b.ns[i]? = some y := ⟨_, List.getElem?_eq_getElem (by omega)⟩
    have hxm := List.mem_of_getElem? hx
    have hym := List.mem_of_getElem? hy
    obtain ⟨ab, ao, hAB, _, hrx⟩ := ha.ns.1 (by omega)
    obtain ⟨bb, bo, hBB, _, hry⟩ := hb.ns.1 (by omega)
    have hxc := hrx i x hx
    have hyc0 := hry i y hy 0 _ rfl
    have hyc1 := hry i y hy 1 _ rfl
    have hxo := ha.ns.2 x hxm
    have hyo := hb.ns.2 y hym
    have hxs := sa.p x hxm
    have hys := sb.p y hym
    have hEp := fun W (h : Only [] w W) => eqI x.A y.A x.n x.c y.n y.c x.ps y.ps W (hxo.ps.later h (by simp)) (hyo.ps.later h (by simp)) hxo.pl hyo.pl (by omega) (by omega)
    have hEd := fun W (h : Only [] w W) => eqU x.B y.B x.m x.d y.m y.d x.ds y.ds W (hxo.ds.later h (by simp)) (hyo.ds.later h (by simp)) hxo.dl hyo.dl (by omega) (by omega)
    have hnode : (x.ps, x.ds) ≠ (y.ps, y.ds) → sameB a b = false := fun h => decide_eq_false fun h2 => h (by
     have h3 := nodes_get hx
     rw [h2.2, nodes_get hy] at h3
     injection h3 with h3; exact h3.symm)
    unfold NodeS.cells at hxc
    rw [hAB] at f23
    rw [hBB] at H
    obtain ⟨f, rfl⟩ := live4 f3 f23 f24 f25
    clear f3 f23 f24 f25
    by_cases hp : x.ps = y.ps
    ·rw [eqB_yes _ _ hp] at hEp
     by_cases hd : x.ds = y.ds
     ·rw [eqB_yes _ _ hd] at hEd
      refine k_sg ?_
      refine s_run rfl rfl (r_lssT rfl rfl (by omega)) ?_
      refine k_nc ?_
      refine k_seq ?_
      refine k_t rfl ?_
      refine k_skip ?_
      refine c_norm ?_
      refine k_seq ?_
      refine k_b ?_
      refine k_sg ?_
      refine s_run rfl rfl (rmi rfl) ?_
      refine s_run rfl rfl (r_ix (i := i) rfl rfl (by omega) (by omega) Try.underlying23 sz39) ?_
      refine s_run rfl rfl (r_lA (enc := fun v : Value => v) (zs := [.slice x.A x.n x.c, .slice x.B x.m x.d]) (hxc.later H.only (by simp)) rfl rfl ag39 sz39) ?_
      refine s_al H rfl inf39 ?_
      intro p6 _ H'; clear H; have H := H'; clear H'
      refine s_run rfl rfl (rai rfl) ?_
      refine s_sw H 0 rfl rfl rfl rfl rfl rfl rfl sz39 ?_
      clear H; intro _ H; simp only [jA, jB, jC, jD, jE, jF, jG, jH, jI, jJ, jK, Nat.reduceAdd] at H
      refine k_nc ?_
      refine k_seq ?_
      refine k_q mixed (by kernel_rfl) H ?_
      refine q_run rfl rfl (fun _ H => r_fa0 rfl fo39_0) ?_
      refine q_run rfl rfl (fun _ H => r_lo H 0 rfl rfl rfl ag22) ?_
      refine q_run rfl rfl (fun _ H => r_fa0 rfl fo25_1) ?_
      refine q_run rfl rfl (fun _ H => r_lo H 1 rfl rfl rfl ag23) ?_
      refine q_run rfl rfl (fun _ H => r_mv (v := .int _ _) rfl) ?_
      refine q_run rfl rfl (fun _ H => r_ix (i := i) rfl rfl (by omega) (by omega) Try.underlying23 sz39) ?_
      refine q_run rfl rfl (fun _ H => r_fa rfl fo39_0) ?_
      refine q_run rfl rfl (fun _ H => r_lr H rfl hyc0 (by simp) ag22) ?_
      refine q_call rfl rfl (fun _ H => hEp _ H.only) (ca47 rfl) ?_
      refine q_run rfl rfl (fun _ H => r_notT rfl) ?_
      refine q_run rfl rfl (fun _ H => r_mv (v := .bool _) rfl) ?_
      refine q_run rfl (g_on 40 (by kernel_rfl) rfl) (fun _ H => r_fa0 rfl fo39_1) ?_
      refine q_run rfl (g_on 40 (by kernel_rfl) rfl) (fun _ H => r_lo H 0 rfl rfl rfl ag37) ?_
      refine q_run rfl (g_on 40 (by kernel_rfl) rfl) (fun _ H => r_fa0 rfl fo25_1) ?_
      refine q_run rfl (g_on 40 (by kernel_rfl) rfl) (fun _ H => r_lo H 1 rfl rfl rfl ag23) ?_
      refine q_run rfl (g_on 40 (by kernel_rfl) rfl) (fun _ H => r_mv (v := .int _ _) rfl) ?_
      refine q_run rfl (g_on 40 (by kernel_rfl) rfl) (fun _ H => r_ix (i := i) rfl rfl (by omega) (by omega) Try.underlying23 sz39) ?_
      refine q_run rfl (g_on 40 (by kernel_rfl) rfl) (fun _ H => r_fa rfl fo39_1) ?_
      refine q_run rfl (g_on 40 (by kernel_rfl) rfl) (fun _ H => r_lr H rfl hyc1 (by simp) ag37) ?_
      refine q_call rfl (g_on 40 (by kernel_rfl) rfl) (fun _ H => hEd _ H.only) (ca48 rfl) ?_
      refine q_run rfl (g_on 40 (by kernel_rfl) rfl) (fun _ H => r_notT rfl) ?_
      refine q_run rfl rfl (fun _ H => r_pkF (v := .bool _) rfl rfl) ?_
      refine q_nil ?_
      intro _ H'; clear H; have H := H'; clear H'
      refine c_norm ?_
      refine k_f rfl ?_
      refine k_skip ?_
      refine b_norm ?_
      refine c_norm ?_
      refine k_rg ?_
      refine s_run rfl rfl (r_add rfl rfl (wI (by omega))) ?_
      refine s_run rfl rfl (rmi rfl) ?_
      refine k_nil ?_
      refine c_round ?_
      rw [← hBB] at H
      refine ⟨_, _, ?_, rfl, i + 1, by omega, rfl, by rw [List.take_add_one, List.take_add_one, he, nodes_get hx, nodes_get hy, hp, hd], rfl, by rw [hAB]; rfl, rfl, rfl, H.drop⟩
      omega
     ·rw [eqB_no _ _ hd] at hEd
      rw [hnode (fun h => hd (by injection h))]
      refine k_sg ?_
      refine s_run rfl rfl (r_lssT rfl rfl (by omega)) ?_
      refine k_nc ?_
      refine k_seq ?_
      refine k_t rfl ?_
      refine k_skip ?_
      refine c_norm ?_
      refine k_seq ?_
      refine k_b ?_
      refine k_sg ?_
      refine s_run rfl rfl (rmi rfl) ?_
      refine s_run rfl rfl (r_ix (i := i) rfl rfl (by omega) (by omega) Try.underlying23 sz39) ?_
      refine s_run rfl rfl (r_lA (enc := fun v : Value => v) (zs := [.slice x.A x.n x.c, .slice x.B x.m x.d]) (hxc.later H.only (by simp)) rfl rfl ag39 sz39) ?_
      refine s_al H rfl inf39 ?_
      intro p6 _ H'; clear H; have H := H'; clear H'
      refine s_run rfl rfl (rai rfl) ?_
      refine s_sw H 0 rfl rfl rfl rfl rfl rfl rfl sz39 ?_
      clear H; intro _ H; simp only [jA, jB, jC, jD, jE, jF, jG, jH, jI, jJ, jK, Nat.reduceAdd] at H
      refine k_nc ?_
      refine k_seq ?_
      refine k_q mixed (by kernel_rfl) H ?_
      refine q_run rfl rfl (fun _ H => r_fa0 rfl fo39_0) ?_
      refine q_run rfl rfl (fun _ H => r_lo H 0 rfl rfl rfl ag22) ?_
      refine q_run rfl rfl (fun _ H => r_fa0 rfl fo25_1) ?_
      refine q_run rfl rfl (fun _ H => r_lo H 1 rfl rfl rfl ag23) ?_
      refine q_run rfl rfl (fun _ H => r_mv (v := .int _ _) rfl) ?_
      refine q_run rfl rfl (fun _ H => r_ix (i := i) rfl rfl (by omega) (by omega) Try.underlying23 sz39) ?_
      refine q_run rfl rfl (fun _ H => r_fa rfl fo39_0) ?_
      refine q_run rfl rfl (fun _ H => r_lr H rfl hyc0 (by simp) ag22) ?_
      refine q_call rfl rfl (fun _ H => hEp _ H.only) (ca47 rfl) ?_
      refine q_run rfl rfl (fun _ H => r_notT rfl) ?_
      refine q_run rfl rfl (fun _ H => r_mv (v := .bool _) rfl) ?_
      refine q_run rfl (g_on 40 (by kernel_rfl) rfl) (fun _ H => r_fa0 rfl fo39_1) ?_
      refine q_run rfl (g_on 40 (by kernel_rfl) rfl) (fun _ H => r_lo H 0 rfl rfl rfl ag37) ?_
      refine q_run rfl (g_on 40 (by kernel_rfl) rfl) (fun _ H => r_fa0 rfl fo25_1) ?_
      refine q_run rfl (g_on 40 (by kernel_rfl) rfl) (fun _ H => r_lo H 1 rfl rfl rfl ag23) ?_
      refine q_run rfl (g_on 40 (by kernel_rfl) rfl) (fun _ H => r_mv (v := .int _ _) rfl) ?_
      refine q_run rfl (g_on 40 (by kernel_rfl) rfl) (fun _ H => r_ix (i := i) rfl rfl (by omega) (by omega) Try.underlying23 sz39) ?_
      refine q_run rfl (g_on 40 (by kernel_rfl) rfl) (fun _ H => r_fa rfl fo39_1) ?_
      refine q_run rfl (g_on 40 (by kernel_rfl) rfl) (fun _ H => r_lr H rfl hyc1 (by simp) ag37) ?_
      refine q_call rfl (g_on 40 (by kernel_rfl) rfl) (fun _ H => hEd _ H.only) (ca48 rfl) ?_
      refine q_run rfl (g_on 40 (by kernel_rfl) rfl) (fun _ H => r_notF rfl) ?_
      refine q_run rfl rfl (fun _ H => r_pkF (v := .bool _) rfl rfl) ?_
      refine q_nil ?_
      intro _ H'; clear H; have H := H'; clear H'
      refine c_norm ?_
      refine k_t rfl ?_
      refine k_sg ?_
      refine s_run rfl rfl (rab rfl) ?_
      refine k_nc ?_
      refine k_ret ?_
      refine b_ret ?_
      refine c_ret ?_
      refine c_ret ?_
      refine b_ret ?_
      refine c_ret ?_
      refine fin1r (v := .bool _) rfl rfl ?_
      exact ⟨rfl, H.only⟩
    ·rw [eqB_no _ _ hp] at hEp
     rw [hnode (fun h => hp (by injection h))]
     refine k_sg ?_
     refine s_run rfl rfl (r_lssT rfl rfl (by omega)) ?_
     refine k_nc ?_
     refine k_seq ?_
     refine k_t rfl ?_
     refine k_skip ?_
     refine c_norm ?_
     refine k_seq ?_
     refine k_b ?_
     refine k_sg ?_
     refine s_run rfl rfl (rmi rfl) ?_
     refine s_run rfl rfl (r_ix (i := i) rfl rfl (by omega) (by omega) Try.underlying23 sz39) ?_
     refine s_run rfl rfl (r_lA (enc := fun v : Value => v) (zs := [.slice x.A x.n x.c, .slice x.B x.m x.d]) (hxc.later H.only (by simp)) rfl rfl ag39 sz39) ?_
     refine s_al H rfl inf39 ?_
     intro p6 _ H'; clear H; have H := H'; clear H'
     refine s_run rfl rfl (rai rfl) ?_
     refine s_sw H 0 rfl rfl rfl rfl rfl rfl rfl sz39 ?_
     clear H; intro _ H; simp only [jA, jB, jC, jD, jE, jF, jG, jH, jI, jJ, jK, Nat.reduceAdd] at H
     refine k_nc ?_
     refine k_seq ?_
     refine k_q mixed (by kernel_rfl) H ?_
     refine q_run rfl rfl (fun _ H => r_fa0 rfl fo39_0) ?_
     refine q_run rfl rfl (fun _ H => r_lo H 0 rfl rfl rfl ag22) ?_
     refine q_run rfl rfl (fun _ H => r_fa0 rfl fo25_1) ?_
     refine q_run rfl rfl (fun _ H => r_lo H 1 rfl rfl rfl ag23) ?_
     refine q_run rfl rfl (fun _ H => r_mv (v := .int _ _) rfl) ?_
     refine q_run rfl rfl (fun _ H => r_ix (i := i) rfl rfl (by omega) (by omega) Try.underlying23 sz39) ?_
     refine q_run rfl rfl (fun _ H => r_fa rfl fo39_0) ?_
     refine q_run rfl rfl (fun _ H => r_lr H rfl hyc0 (by simp) ag22) ?_
     refine q_call rfl rfl (fun _ H => hEp _ H.only) (ca47 rfl) ?_
     refine q_run rfl rfl (fun _ H => r_notF rfl) ?_
     refine q_run rfl rfl (fun _ H => r_mv (v := .bool _) rfl) ?_
     refine q_off rfl (g_off 40 (by kernel_rfl) rfl rfl) ?_
     refine q_off rfl (g_off 40 (by kernel_rfl) rfl rfl) ?_
     refine q_off rfl (g_off 40 (by kernel_rfl) rfl rfl) ?_
     refine q_off rfl (g_off 40 (by kernel_rfl) rfl rfl) ?_
     refine q_off rfl (g_off 40 (by kernel_rfl) rfl rfl) ?_
     refine q_off rfl (g_off 40 (by kernel_rfl) rfl rfl) ?_
     refine q_off rfl (g_off 40 (by kernel_rfl) rfl rfl) ?_
     refine q_off rfl (g_off 40 (by kernel_rfl) rfl rfl) ?_
     refine q_off rfl (g_off 40 (by kernel_rfl) rfl rfl) ?_
     refine q_off rfl (g_off 40 (by kernel_rfl) rfl rfl) ?_
     refine q_run rfl rfl (fun _ H => r_pkT (v := .bool _) rfl rfl) ?_
     refine q_nil ?_
     intro _ H'; clear H; have H := H'; clear H'
     refine c_norm ?_
     refine k_t rfl ?_
     refine k_sg ?_
     refine s_run rfl rfl (rab rfl) ?_
     refine k_nc ?_
     refine k_ret ?_
     refine b_ret ?_
     refine c_ret ?_
     refine c_ret ?_
     refine b_ret ?_
     refine c_ret ?_
     refine fin1r (v := .bool _) rfl rfl ?_
     exact ⟨rfl, H.only⟩
   ·obtain rfl : i = a.m := by omega
    obtain ⟨f, rfl⟩ := live4 f3 f23 f24 f25
    clear f3 f23 f24 f25
    have e1 : a.nodes.take a.m = a.nodes := by rw [← anl, ← a.nodes_len]; exact List.take_length
    have e2 : b.nodes.take a.m = b.nodes := by rw [hmm, ← bnl, ← b.nodes_len]; exact List.take_length
    rw [show sameB a b = true from decide_eq_true ⟨hrs, by rw [← e1, ← e2]; exact he⟩]
    refine k_sg ?_
    refine s_run rfl rfl (r_lssF rfl rfl (by omega)) ?_
    refine k_nc ?_
    refine k_seq ?_
    refine k_f rfl ?_
    refine k_exit ?_
    refine c_exit ?_
    refine c_exit ?_
    refine b_hit ?_
    refine c_norm ?_
    refine k_sg ?_
    refine s_run rfl rfl (rab rfl) ?_
    refine k_nc ?_
    refine k_ret ?_
    refine fin1r (v := .bool _) rfl rfl ?_
    exact ⟨rfl, H.only⟩
  ·rw [hno (.inr hmm)]
   refine k_in (N := 53) Try.func16 rfl rfl rfl ?_
   refine k_sg ?_
   refine s_box H rfl rfl ?_
   intro p2 _ H'; clear H; have H := H'; clear H'
   refine s_box H rfl rfl ?_
   intro p3 _ H'; clear H; have H := H'; clear H'
   refine s_run rfl rfl (rab rfl) ?_
   refine k_nc ?_
   refine k_seq ?_
   refine k_sg ?_
   refine s_run rfl rfl (r_fa0 rfl fo25_0) ?_
   refine s_run rfl rfl (r_lo H 1 rfl rfl rfl ag22) ?_
   refine s_run rfl rfl (r_fa0 rfl fo25_0) ?_
   refine s_run rfl rfl (r_lo H 0 rfl rfl rfl ag22) ?_
   refine s_call rfl (hEr _ H.only) (ca47 rfl) ?_
   rintro e W1 ⟨rfl, H'⟩
   refine ⟨_, rfl, ?_⟩
   have H := H.same H'; clear H'
   refine s_run rfl rfl (r_notT rfl) ?_
   refine s_run rfl rfl (rmb rfl) ?_
   refine s_run rfl (g_on 13 (by kernel_rfl) rfl) (r_fa0 rfl fo25_1) ?_
   refine s_run rfl (g_on 13 (by kernel_rfl) rfl) (r_lo H 1 rfl rfl rfl ag23) ?_
   refine s_run rfl (g_on 13 (by kernel_rfl) rfl) (r_len rfl Try.underlying23) ?_
   refine s_run rfl (g_on 13 (by kernel_rfl) rfl) (r_fa0 rfl fo25_1) ?_
   refine s_run rfl (g_on 13 (by kernel_rfl) rfl) (r_lo H 0 rfl rfl rfl ag23) ?_
   refine s_run rfl (g_on 13 (by kernel_rfl) rfl) (r_len rfl Try.underlying23) ?_
   refine s_run rfl (g_on 13 (by kernel_rfl) rfl) (r_neqT rfl rfl (by omega)) ?_
   refine s_run rfl rfl (r_pkF (v := .bool _) rfl rfl) ?_
   refine k_nc ?_
   refine k_t rfl ?_
   refine k_sg ?_
   refine s_run rfl rfl (rab rfl) ?_
   refine k_nc ?_
   refine k_ret ?_
   refine c_ret ?_
   refine fin1r (v := .bool _) rfl rfl ?_
   exact ⟨rfl, H.only⟩
 ·rw [eqB_no _ _ hrs] at hEr
  rw [hno (.inl hrs)]
  refine k_in (N := 53) Try.func16 rfl rfl rfl ?_
  refine k_sg ?_
  refine s_box H rfl rfl ?_
  intro p2 _ H'; clear H; have H := H'; clear H'
  refine s_box H rfl rfl ?_
  intro p3 _ H'; clear H; have H := H'; clear H'
  refine s_run rfl rfl (rab rfl) ?_
  refine k_nc ?_
  refine k_seq ?_
  refine k_sg ?_
  refine s_run rfl rfl (r_fa0 rfl fo25_0) ?_
  refine s_run rfl rfl (r_lo H 1 rfl rfl rfl ag22) ?_
  refine s_run rfl rfl (r_fa0 rfl fo25_0) ?_
  refine s_run rfl rfl (r_lo H 0 rfl rfl rfl ag22) ?_
  refine s_call rfl (hEr _ H.only) (ca47 rfl) ?_
  rintro e W1 ⟨rfl, H'⟩
  refine ⟨_, rfl, ?_⟩
  have H := H.same H'; clear H'
  refine s_run rfl rfl (r_notF rfl) ?_
  refine s_run rfl rfl (rmb rfl) ?_
  refine s_off rfl (g_off 13 (by kernel_rfl) rfl rfl) ?_
  refine s_off rfl (g_off 13 (by kernel_rfl) rfl rfl) ?_
  refine s_off rfl (g_off 13 (by kernel_rfl) rfl rfl) ?_
  refine s_off rfl (g_off 13 (by kernel_rfl) rfl rfl) ?_
  refine s_off rfl (g_off 13 (by kernel_rfl) rfl rfl) ?_
  refine s_off rfl (g_off 13 (by kernel_rfl) rfl rfl) ?_
  refine s_off rfl (g_off 13 (by kernel_rfl) rfl rfl) ?_
  refine s_run rfl rfl (r_pkT (v := .bool _) rfl rfl) ?_
  refine k_nc ?_
  refine k_t rfl ?_
  refine k_sg ?_
  refine s_run rfl rfl (rab rfl) ?_
  refine k_nc ?_
  refine k_ret ?_
  refine c_ret ?_
  refine fin1r (v := .bool _) rfl rfl ?_
  exact ⟨rfl, H.only⟩
theorem gAlike (a b : GrS) (w : World) (ha : GrOk w [] a) (hb : GrOk w [] b) (sa : Sm a) (sb : Sm b) :
  Calls Try.prog 20 [.agg a.cells.toArray, .agg b.cells.toArray].toArray w fun e w' => (∃ r : Bool, e = .returned (.bool r) ∧ ((rightB a && rightB b) = false → r = false) ∧ ((rightB a && rightB b) = true → ∃ oa ob, Gr.IsOrd (Gr.ptr a.nodes) a.rs oa ∧ Gr.IsOrd (Gr.ptr b.nodes) b.rs ob ∧ r = decide (Gr.canonR a.rs oa = Gr.canonR b.rs ob ∧ Gr.canonN a.nodes oa = Gr.canonN b.nodes ob))) ∧ Only [] w w' := by
 have H := Heap.nil w
 cases ra : rightB a with
 | true =>
  have hA := fun W (h : Only [] w W) => gCanon1 a W (ha.later h (by simp)) ra sa
  cases rb : rightB b with
  | true =>
   have hB := fun W (h : Only [] w W) => gCanon1 b W (hb.later h (by simp)) rb sb
   unfold GrS.cells at hA hB ⊢
   refine k_in (N := 30) Try.func20 rfl rfl rfl ?_
   refine k_sg ?_
   refine s_box H rfl rfl ?_
   intro p2 _ H'; clear H; have H := H'; clear H'
   refine s_box H rfl rfl ?_
   intro p3 _ H'; clear H; have H := H'; clear H'
   refine s_run rfl rfl (rab rfl) ?_
   refine k_nc ?_
   refine k_sg ?_
   refine s_run rfl rfl (r_la H 1 rfl rfl rfl ag25 sz25) ?_
   refine s_call rfl (hA _ H.only) (ca28 rfl) ?_
   rintro e W1 ⟨⟨a', oa, rfl, ka, hoa, era, ena, an, am, aml, ap⟩, H'⟩
   refine ⟨_, rfl, ?_⟩
   have H := H.same H'; clear H'; have HP := H; clear H; have H := Heap.nil W1
   refine s_run rfl rfl (rmt rfl) ?_
   refine s_run rfl rfl (r_ext (v := .agg _) rfl rfl) ?_
   refine s_run rfl rfl (r_ext (v := .int _ _) rfl rfl) ?_
   refine s_al H rfl inf25 ?_
   intro p5 _ H'; clear H; have H := H'; clear H'
   refine s_sw H 0 rfl rfl rfl rfl rfl rfl rfl sz25 ?_
   clear H; intro _ H; simp only [jA, jB, jC, jD, jE, jF, jG, jH, jI, jJ, jK, Nat.reduceAdd] at H
   refine s_run rfl rfl (rai rfl) ?_
   refine k_nc ?_
   refine k_sg ?_
   refine s_run rfl rfl (r_la (HP.same H.only) 0 rfl rfl rfl ag25 sz25) ?_
   refine s_call rfl (hB _ (HP.only.trans H.only)) (ca28 rfl) ?_
   rintro e W1 ⟨⟨b', ob, rfl, kb, hob, erb, enb, bn, bm, bml, bp⟩, H'⟩
   refine ⟨_, rfl, ?_⟩
   have H := H.same H'; clear H'; have HQ := H; clear H; have H := Heap.nil W1
   refine s_run rfl rfl (rmt rfl) ?_
   refine s_run rfl rfl (r_ext (v := .agg _) rfl rfl) ?_
   refine s_run rfl rfl (r_ext (v := .int _ _) rfl rfl) ?_
   refine s_al H rfl inf25 ?_
   intro p7 _ H'; clear H; have H := H'; clear H'
   refine s_sw H 0 rfl rfl rfl rfl rfl rfl rfl sz25 ?_
   clear H; intro _ H; simp only [jA, jB, jC, jD, jE, jF, jG, jH, jI, jJ, jK, Nat.reduceAdd] at H
   refine s_run rfl rfl (rai rfl) ?_
   refine k_nc ?_
   refine k_sg ?_
   refine s_run rfl rfl (rmi rfl) ?_
   refine s_run rfl rfl (r_eqlT rfl rfl (by omega)) ?_
   refine s_run rfl rfl (rmb rfl) ?_
   refine s_run rfl (g_on 21 (by kernel_rfl) rfl) (rmi rfl) ?_
   refine s_run rfl (g_on 21 (by kernel_rfl) rfl) (r_eqlT rfl rfl (by omega)) ?_
   refine s_run rfl rfl (r_pkT (v := .bool _) rfl rfl) ?_
   refine s_run rfl rfl (rmb rfl) ?_
   have hS := fun W (h : Only [] _ W) => gSame a' b' W (ka.later (HQ.only.trans h) (by simp)) (kb.later h (by simp)) ⟨by have := sa.n; omega, by have := sa.m; omega, ap⟩ ⟨by have := sb.n; omega, by have := sb.m; omega, bp⟩
   have key : sameB a' b' = decide (Gr.canonR a.rs oa = Gr.canonR b.rs ob ∧ Gr.canonN a.nodes oa = Gr.canonN b.nodes ob) := by
    unfold sameB; rw [era, ena, erb, enb]
   unfold GrS.cells at hS
   generalize sameB a' b' = sv at *
   cases sv with
   | true =>
    refine s_run rfl (g_on 25 (by kernel_rfl) rfl) (r_la (HQ.same H.only) 0 rfl rfl rfl ag25 sz25) ?_
    refine s_run rfl (g_on 25 (by kernel_rfl) rfl) (r_la H 0 rfl rfl rfl ag25 sz25) ?_
    refine s_call (g_on 25 (by kernel_rfl) rfl) (hS _ H.only) (ca16 rfl) ?_
    rintro e W1 ⟨rfl, H'⟩
    refine ⟨_, rfl, ?_⟩
    have H := H.same H'; clear H'
    refine s_run rfl rfl (r_pkT (v := .bool _) rfl rfl) ?_
    refine s_run rfl rfl (rab rfl) ?_
    refine k_nc ?_
    refine k_ret ?_
    refine fin1r (v := .bool _) rfl rfl ?_
    exact ⟨⟨true, rfl, (fun h => by cases h), fun _ => ⟨oa, ob, hoa, hob, key⟩⟩, (HP.only.trans HQ.only).trans H.only⟩
   | false =>
    refine s_run rfl (g_on 25 (by kernel_rfl) rfl) (r_la (HQ.same H.only) 0 rfl rfl rfl ag25 sz25) ?_
    refine s_run rfl (g_on 25 (by kernel_rfl) rfl) (r_la H 0 rfl rfl rfl ag25 sz25) ?_
    refine s_call (g_on 25 (by kernel_rfl) rfl) (hS _ H.only) (ca16 rfl) ?_
    rintro e W1 ⟨rfl, H'⟩
    refine ⟨_, rfl, ?_⟩
    have H := H.same H'; clear H'
    refine s_run rfl rfl (r_pkT (v := .bool _) rfl rfl) ?_
    refine s_run rfl rfl (rab rfl) ?_
    refine k_nc ?_
    refine k_ret ?_
    refine fin1r (v := .bool _) rfl rfl ?_
    exact ⟨⟨false, rfl, (fun h => by cases h), fun _ => ⟨oa, ob, hoa, hob, key⟩⟩, (HP.only.trans HQ.only).trans H.only⟩
  | false =>
   have hB := fun W (h : Only [] w W) => gCanon0 b W (hb.later h (by simp)) rb
   unfold GrS.cells at hA hB ⊢
   refine k_in (N := 30) Try.func20 rfl rfl rfl ?_
   refine k_sg ?_
   refine s_box H rfl rfl ?_
   intro p2 _ H'; clear H; have H := H'; clear H'
   refine s_box H rfl rfl ?_
   intro p3 _ H'; clear H; have H := H'; clear H'
   refine s_run rfl rfl (rab rfl) ?_
   refine k_nc ?_
   refine k_sg ?_
   refine s_run rfl rfl (r_la H 1 rfl rfl rfl ag25 sz25) ?_
   refine s_call rfl (hA _ H.only) (ca28 rfl) ?_
   rintro e W1 ⟨⟨a', oa, rfl, ka, hoa, era, ena, an, am, aml, ap⟩, H'⟩
   refine ⟨_, rfl, ?_⟩
   have H := H.same H'; clear H'
   refine s_run rfl rfl (rmt rfl) ?_
   refine s_run rfl rfl (r_ext (v := .agg _) rfl rfl) ?_
   refine s_run rfl rfl (r_ext (v := .int _ _) rfl rfl) ?_
   refine s_al H rfl inf25 ?_
   intro p5 _ H'; clear H; have H := H'; clear H'
   refine s_sw H 0 rfl rfl rfl rfl rfl rfl rfl sz25 ?_
   clear H; intro _ H; simp only [jA, jB, jC, jD, jE, jF, jG, jH, jI, jJ, jK, Nat.reduceAdd] at H
   refine s_run rfl rfl (rai rfl) ?_
   refine k_nc ?_
   refine k_sg ?_
   refine s_run rfl rfl (r_la H 1 rfl rfl rfl ag25 sz25) ?_
   refine s_call rfl (hB _ H.only) (ca28 rfl) ?_
   rintro e W1 ⟨rfl, H'⟩
   refine ⟨_, rfl, ?_⟩
   have H := H.same H'; clear H'
   refine s_run rfl rfl (rmt rfl) ?_
   refine s_run rfl rfl (r_ext (v := .agg _) rfl rfl) ?_
   refine s_run rfl rfl (r_ext (v := .int _ _) rfl rfl) ?_
   refine s_al H rfl inf25 ?_
   intro p7 _ H'; clear H; have H := H'; clear H'
   refine s_sw H 0 rfl rfl rfl rfl rfl rfl rfl sz25 ?_
   clear H; intro _ H; simp only [jA, jB, jC, jD, jE, jF, jG, jH, jI, jJ, jK, Nat.reduceAdd] at H
   refine s_run rfl rfl (rai rfl) ?_
   refine k_nc ?_
   refine k_sg ?_
   refine s_run rfl rfl (rmi rfl) ?_
   refine s_run rfl rfl (r_eqlT rfl rfl (by omega)) ?_
   refine s_run rfl rfl (rmb rfl) ?_
   refine s_run rfl (g_on 21 (by kernel_rfl) rfl) (rmi rfl) ?_
   refine s_run rfl (g_on 21 (by kernel_rfl) rfl) (r_eqlF rfl rfl (by omega)) ?_
   refine s_run rfl rfl (r_pkT (v := .bool _) rfl rfl) ?_
   refine s_run rfl rfl (rmb rfl) ?_
   refine s_off rfl (g_off 25 (by kernel_rfl) rfl rfl) ?_
   refine s_off rfl (g_off 25 (by kernel_rfl) rfl rfl) ?_
   refine s_off rfl (g_off 25 (by kernel_rfl) rfl rfl) ?_
   refine s_run rfl rfl (r_pkF (v := .bool _) rfl rfl) ?_
   refine s_run rfl rfl (rab rfl) ?_
   refine k_nc ?_
   refine k_ret ?_
   refine fin1r (v := .bool _) rfl rfl ?_
   exact ⟨⟨false, rfl, (fun _ => rfl), (fun h => by cases h)⟩, H.only⟩
 | false =>
  have hA := fun W (h : Only [] w W) => gCanon0 a W (ha.later h (by simp)) ra
  cases rb : rightB b with
  | true =>
   have hB := fun W (h : Only [] w W) => gCanon1 b W (hb.later h (by simp)) rb sb
   unfold GrS.cells at hA hB ⊢
   refine k_in (N := 30) Try.func20 rfl rfl rfl ?_
   refine k_sg ?_
   refine s_box H rfl rfl ?_
   intro p2 _ H'; clear H; have H := H'; clear H'
   refine s_box H rfl rfl ?_
   intro p3 _ H'; clear H; have H := H'; clear H'
   refine s_run rfl rfl (rab rfl) ?_
   refine k_nc ?_
   refine k_sg ?_
   refine s_run rfl rfl (r_la H 1 rfl rfl rfl ag25 sz25) ?_
   refine s_call rfl (hA _ H.only) (ca28 rfl) ?_
   rintro e W1 ⟨rfl, H'⟩
   refine ⟨_, rfl, ?_⟩
   have H := H.same H'; clear H'
   refine s_run rfl rfl (rmt rfl) ?_
   refine s_run rfl rfl (r_ext (v := .agg _) rfl rfl) ?_
   refine s_run rfl rfl (r_ext (v := .int _ _) rfl rfl) ?_
   refine s_al H rfl inf25 ?_
   intro p5 _ H'; clear H; have H := H'; clear H'
   refine s_sw H 0 rfl rfl rfl rfl rfl rfl rfl sz25 ?_
   clear H; intro _ H; simp only [jA, jB, jC, jD, jE, jF, jG, jH, jI, jJ, jK, Nat.reduceAdd] at H
   refine s_run rfl rfl (rai rfl) ?_
   refine k_nc ?_
   refine k_sg ?_
   refine s_run rfl rfl (r_la H 1 rfl rfl rfl ag25 sz25) ?_
   refine s_call rfl (hB _ H.only) (ca28 rfl) ?_
   rintro e W1 ⟨⟨b', ob, rfl, kb, hob, erb, enb, bn, bm, bml, bp⟩, H'⟩
   refine ⟨_, rfl, ?_⟩
   have H := H.same H'; clear H'
   refine s_run rfl rfl (rmt rfl) ?_
   refine s_run rfl rfl (r_ext (v := .agg _) rfl rfl) ?_
   refine s_run rfl rfl (r_ext (v := .int _ _) rfl rfl) ?_
   refine s_al H rfl inf25 ?_
   intro p7 _ H'; clear H; have H := H'; clear H'
   refine s_sw H 0 rfl rfl rfl rfl rfl rfl rfl sz25 ?_
   clear H; intro _ H; simp only [jA, jB, jC, jD, jE, jF, jG, jH, jI, jJ, jK, Nat.reduceAdd] at H
   refine s_run rfl rfl (rai rfl) ?_
   refine k_nc ?_
   refine k_sg ?_
   refine s_run rfl rfl (rmi rfl) ?_
   refine s_run rfl rfl (r_eqlF rfl rfl (by omega)) ?_
   refine s_run rfl rfl (rmb rfl) ?_
   refine s_off rfl (g_off 21 (by kernel_rfl) rfl rfl) ?_
   refine s_off rfl (g_off 21 (by kernel_rfl) rfl rfl) ?_
   refine s_run rfl rfl (r_pkF (v := .bool _) rfl rfl) ?_
   refine s_run rfl rfl (rmb rfl) ?_
   refine s_off rfl (g_off 25 (by kernel_rfl) rfl rfl) ?_
   refine s_off rfl (g_off 25 (by kernel_rfl) rfl rfl) ?_
   refine s_off rfl (g_off 25 (by kernel_rfl) rfl rfl) ?_
   refine s_run rfl rfl (r_pkF (v := .bool _) rfl rfl) ?_
   refine s_run rfl rfl (rab rfl) ?_
   refine k_nc ?_
   refine k_ret ?_
   refine fin1r (v := .bool _) rfl rfl ?_
   exact ⟨⟨false, rfl, (fun _ => rfl), (fun h => by cases h)⟩, H.only⟩
  | false =>
   have hB := fun W (h : Only [] w W) => gCanon0 b W (hb.later h (by simp)) rb
   unfold GrS.cells at hA hB ⊢
   refine k_in (N := 30) Try.func20 rfl rfl rfl ?_
   refine k_sg ?_
   refine s_box H rfl rfl ?_
   intro p2 _ H'; clear H; have H := H'; clear H'
   refine s_box H rfl rfl ?_
   intro p3 _ H'; clear H; have H := H'; clear H'
   refine s_run rfl rfl (rab rfl) ?_
   refine k_nc ?_
   refine k_sg ?_
   refine s_run rfl rfl (r_la H 1 rfl rfl rfl ag25 sz25) ?_
   refine s_call rfl (hA _ H.only) (ca28 rfl) ?_
   rintro e W1 ⟨rfl, H'⟩
   refine ⟨_, rfl, ?_⟩
   have H := H.same H'; clear H'
   refine s_run rfl rfl (rmt rfl) ?_
   refine s_run rfl rfl (r_ext (v := .agg _) rfl rfl) ?_
   refine s_run rfl rfl (r_ext (v := .int _ _) rfl rfl) ?_
   refine s_al H rfl inf25 ?_
   intro p5 _ H'; clear H; have H := H'; clear H'
   refine s_sw H 0 rfl rfl rfl rfl rfl rfl rfl sz25 ?_
   clear H; intro _ H; simp only [jA, jB, jC, jD, jE, jF, jG, jH, jI, jJ, jK, Nat.reduceAdd] at H
   refine s_run rfl rfl (rai rfl) ?_
   refine k_nc ?_
   refine k_sg ?_
   refine s_run rfl rfl (r_la H 1 rfl rfl rfl ag25 sz25) ?_
   refine s_call rfl (hB _ H.only) (ca28 rfl) ?_
   rintro e W1 ⟨rfl, H'⟩
   refine ⟨_, rfl, ?_⟩
   have H := H.same H'; clear H'
   refine s_run rfl rfl (rmt rfl) ?_
   refine s_run rfl rfl (r_ext (v := .agg _) rfl rfl) ?_
   refine s_run rfl rfl (r_ext (v := .int _ _) rfl rfl) ?_
   refine s_al H rfl inf25 ?_
   intro p7 _ H'; clear H; have H := H'; clear H'
   refine s_sw H 0 rfl rfl rfl rfl rfl rfl rfl sz25 ?_
   clear H; intro _ H; simp only [jA, jB, jC, jD, jE, jF, jG, jH, jI, jJ, jK, Nat.reduceAdd] at H
   refine s_run rfl rfl (rai rfl) ?_
   refine k_nc ?_
   refine k_sg ?_
   refine s_run rfl rfl (rmi rfl) ?_
   refine s_run rfl rfl (r_eqlF rfl rfl (by omega)) ?_
   refine s_run rfl rfl (rmb rfl) ?_
   refine s_off rfl (g_off 21 (by kernel_rfl) rfl rfl) ?_
   refine s_off rfl (g_off 21 (by kernel_rfl) rfl rfl) ?_
   refine s_run rfl rfl (r_pkF (v := .bool _) rfl rfl) ?_
   refine s_run rfl rfl (rmb rfl) ?_
   refine s_off rfl (g_off 25 (by kernel_rfl) rfl rfl) ?_
   refine s_off rfl (g_off 25 (by kernel_rfl) rfl rfl) ?_
   refine s_off rfl (g_off 25 (by kernel_rfl) rfl rfl) ?_
   refine s_run rfl rfl (r_pkF (v := .bool _) rfl rfl) ?_
   refine s_run rfl rfl (rab rfl) ?_
   refine k_nc ?_
   refine k_ret ?_
   refine fin1r (v := .bool _) rfl rfl ?_
   exact ⟨⟨false, rfl, (fun _ => rfl), (fun h => by cases h)⟩, H.only⟩
end Go.Proofs.Ytdgmlfpikgjnlaa
end

section
namespace Go.Proofs.Ytdgmlfpikgjnlaa
open Go.RowKit
set_option maxRecDepth 100000
set_option maxHeartbeats 2000000
theorem dRight (g : GrS) (w : World) (hg : GrOk w [] g) :
  Calls Try.prog 18 [.agg g.cells.toArray].toArray w fun e w' => e = .returned (.bool (rightB g)) ∧ Only [] w w' := by
 have H := Heap.nil w
 have hrs := hg.rs
 have hrl := hg.rl
 have hmb := hg.mb
 have hnb := hg.nb
 have hnl := hg.nl
 have hbad1 : ∀ r ∈ g.rs, ¬ okP g.m r → rightB g = false := fun r hr hn => decide_eq_false fun h => hn (h.1 r hr)
 have hbad2 : ∀ x ∈ g.ns, ¬ okN g.m x → rightB g = false := fun r hr hn => decide_eq_false fun h => hn (h.2 r hr)
 have hgood : (∀ j r, j < g.n → g.rs[j]? = some r → okP g.m r) → (∀ j x, j < g.m → g.ns[j]? = some x → okN g.m x) → rightB g = true := fun h1 h2 => decide_eq_true ⟨fun r hr => by
  obtain ⟨j, hj, rfl⟩ := List.mem_iff_getElem.1 hr
  exact h1 j _ (by omega) (List.getElem?_eq_getElem hj), fun r hr => by
  obtain ⟨j, hj, rfl⟩ := List.mem_iff_getElem.1 hr
  exact h2 j _ (by omega) (List.getElem?_eq_getElem hj)⟩
 unfold GrS.cells
 refine k_in (N := 77) Try.func18 rfl rfl rfl ?_
 refine k_sg ?_
 refine s_box H rfl rfl ?_
 intro p1 _ H'; clear H; have H := H'; clear H'
 refine s_run rfl rfl (rab rfl) ?_
 refine k_nc ?_
 refine k_seq ?_
 refine k_sg ?_
 refine s_run rfl rfl (rai rfl) ?_
 refine k_nc ?_
 refine k_b ?_
 refine k_loop (fun z f W => ∃ i : Nat, i ≤ g.n ∧ z = g.n - i ∧ (∀ j r, j < i → g.rs[j]? = some r → okP g.m r) ∧ f 1 = ptr p1 ∧ f 3 = .int .i64 i ∧ Heap w [] [blk p1 [.slice g.A g.n g.c, .slice g.B g.m g.d] 30] W) g.n ⟨0, by omega, rfl, by omega, rfl, rfl, H⟩ ?_
 clear H
 rintro z f W ⟨i, hi, rfl, hall, f1, f3, H⟩
 obtain ⟨f, rfl⟩ := live2 f1 f3
 clear f1 f3
 by_cases hlt : i < g.n
 ·obtain ⟨r, hr⟩ : ∃ r, g.rs[i]? = some r := ⟨_, List.getElem?_eq_getElem (by omega)⟩
  obtain ⟨b, o, hA, _, hrd⟩ := hrs (by omega)
  have hcell := hrd i r hr
  rw [hA] at H
  by_cases hok : okP g.m r
  ·have hok2 := hok
   unfold okP at hok2
   refine k_seq ?_
   refine k_sg ?_
   refine s_run rfl rfl (rmi rfl) ?_
   refine s_run rfl rfl (r_fa0 rfl fo30_0) ?_
   refine s_run rfl rfl (r_lo H 0 rfl rfl rfl ag22) ?_
   refine s_run rfl rfl (r_len rfl Try.underlying22) ?_
   refine s_run rfl rfl (r_lssT rfl rfl (by omega)) ?_
   refine k_nc ?_
   refine k_t rfl ?_
   refine k_skip ?_
   refine c_norm ?_
   refine k_seq ?_
   refine k_b ?_
   refine k_seq ?_
   refine k_q mixed (by kernel_rfl) H ?_
   refine q_run rfl rfl (fun _ H => r_fa0 rfl fo30_0) ?_
   refine q_run rfl rfl (fun _ H => r_lo H 0 rfl rfl rfl ag22) ?_
   refine q_run rfl rfl (fun _ H => r_mv (v := .int _ _) rfl) ?_
   refine q_run rfl rfl (fun _ H => r_ix1o (i := i) rfl rfl (by omega) (by omega) Try.underlying22 sz3) ?_
   refine q_run rfl rfl (fun _ H => r_lr H rfl hcell (by simp) ag3) ?_
   refine q_run rfl rfl (fun _ H => r_lssF rfl rfl (by omega)) ?_
   refine q_run rfl rfl (fun _ H => r_mv (v := .bool _) rfl) ?_
   refine q_run rfl (g_on 20 (by kernel_rfl) rfl) (fun _ H => r_fa0 rfl fo30_0) ?_
   refine q_run rfl (g_on 20 (by kernel_rfl) rfl) (fun _ H => r_lo H 0 rfl rfl rfl ag22) ?_
   refine q_run rfl (g_on 20 (by kernel_rfl) rfl) (fun _ H => r_mv (v := .int _ _) rfl) ?_
   refine q_run rfl (g_on 20 (by kernel_rfl) rfl) (fun _ H => r_ix1o (i := i) rfl rfl (by omega) (by omega) Try.underlying22 sz3) ?_
   refine q_run rfl (g_on 20 (by kernel_rfl) rfl) (fun _ H => r_lr H rfl hcell (by simp) ag3) ?_
   refine q_run rfl (g_on 20 (by kernel_rfl) rfl) (fun _ H => r_fa0 rfl fo30_1) ?_
   refine q_run rfl (g_on 20 (by kernel_rfl) rfl) (fun _ H => r_lo H 0 rfl rfl rfl ag28) ?_
   refine q_run rfl (g_on 20 (by kernel_rfl) rfl) (fun _ H => r_len rfl Try.underlying28) ?_
   refine q_run rfl (g_on 20 (by kernel_rfl) rfl) (fun _ H => r_geqF rfl rfl (by omega)) ?_
   refine q_run rfl rfl (fun _ H => r_pkF (v := .bool _) rfl rfl) ?_
   refine q_nil ?_
   intro _ H'; clear H; have H := H'; clear H'
   refine c_norm ?_
   refine k_f rfl ?_
   refine k_skip ?_
   refine b_norm ?_
   refine c_norm ?_
   refine k_rg ?_
   refine s_run rfl rfl (rmi rfl) ?_
   refine s_run rfl rfl (r_add rfl rfl (wI (by omega))) ?_
   refine s_run rfl rfl (rai rfl) ?_
   refine k_nil ?_
   refine c_round ?_
   rw [← hA] at H
   refine ⟨_, _, ?_, rfl, i + 1, by omega, rfl, fun j q hj hq => ?_, rfl, rfl, H⟩
   ·omega
   ·by_cases e : j = i
    ·subst e; rw [hr] at hq; injection hq with hq; subst hq; exact hok
    ·exact hall j q (by omega) hq
  ·rw [hbad1 r (List.mem_of_getElem? hr) hok]
   unfold okP at hok
   by_cases h1 : r < -1
   ·refine k_seq ?_
    refine k_sg ?_
    refine s_run rfl rfl (rmi rfl) ?_
    refine s_run rfl rfl (r_fa0 rfl fo30_0) ?_
    refine s_run rfl rfl (r_lo H 0 rfl rfl rfl ag22) ?_
    refine s_run rfl rfl (r_len rfl Try.underlying22) ?_
    refine s_run rfl rfl (r_lssT rfl rfl (by omega)) ?_
    refine k_nc ?_
    refine k_t rfl ?_
    refine k_skip ?_
    refine c_norm ?_
    refine k_seq ?_
    refine k_b ?_
    refine k_seq ?_
    refine k_q mixed (by kernel_rfl) H ?_
    refine q_run rfl rfl (fun _ H => r_fa0 rfl fo30_0) ?_
    refine q_run rfl rfl (fun _ H => r_lo H 0 rfl rfl rfl ag22) ?_
    refine q_run rfl rfl (fun _ H => r_mv (v := .int _ _) rfl) ?_
    refine q_run rfl rfl (fun _ H => r_ix1o (i := i) rfl rfl (by omega) (by omega) Try.underlying22 sz3) ?_
    refine q_run rfl rfl (fun _ H => r_lr H rfl hcell (by simp) ag3) ?_
    refine q_run rfl rfl (fun _ H => r_lssT rfl rfl (by omega)) ?_
    refine q_run rfl rfl (fun _ H => r_mv (v := .bool _) rfl) ?_
    refine q_off rfl (g_off 20 (by kernel_rfl) rfl rfl) ?_
    refine q_off rfl (g_off 20 (by kernel_rfl) rfl rfl) ?_
    refine q_off rfl (g_off 20 (by kernel_rfl) rfl rfl) ?_
    refine q_off rfl (g_off 20 (by kernel_rfl) rfl rfl) ?_
    refine q_off rfl (g_off 20 (by kernel_rfl) rfl rfl) ?_
    refine q_off rfl (g_off 20 (by kernel_rfl) rfl rfl) ?_
    refine q_off rfl (g_off 20 (by kernel_rfl) rfl rfl) ?_
    refine q_off rfl (g_off 20 (by kernel_rfl) rfl rfl) ?_
    refine q_off rfl (g_off 20 (by kernel_rfl) rfl rfl) ?_
    refine q_run rfl rfl (fun _ H => r_pkT (v := .bool _) rfl rfl) ?_
    refine q_nil ?_
    intro _ H'; clear H; have H := H'; clear H'
    refine c_norm ?_
    refine k_t rfl ?_
    refine k_sg ?_
    refine s_run rfl rfl (rab rfl) ?_
    refine k_nc ?_
    refine k_ret ?_
    refine b_ret ?_
    refine c_ret ?_
    refine c_ret ?_
    refine b_ret ?_
    refine c_ret ?_
    refine fin1r (v := .bool _) rfl rfl ?_
    exact ⟨rfl, H.only⟩
   ·refine k_seq ?_
    refine k_sg ?_
    refine s_run rfl rfl (rmi rfl) ?_
    refine s_run rfl rfl (r_fa0 rfl fo30_0) ?_
    refine s_run rfl rfl (r_lo H 0 rfl rfl rfl ag22) ?_
    refine s_run rfl rfl (r_len rfl Try.underlying22) ?_
    refine s_run rfl rfl (r_lssT rfl rfl (by omega)) ?_
    refine k_nc ?_
    refine k_t rfl ?_
    refine k_skip ?_
    refine c_norm ?_
    refine k_seq ?_
    refine k_b ?_
    refine k_seq ?_
    refine k_q mixed (by kernel_rfl) H ?_
    refine q_run rfl rfl (fun _ H => r_fa0 rfl fo30_0) ?_
    refine q_run rfl rfl (fun _ H => r_lo H 0 rfl rfl rfl ag22) ?_
    refine q_run rfl rfl (fun _ H => r_mv (v := .int _ _) rfl) ?_
    refine q_run rfl rfl (fun _ H => r_ix1o (i := i) rfl rfl (by omega) (by omega) Try.underlying22 sz3) ?_
    refine q_run rfl rfl (fun _ H => r_lr H rfl hcell (by simp) ag3) ?_
    refine q_run rfl rfl (fun _ H => r_lssF rfl rfl (by omega)) ?_
    refine q_run rfl rfl (fun _ H => r_mv (v := .bool _) rfl) ?_
    refine q_run rfl (g_on 20 (by kernel_rfl) rfl) (fun _ H => r_fa0 rfl fo30_0) ?_
    refine q_run rfl (g_on 20 (by kernel_rfl) rfl) (fun _ H => r_lo H 0 rfl rfl rfl ag22) ?_
    refine q_run rfl (g_on 20 (by kernel_rfl) rfl) (fun _ H => r_mv (v := .int _ _) rfl) ?_
    refine q_run rfl (g_on 20 (by kernel_rfl) rfl) (fun _ H => r_ix1o (i := i) rfl rfl (by omega) (by omega) Try.underlying22 sz3) ?_
    refine q_run rfl (g_on 20 (by kernel_rfl) rfl) (fun _ H => r_lr H rfl hcell (by simp) ag3) ?_
    refine q_run rfl (g_on 20 (by kernel_rfl) rfl) (fun _ H => r_fa0 rfl fo30_1) ?_
    refine q_run rfl (g_on 20 (by kernel_rfl) rfl) (fun _ H => r_lo H 0 rfl rfl rfl ag28) ?_
    refine q_run rfl (g_on 20 (by kernel_rfl) rfl) (fun _ H => r_len rfl Try.underlying28) ?_
    refine q_run rfl (g_on 20 (by kernel_rfl) rfl) (fun _ H => r_geqT rfl rfl (by omega)) ?_
    refine q_run rfl rfl (fun _ H => r_pkF (v := .bool _) rfl rfl) ?_
    refine q_nil ?_
    intro _ H'; clear H; have H := H'; clear H'
    refine c_norm ?_
    refine k_t rfl ?_
    refine k_sg ?_
    refine s_run rfl rfl (rab rfl) ?_
    refine k_nc ?_
    refine k_ret ?_
    refine b_ret ?_
    refine c_ret ?_
    refine c_ret ?_
    refine b_ret ?_
    refine c_ret ?_
    refine fin1r (v := .bool _) rfl rfl ?_
    exact ⟨rfl, H.only⟩
 ·obtain rfl : i = g.n := by omega
  refine k_seq ?_
  refine k_sg ?_
  refine s_run rfl rfl (rmi rfl) ?_
  refine s_run rfl rfl (r_fa0 rfl fo30_0) ?_
  refine s_run rfl rfl (r_lo H 0 rfl rfl rfl ag22) ?_
  refine s_run rfl rfl (r_len rfl Try.underlying22) ?_
  refine s_run rfl rfl (r_lssF rfl rfl (by omega)) ?_
  refine k_nc ?_
  refine k_f rfl ?_
  refine k_exit ?_
  refine c_exit ?_
  refine c_exit ?_
  refine b_hit ?_
  refine c_norm ?_
  refine k_seq ?_
  refine k_sg ?_
  refine s_run rfl rfl (rai rfl) ?_
  refine k_nc ?_
  refine k_b ?_
  refine k_loop (fun z f W => ∃ i : Nat, i ≤ g.m ∧ z = g.m - i ∧ (∀ j x, j < i → g.ns[j]? = some x → okN g.m x) ∧ f 1 = ptr p1 ∧ f 4 = .int .i64 i ∧ Heap w [] [blk p1 [.slice g.A g.n g.c, .slice g.B g.m g.d] 30] W) g.m ⟨0, by omega, rfl, by omega, rfl, rfl, H⟩ ?_
  clear H
  rintro z f W ⟨i, hi, rfl, hall2, f1, f4, H⟩
  obtain ⟨f, rfl⟩ := live2 f1 f4
  clear f1 f4
  by_cases hlt : i < g.m
  ·obtain ⟨x, hx⟩ : ∃ x, g.ns[i]? = some x := ⟨_, List.getElem?_eq_getElem (by omega)⟩
   have hxm := List.mem_of_getElem? hx
   obtain ⟨b, o, hB, _, hrd⟩ := hg.ns.1 (by omega)
   have hrx := hrd i x hx
   have hxo := hg.ns.2 x hxm
   have hxn := hxo.nb
   have hxd := hxo.mb
   have hpl := hxo.pl
   rw [hB] at H
   unfold NodeS.cells at hrx
   by_cases h63 : x.n ≤ 63
   ·by_cases hd : x.m ≤ 16384
    ·refine k_seq ?_
     refine k_sg ?_
     refine s_run rfl rfl (rmi rfl) ?_
     refine s_run rfl rfl (r_fa0 rfl fo30_1) ?_
     refine s_run rfl rfl (r_lo H 0 rfl rfl rfl ag28) ?_
     refine s_run rfl rfl (r_len rfl Try.underlying28) ?_
     refine s_run rfl rfl (r_lssT rfl rfl (by omega)) ?_
     refine k_nc ?_
     refine k_t rfl ?_
     refine k_skip ?_
     refine c_norm ?_
     refine k_seq ?_
     refine k_b ?_
     refine k_sg ?_
     refine s_run rfl rfl (r_fa0 rfl fo30_1) ?_
     refine s_run rfl rfl (r_lo H 0 rfl rfl rfl ag28) ?_
     refine s_run rfl rfl (rmi rfl) ?_
     refine s_run rfl rfl (r_ix (i := i) rfl rfl (by omega) (by omega) Try.underlying28 sz40) ?_
     refine s_run rfl rfl (r_lA (enc := fun v : Value => v) (zs := [.slice x.A x.n x.c, .slice x.B x.m x.d]) (hrx.later H.only (by simp)) rfl rfl ag40 sz40) ?_
     refine s_al H rfl inf40 ?_
     intro p5 _ H'; clear H; have H := H'; clear H'
     refine s_sw H 0 rfl rfl rfl rfl rfl rfl rfl sz40 ?_
     clear H; intro _ H; simp only [jA, jB, jC, jD, jE, jF, jG, jH, jI, jJ, jK, Nat.reduceAdd] at H
     refine k_nc ?_
     refine k_seq ?_
     refine k_sg ?_
     refine s_run rfl rfl (r_fa0 rfl fo40_0) ?_
     refine s_run rfl rfl (r_lo H 0 rfl rfl rfl ag22) ?_
     refine s_run rfl rfl (r_len rfl Try.underlying22) ?_
     refine s_run rfl rfl (r_gtrF rfl rfl (by omega)) ?_
     refine s_run rfl rfl (rmb rfl) ?_
     refine s_run rfl (g_on 47 (by kernel_rfl) rfl) (r_fa0 rfl fo40_1) ?_
     refine s_run rfl (g_on 47 (by kernel_rfl) rfl) (r_lo H 0 rfl rfl rfl ag37) ?_
     refine s_run rfl (g_on 47 (by kernel_rfl) rfl) (r_len rfl Try.underlying37) ?_
     refine s_run rfl (g_on 47 (by kernel_rfl) rfl) (r_gtrF rfl rfl (by omega)) ?_
     refine s_run rfl rfl (r_pkF (v := .bool _) rfl rfl) ?_
     refine k_nc ?_
     refine k_f rfl ?_
     refine k_skip ?_
     refine c_norm ?_
     refine k_sg ?_
     refine s_run rfl rfl (rai rfl) ?_
     refine k_nc ?_
     refine k_b ?_
     rw [← hB] at H
     refine k_loop (fun z f W => ∃ k : Nat, k ≤ x.n ∧ z = x.n - k ∧ (∀ j p, j < k → x.ps[j]? = some p → okP g.m p) ∧ f 1 = ptr p1 ∧ f 4 = .int .i64 i ∧ f 5 = ptr p5 ∧ f 6 = .int .i64 k ∧ Heap w [] [blk p5 [.slice x.A x.n x.c, .slice x.B x.m x.d] 40, blk p1 [.slice g.A g.n g.c, .slice g.B g.m g.d] 30] W) x.n ⟨0, by omega, rfl, by omega, rfl, rfl, rfl, rfl, H⟩ ?_
     clear H
     rintro z f W ⟨k, hk, rfl, hall3, f1, f4, f5, f6, H⟩
     obtain ⟨f, rfl⟩ := live4 f1 f4 f5 f6
     clear f1 f4 f5 f6
     by_cases hkl : k < x.n
     ·obtain ⟨q, hq⟩ : ∃ q, x.ps[k]? = some q := ⟨_, List.getElem?_eq_getElem (by omega)⟩
      obtain ⟨b2, o2, hA2, _, hrd2⟩ := hxo.ps (by omega)
      have hcell := hrd2 k q hq
      rw [hA2] at H
      by_cases hok : okP g.m q
      ·have hok2 := hok
       unfold okP at hok2
       refine k_seq ?_
       refine k_sg ?_
       refine s_run rfl rfl (rmi rfl) ?_
       refine s_run rfl rfl (r_fa0 rfl fo40_0) ?_
       refine s_run rfl rfl (r_lo H 0 rfl rfl rfl ag22) ?_
       refine s_run rfl rfl (r_len rfl Try.underlying22) ?_
       refine s_run rfl rfl (r_lssT rfl rfl (by omega)) ?_
       refine k_nc ?_
       refine k_t rfl ?_
       refine k_skip ?_
       refine c_norm ?_
       refine k_seq ?_
       refine k_b ?_
       refine k_seq ?_
       refine k_q mixed (by kernel_rfl) H ?_
       refine q_run rfl rfl (fun _ H => r_fa0 rfl fo40_0) ?_
       refine q_run rfl rfl (fun _ H => r_lo H 0 rfl rfl rfl ag22) ?_
       refine q_run rfl rfl (fun _ H => r_mv (v := .int _ _) rfl) ?_
       refine q_run rfl rfl (fun _ H => r_ix1o (i := k) rfl rfl (by omega) (by omega) Try.underlying22 sz3) ?_
       refine q_run rfl rfl (fun _ H => r_lr H rfl hcell (by simp) ag3) ?_
       refine q_run rfl rfl (fun _ H => r_lssF rfl rfl (by omega)) ?_
       refine q_run rfl rfl (fun _ H => r_mv (v := .bool _) rfl) ?_
       refine q_run rfl (g_on 66 (by kernel_rfl) rfl) (fun _ H => r_fa0 rfl fo40_0) ?_
       refine q_run rfl (g_on 66 (by kernel_rfl) rfl) (fun _ H => r_lo H 0 rfl rfl rfl ag22) ?_
       refine q_run rfl (g_on 66 (by kernel_rfl) rfl) (fun _ H => r_mv (v := .int _ _) rfl) ?_
       refine q_run rfl (g_on 66 (by kernel_rfl) rfl) (fun _ H => r_ix1o (i := k) rfl rfl (by omega) (by omega) Try.underlying22 sz3) ?_
       refine q_run rfl (g_on 66 (by kernel_rfl) rfl) (fun _ H => r_lr H rfl hcell (by simp) ag3) ?_
       refine q_run rfl (g_on 66 (by kernel_rfl) rfl) (fun _ H => r_fa0 rfl fo30_1) ?_
       refine q_run rfl (g_on 66 (by kernel_rfl) rfl) (fun _ H => r_lo H 1 rfl rfl rfl ag28) ?_
       refine q_run rfl (g_on 66 (by kernel_rfl) rfl) (fun _ H => r_len rfl Try.underlying28) ?_
       refine q_run rfl (g_on 66 (by kernel_rfl) rfl) (fun _ H => r_geqF rfl rfl (by omega)) ?_
       refine q_run rfl rfl (fun _ H => r_pkF (v := .bool _) rfl rfl) ?_
       refine q_nil ?_
       intro _ H'; clear H; have H := H'; clear H'
       refine c_norm ?_
       refine k_f rfl ?_
       refine k_skip ?_
       refine b_norm ?_
       refine c_norm ?_
       refine k_rg ?_
       refine s_run rfl rfl (rmi rfl) ?_
       refine s_run rfl rfl (r_add rfl rfl (wI (by omega))) ?_
       refine s_run rfl rfl (rai rfl) ?_
       refine k_nil ?_
       refine c_round ?_
       rw [← hA2] at H
       refine ⟨_, _, ?_, rfl, k + 1, by omega, rfl, fun j p hj hp => ?_, rfl, rfl, rfl, rfl, H⟩
       ·omega
       ·by_cases e : j = k
        ·subst e; rw [hq] at hp; injection hp with hp; subst hp; exact hok
        ·exact hall3 j p (by omega) hp
      ·rw [hbad2 x hxm (fun h => hok (h.2.2 q (List.mem_of_getElem? hq)))]
       unfold okP at hok
       by_cases h1 : q < -1
       ·refine k_seq ?_
        refine k_sg ?_
        refine s_run rfl rfl (rmi rfl) ?_
        refine s_run rfl rfl (r_fa0 rfl fo40_0) ?_
        refine s_run rfl rfl (r_lo H 0 rfl rfl rfl ag22) ?_
        refine s_run rfl rfl (r_len rfl Try.underlying22) ?_
        refine s_run rfl rfl (r_lssT rfl rfl (by omega)) ?_
        refine k_nc ?_
        refine k_t rfl ?_
        refine k_skip ?_
        refine c_norm ?_
        refine k_seq ?_
        refine k_b ?_
        refine k_seq ?_
        refine k_q mixed (by kernel_rfl) H ?_
        refine q_run rfl rfl (fun _ H => r_fa0 rfl fo40_0) ?_
        refine q_run rfl rfl (fun _ H => r_lo H 0 rfl rfl rfl ag22) ?_
        refine q_run rfl rfl (fun _ H => r_mv (v := .int _ _) rfl) ?_
        refine q_run rfl rfl (fun _ H => r_ix1o (i := k) rfl rfl (by omega) (by omega) Try.underlying22 sz3) ?_
        refine q_run rfl rfl (fun _ H => r_lr H rfl hcell (by simp) ag3) ?_
        refine q_run rfl rfl (fun _ H => r_lssT rfl rfl (by omega)) ?_
        refine q_run rfl rfl (fun _ H => r_mv (v := .bool _) rfl) ?_
        refine q_off rfl (g_off 66 (by kernel_rfl) rfl rfl) ?_
        refine q_off rfl (g_off 66 (by kernel_rfl) rfl rfl) ?_
        refine q_off rfl (g_off 66 (by kernel_rfl) rfl rfl) ?_
        refine q_off rfl (g_off 66 (by kernel_rfl) rfl rfl) ?_
        refine q_off rfl (g_off 66 (by kernel_rfl) rfl rfl) ?_
        refine q_off rfl (g_off 66 (by kernel_rfl) rfl rfl) ?_
        refine q_off rfl (g_off 66 (by kernel_rfl) rfl rfl) ?_
        refine q_off rfl (g_off 66 (by kernel_rfl) rfl rfl) ?_
        refine q_off rfl (g_off 66 (by kernel_rfl) rfl rfl) ?_
        refine q_run rfl rfl (fun _ H => r_pkT (v := .bool _) rfl rfl) ?_
        refine q_nil ?_
        intro _ H'; clear H; have H := H'; clear H'
        refine c_norm ?_
        refine k_t rfl ?_
        refine k_sg ?_
        refine s_run rfl rfl (rab rfl) ?_
        refine k_nc ?_
        refine k_ret ?_
        refine b_ret ?_
        refine c_ret ?_
        refine c_ret ?_
        refine b_ret ?_
        refine b_ret ?_
        refine c_ret ?_
        refine c_ret ?_
        refine b_ret ?_
        refine c_ret ?_
        refine fin1r (v := .bool _) rfl rfl ?_
        exact ⟨rfl, H.only⟩
       ·refine k_seq ?_
        refine k_sg ?_
        refine s_run rfl rfl (rmi rfl) ?_
        refine s_run rfl rfl (r_fa0 rfl fo40_0) ?_
        refine s_run rfl rfl (r_lo H 0 rfl rfl rfl ag22) ?_
        refine s_run rfl rfl (r_len rfl Try.underlying22) ?_
        refine s_run rfl rfl (r_lssT rfl rfl (by omega)) ?_
        refine k_nc ?_
        refine k_t rfl ?_
        refine k_skip ?_
        refine c_norm ?_
        refine k_seq ?_
        refine k_b ?_
        refine k_seq ?_
        refine k_q mixed (by kernel_rfl) H ?_
        refine q_run rfl rfl (fun _ H => r_fa0 rfl fo40_0) ?_
        refine q_run rfl rfl (fun _ H => r_lo H 0 rfl rfl rfl ag22) ?_
        refine q_run rfl rfl (fun _ H => r_mv (v := .int _ _) rfl) ?_
        refine q_run rfl rfl (fun _ H => r_ix1o (i := k) rfl rfl (by omega) (by omega) Try.underlying22 sz3) ?_
        refine q_run rfl rfl (fun _ H => r_lr H rfl hcell (by simp) ag3) ?_
        refine q_run rfl rfl (fun _ H => r_lssF rfl rfl (by omega)) ?_
        refine q_run rfl rfl (fun _ H => r_mv (v := .bool _) rfl) ?_
        refine q_run rfl (g_on 66 (by kernel_rfl) rfl) (fun _ H => r_fa0 rfl fo40_0) ?_
        refine q_run rfl (g_on 66 (by kernel_rfl) rfl) (fun _ H => r_lo H 0 rfl rfl rfl ag22) ?_
        refine q_run rfl (g_on 66 (by kernel_rfl) rfl) (fun _ H => r_mv (v := .int _ _) rfl) ?_
        refine q_run rfl (g_on 66 (by kernel_rfl) rfl) (fun _ H => r_ix1o (i := k) rfl rfl (by omega) (by omega) Try.underlying22 sz3) ?_
        refine q_run rfl (g_on 66 (by kernel_rfl) rfl) (fun _ H => r_lr H rfl hcell (by simp) ag3) ?_
        refine q_run rfl (g_on 66 (by kernel_rfl) rfl) (fun _ H => r_fa0 rfl fo30_1) ?_
        refine q_run rfl (g_on 66 (by kernel_rfl) rfl) (fun _ H => r_lo H 1 rfl rfl rfl ag28) ?_
        refine q_run rfl (g_on 66 (by kernel_rfl) rfl) (fun _ H => r_len rfl Try.underlying28) ?_
        refine q_run rfl (g_on 66 (by kernel_rfl) rfl) (fun _ H => r_geqT rfl rfl (by omega)) ?_
        refine q_run rfl rfl (fun _ H => r_pkF (v := .bool _) rfl rfl) ?_
        refine q_nil ?_
        intro _ H'; clear H; have H := H'; clear H'
        refine c_norm ?_
        refine k_t rfl ?_
        refine k_sg ?_
        refine s_run rfl rfl (rab rfl) ?_
        refine k_nc ?_
        refine k_ret ?_
        refine b_ret ?_
        refine c_ret ?_
        refine c_ret ?_
        refine b_ret ?_
        refine b_ret ?_
        refine c_ret ?_
        refine c_ret ?_
        refine b_ret ?_
        refine c_ret ?_
        refine fin1r (v := .bool _) rfl rfl ?_
        exact ⟨rfl, H.only⟩
     ·obtain rfl : k = x.n := by omega
      refine k_seq ?_
      refine k_sg ?_
      refine s_run rfl rfl (rmi rfl) ?_
      refine s_run rfl rfl (r_fa0 rfl fo40_0) ?_
      refine s_run rfl rfl (r_lo H 0 rfl rfl rfl ag22) ?_
      refine s_run rfl rfl (r_len rfl Try.underlying22) ?_
      refine s_run rfl rfl (r_lssF rfl rfl (by omega)) ?_
      refine k_nc ?_
      refine k_f rfl ?_
      refine k_exit ?_
      refine c_exit ?_
      refine c_exit ?_
      refine b_hit ?_
      refine b_norm ?_
      refine c_norm ?_
      refine k_rg ?_
      refine s_run rfl rfl (rmi rfl) ?_
      refine s_run rfl rfl (r_add rfl rfl (wI (by omega))) ?_
      refine s_run rfl rfl (rai rfl) ?_
      refine k_nil ?_
      refine c_round ?_
      refine ⟨_, _, ?_, rfl, i + 1, by omega, rfl, fun j y hj hy => ?_, rfl, rfl, H.drop⟩
      ·omega
      ·by_cases e : j = i
       ·subst e; rw [hx] at hy; injection hy with hy; subst hy
        refine ⟨h63, hd, fun p hp => ?_⟩
        obtain ⟨j, hj, rfl⟩ := List.mem_iff_getElem.1 hp
        exact hall3 j _ (by omega) (List.getElem?_eq_getElem hj)
       ·exact hall2 j y (by omega) hy
    ·rw [hbad2 x hxm (fun h => hd h.2.1)]
     refine k_seq ?_
     refine k_sg ?_
     refine s_run rfl rfl (rmi rfl) ?_
     refine s_run rfl rfl (r_fa0 rfl fo30_1) ?_
     refine s_run rfl rfl (r_lo H 0 rfl rfl rfl ag28) ?_
     refine s_run rfl rfl (r_len rfl Try.underlying28) ?_
     refine s_run rfl rfl (r_lssT rfl rfl (by omega)) ?_
     refine k_nc ?_
     refine k_t rfl ?_
     refine k_skip ?_
     refine c_norm ?_
     refine k_seq ?_
     refine k_b ?_
     refine k_sg ?_
     refine s_run rfl rfl (r_fa0 rfl fo30_1) ?_
     refine s_run rfl rfl (r_lo H 0 rfl rfl rfl ag28) ?_
     refine s_run rfl rfl (rmi rfl) ?_
     refine s_run rfl rfl (r_ix (i := i) rfl rfl (by omega) (by omega) Try.underlying28 sz40) ?_
     refine s_run rfl rfl (r_lA (enc := fun v : Value => v) (zs := [.slice x.A x.n x.c, .slice x.B x.m x.d]) (hrx.later H.only (by simp)) rfl rfl ag40 sz40) ?_
     refine s_al H rfl inf40 ?_
     intro p5 _ H'; clear H; have H := H'; clear H'
     refine s_sw H 0 rfl rfl rfl rfl rfl rfl rfl sz40 ?_
     clear H; intro _ H; simp only [jA, jB, jC, jD, jE, jF, jG, jH, jI, jJ, jK, Nat.reduceAdd] at H
     refine k_nc ?_
     refine k_seq ?_
     refine k_sg ?_
     refine s_run rfl rfl (r_fa0 rfl fo40_0) ?_
     refine s_run rfl rfl (r_lo H 0 rfl rfl rfl ag22) ?_
     refine s_run rfl rfl (r_len rfl Try.underlying22) ?_
     refine s_run rfl rfl (r_gtrF rfl rfl (by omega)) ?_
     refine s_run rfl rfl (rmb rfl) ?_
     refine s_run rfl (g_on 47 (by kernel_rfl) rfl) (r_fa0 rfl fo40_1) ?_
     refine s_run rfl (g_on 47 (by kernel_rfl) rfl) (r_lo H 0 rfl rfl rfl ag37) ?_
     refine s_run rfl (g_on 47 (by kernel_rfl) rfl) (r_len rfl Try.underlying37) ?_
     refine s_run rfl (g_on 47 (by kernel_rfl) rfl) (r_gtrT rfl rfl (by omega)) ?_
     refine s_run rfl rfl (r_pkF (v := .bool _) rfl rfl) ?_
     refine k_nc ?_
     refine k_t rfl ?_
     refine k_sg ?_
     refine s_run rfl rfl (rab rfl) ?_
     refine k_nc ?_
     refine k_ret ?_
     refine c_ret ?_
     refine b_ret ?_
     refine c_ret ?_
     refine c_ret ?_
     refine b_ret ?_
     refine c_ret ?_
     refine fin1r (v := .bool _) rfl rfl ?_
     exact ⟨rfl, H.only⟩
   ·rw [hbad2 x hxm (fun h => h63 h.1)]
    refine k_seq ?_
    refine k_sg ?_
    refine s_run rfl rfl (rmi rfl) ?_
    refine s_run rfl rfl (r_fa0 rfl fo30_1) ?_
    refine s_run rfl rfl (r_lo H 0 rfl rfl rfl ag28) ?_
    refine s_run rfl rfl (r_len rfl Try.underlying28) ?_
    refine s_run rfl rfl (r_lssT rfl rfl (by omega)) ?_
    refine k_nc ?_
    refine k_t rfl ?_
    refine k_skip ?_
    refine c_norm ?_
    refine k_seq ?_
    refine k_b ?_
    refine k_sg ?_
    refine s_run rfl rfl (r_fa0 rfl fo30_1) ?_
    refine s_run rfl rfl (r_lo H 0 rfl rfl rfl ag28) ?_
    refine s_run rfl rfl (rmi rfl) ?_
    refine s_run rfl rfl (r_ix (i := i) rfl rfl (by omega) (by omega) Try.underlying28 sz40) ?_
    refine s_run rfl rfl (r_lA (enc := fun v : Value => v) (zs := [.slice x.A x.n x.c, .slice x.B x.m x.d]) (hrx.later H.only (by simp)) rfl rfl ag40 sz40) ?_
    refine s_al H rfl inf40 ?_
    intro p5 _ H'; clear H; have H := H'; clear H'
    refine s_sw H 0 rfl rfl rfl rfl rfl rfl rfl sz40 ?_
    clear H; intro _ H; simp only [jA, jB, jC, jD, jE, jF, jG, jH, jI, jJ, jK, Nat.reduceAdd] at H
    refine k_nc ?_
    refine k_seq ?_
    refine k_sg ?_
    refine s_run rfl rfl (r_fa0 rfl fo40_0) ?_
    refine s_run rfl rfl (r_lo H 0 rfl rfl rfl ag22) ?_
    refine s_run rfl rfl (r_len rfl Try.underlying22) ?_
    refine s_run rfl rfl (r_gtrT rfl rfl (by omega)) ?_
    refine s_run rfl rfl (rmb rfl) ?_
    refine s_off rfl (g_off 47 (by kernel_rfl) rfl rfl) ?_
    refine s_off rfl (g_off 47 (by kernel_rfl) rfl rfl) ?_
    refine s_off rfl (g_off 47 (by kernel_rfl) rfl rfl) ?_
    refine s_off rfl (g_off 47 (by kernel_rfl) rfl rfl) ?_
    refine s_run rfl rfl (r_pkT (v := .bool _) rfl rfl) ?_
    refine k_nc ?_
    refine k_t rfl ?_
    refine k_sg ?_
    refine s_run rfl rfl (rab rfl) ?_
    refine k_nc ?_
    refine k_ret ?_
    refine c_ret ?_
    refine b_ret ?_
    refine c_ret ?_
    refine c_ret ?_
    refine b_ret ?_
    refine c_ret ?_
    refine fin1r (v := .bool _) rfl rfl ?_
    exact ⟨rfl, H.only⟩
  ·obtain rfl : i = g.m := by omega
   rw [hgood hall hall2]
   refine k_seq ?_
   refine k_sg ?_
   refine s_run rfl rfl (rmi rfl) ?_
   refine s_run rfl rfl (r_fa0 rfl fo30_1) ?_
   refine s_run rfl rfl (r_lo H 0 rfl rfl rfl ag28) ?_
   refine s_run rfl rfl (r_len rfl Try.underlying28) ?_
   refine s_run rfl rfl (r_lssF rfl rfl (by omega)) ?_
   refine k_nc ?_
   refine k_f rfl ?_
   refine k_exit ?_
   refine c_exit ?_
   refine c_exit ?_
   refine b_hit ?_
   refine c_norm ?_
   refine k_sg ?_
   refine s_run rfl rfl (rab rfl) ?_
   refine k_nc ?_
   refine k_ret ?_
   refine fin1r (v := .bool _) rfl rfl ?_
   exact ⟨rfl, H.only⟩
theorem fnd_first : ∀ (xs : List Int) (i : Nat) (x : Int), xs[i]? = some x → (∀ j, j < i → xs[j]? ≠ some x) → Gr.fnd xs x = (i : Int)
 | [], i, x, h, _ => by simp at h
 | y :: l, 0, x, h, _ => by
  obtain rfl : y = x := by simpa using h
  simp [Gr.fnd]
 | y :: l, i + 1, x, h, hn => by
  have h1 : y ≠ x := fun e => hn 0 (by omega) (by simp [e])
  have h2 := fnd_first l i x (by simpa using h) (fun j hj => by have := hn (j + 1) (by omega); simpa using this)
  unfold Gr.fnd
  rw [if_neg h1, h2]
  have : ¬ (i : Int) < 0 := by omega
  simp [this]
theorem dFind (A : Option Addr) (n c : Nat) (xs : List Int) (x : Int) (w : World) (hS : Sees (Value.int .i64) w [] A xs) (hl : xs.length = n) (hn : n ≤ 100000) :
  Calls Try.prog 57 [.slice A n c, .int .i64 x].toArray w fun e w' => e = .returned (.int .i64 (Gr.fnd xs x)) ∧ Only [] w w' := by
 have H := Heap.nil w
 refine k_in (N := 19) Try.func57 rfl rfl rfl ?_
 refine k_sg ?_
 refine s_run rfl rfl (rai rfl) ?_
 refine k_nc ?_
 refine k_seq ?_
 refine k_sg ?_
 refine s_run rfl rfl (rai rfl) ?_
 refine k_nc ?_
 refine k_b ?_
 refine k_loop (fun z f W => ∃ i : Nat, i ≤ n ∧ z = n - i ∧ (∀ j, j < i → xs[j]? ≠ some x) ∧ f 0 = .slice A n c ∧ f 1 = .int .i64 x ∧ f 5 = .int .i64 i ∧ Heap w [] [] W) n ⟨0, by omega, rfl, by omega, rfl, rfl, rfl, H⟩ ?_
 clear H
 rintro z f W ⟨i, hi, rfl, hall, f0, f1, f5, H⟩
 by_cases hlt : i < n
 ·obtain ⟨y, hy⟩ : ∃ y, xs[i]? = some y := ⟨_, List.getElem?_eq_getElem (by omega)⟩
  obtain ⟨b, o, hA, _, hrd⟩ := hS (by omega)
  have hc := hrd i y hy
  rw [hA] at f0
  obtain ⟨f, rfl⟩ := live3 f0 f1 f5
  clear f0 f1 f5
  by_cases hxy : y = x
  ·subst hxy
   rw [fnd_first xs i y hy hall]
   refine k_seq ?_
   refine k_sg ?_
   refine s_run rfl rfl (rmi rfl) ?_
   refine s_run rfl rfl (rms rfl) ?_
   refine s_run rfl rfl (r_len rfl Try.underlying22) ?_
   refine s_run rfl rfl (r_lssT rfl rfl (by omega)) ?_
   refine k_nc ?_
   refine k_t rfl ?_
   refine k_skip ?_
   refine c_norm ?_
   refine k_seq ?_
   refine k_b ?_
   refine k_sg ?_
   refine s_run rfl rfl (rms rfl) ?_
   refine s_run rfl rfl (rmi rfl) ?_
   refine s_run rfl rfl (r_ix1o (i := i) rfl rfl (by omega) (by omega) Try.underlying22 sz3) ?_
   refine s_run rfl rfl (r_lr H rfl hc (by simp) ag3) ?_
   refine s_run rfl rfl (rmi rfl) ?_
   refine s_run rfl rfl (r_eqlT rfl rfl (by omega)) ?_
   refine k_nc ?_
   refine k_t rfl ?_
   refine k_sg ?_
   refine s_run rfl rfl (rmi rfl) ?_
   refine s_run rfl rfl (rai rfl) ?_
   refine k_nc ?_
   refine k_ret ?_
   refine b_ret ?_
   refine c_ret ?_
   refine c_ret ?_
   refine b_ret ?_
   refine c_ret ?_
   refine fin1r (v := .int _ _) rfl rfl ?_
   exact ⟨rfl, H.only⟩
  ·refine k_seq ?_
   refine k_sg ?_
   refine s_run rfl rfl (rmi rfl) ?_
   refine s_run rfl rfl (rms rfl) ?_
   refine s_run rfl rfl (r_len rfl Try.underlying22) ?_
   refine s_run rfl rfl (r_lssT rfl rfl (by omega)) ?_
   refine k_nc ?_
   refine k_t rfl ?_
   refine k_skip ?_
   refine c_norm ?_
   refine k_seq ?_
   refine k_b ?_
   refine k_sg ?_
   refine s_run rfl rfl (rms rfl) ?_
   refine s_run rfl rfl (rmi rfl) ?_
   refine s_run rfl rfl (r_ix1o (i := i) rfl rfl (by omega) (by omega) Try.underlying22 sz3) ?_
   refine s_run rfl rfl (r_lr H rfl hc (by simp) ag3) ?_
   refine s_run rfl rfl (rmi rfl) ?_
   refine s_run rfl rfl (r_eqlF rfl rfl (by omega)) ?_
   refine k_nc ?_
   refine k_f rfl ?_
   refine k_skip ?_
   refine b_norm ?_
   refine c_norm ?_
   refine k_rg ?_
   refine s_run rfl rfl (rmi rfl) ?_
   refine s_run rfl rfl (r_add rfl rfl (wI (by omega))) ?_
   refine s_run rfl rfl (rai rfl) ?_
   refine k_nil ?_
   refine c_round ?_
   refine ⟨_, _, ?_, rfl, i + 1, by omega, rfl, fun j hj => ?_, by rw [hA]; rfl, rfl, rfl, H⟩
   ·omega
   ·by_cases e : j = i
    ·subst e; rw [hy]; intro h; injection h with h; exact hxy h
    ·exact hall j (by omega)
 ·obtain rfl : i = n := by omega
  obtain ⟨f, rfl⟩ := live3 f0 f1 f5
  clear f0 f1 f5
  rw [Gr.fnd_no xs x (fun h => by
   obtain ⟨j, hj, e⟩ := List.mem_iff_getElem.1 h
   exact hall j (by omega) (by rw [List.getElem?_eq_getElem hj, e]))]
  refine k_seq ?_
  refine k_sg ?_
  refine s_run rfl rfl (rmi rfl) ?_
  refine s_run rfl rfl (rms rfl) ?_
  refine s_run rfl rfl (r_len rfl Try.underlying22) ?_
  refine s_run rfl rfl (r_lssF rfl rfl (by omega)) ?_
  refine k_nc ?_
  refine k_f rfl ?_
  refine k_exit ?_
  refine c_exit ?_
  refine c_exit ?_
  refine b_hit ?_
  refine c_norm ?_
  refine k_sg ?_
  refine s_run rfl rfl (rai rfl) ?_
  refine k_nc ?_
  refine k_ret ?_
  refine fin1r (v := .int _ _) rfl rfl ?_
  exact ⟨rfl, H.only⟩
theorem dNumbers (A : Option Addr) (n c : Nat) (xs : List Int) (B : Option Addr) (m d : Nat) (ys : List Int) (w : World) (hS : Sees (Value.int .i64) w [] A xs) (hl : xs.length = n) (hn : n ≤ 100000) (hT : Sees (Value.int .i64) w [] B ys) (hl2 : ys.length = m) (hm : m ≤ 100000) :
  Calls Try.prog 51 [.slice A n c, .slice B m d].toArray w fun e w' => ∃ A' c', e = .returned (.slice A' n c') ∧ Heap w [] [ownN 1 (.slice A' n c') n ((xs.map (Gr.fnd ys)).map (Value.int .i64)) 3] w' := by
 have H := (Heap.nil w).own_nil 1 3
 have hF := fun x W (h : Only [] w W) => dFind B m d ys x W (hT.later h (by simp)) hl2 hm
 refine k_in (N := 23) Try.func51 rfl rfl rfl ?_
 refine k_sg ?_
 refine s_run rfl rfl (ras rfl) ?_
 refine k_nc ?_
 refine k_sg ?_
 refine s_run rfl rfl (ras rfl) ?_
 refine k_nc ?_
 refine k_seq ?_
 refine k_sg ?_
 refine s_run rfl rfl (rai rfl) ?_
 refine k_nc ?_
 refine k_b ?_
 refine k_loop (fun z f W => ∃ (i : Nat) (A' : Option Addr) (c' : Nat), i ≤ n ∧ z = n - i ∧ f 0 = .slice A n c ∧ f 1 = .slice B m d ∧ f 5 = .slice A' i c' ∧ f 6 = .int .i64 i ∧ Heap w [] [ownN 1 (.slice A' i c') i (((xs.take i).map (Gr.fnd ys)).map (Value.int .i64)) 3] W) n ⟨0, none, 0, by omega, rfl, rfl, rfl, rfl, rfl, H⟩ ?_
 clear H
 rintro z f W ⟨i, A', c', hi, rfl, f0, f1, f5, f6, H⟩
 by_cases hlt : i < n
 ·obtain ⟨y, hy⟩ : ∃ y, xs[i]? = some y := ⟨_, List.getElem?_eq_getElem (by omega)⟩
  obtain ⟨b, o, hA, _, hrd⟩ := hS (by omega)
  have hc := hrd i y hy
  rw [hA] at f0
  obtain ⟨f, rfl⟩ := live4 f0 f1 f5 f6
  clear f0 f1 f5 f6
  refine k_seq ?_
  refine k_sg ?_
  refine s_run rfl rfl (rmi rfl) ?_
  refine s_run rfl rfl (rms rfl) ?_
  refine s_run rfl rfl (r_len rfl Try.underlying22) ?_
  refine s_run rfl rfl (r_lssT rfl rfl (by omega)) ?_
  refine k_nc ?_
  refine k_t rfl ?_
  refine k_skip ?_
  refine c_norm ?_
  refine k_seq ?_
  refine k_b ?_
  refine k_rg ?_
  refine s_run rfl rfl (rms rfl) ?_
  refine s_run rfl rfl (rms rfl) ?_
  refine s_run rfl rfl (rms rfl) ?_
  refine s_run rfl rfl (rmi rfl) ?_
  refine s_run rfl rfl (r_ix1o (i := i) rfl rfl (by omega) (by omega) Try.underlying22 sz3) ?_
  refine s_run rfl rfl (r_lr H rfl hc (by simp) ag3) ?_
  refine s_call rfl (hF y _ H.only) (ca57 rfl) ?_
  rintro e W1 ⟨rfl, H'⟩
  refine ⟨_, rfl, ?_⟩
  have H := H.same H'; clear H'
  refine s_app1 (enc := (Value.int .i64)) H 0 rfl rfl rfl rfl rfl rfl rfl (by omega) Try.underlying22 inf3 rfl ?_
  intro _ An cn _ H'; simp only [List.set_cons_zero, List.set_cons_succ, List.take_succ_cons, List.take_zero, List.drop_succ_cons, List.drop_zero, List.cons_append, List.nil_append, List.append_nil, List.length_cons, List.length_nil, Nat.reduceAdd] at H'; clear H; have H := H'; clear H'
  refine s_run rfl rfl (ras rfl) ?_
  refine k_nil ?_
  refine b_norm ?_
  refine c_norm ?_
  refine k_rg ?_
  refine s_run rfl rfl (rmi rfl) ?_
  refine s_run rfl rfl (r_add rfl rfl (wI (by omega))) ?_
  refine s_run rfl rfl (rai rfl) ?_
  refine k_nil ?_
  refine c_round ?_
  refine ⟨_, _, ?_, rfl, i + 1, An, cn, by omega, rfl, by rw [hA]; rfl, rfl, rfl, rfl, by rw [take_snoc _ _ _ _ hy]; exact H⟩
  omega
 ·obtain rfl : i = n := by omega
  obtain ⟨f, rfl⟩ := live4 f0 f1 f5 f6
  clear f0 f1 f5 f6
  rw [show xs.take i = xs from by rw [← hl]; exact List.take_length] at H
  refine k_seq ?_
  refine k_sg ?_
  refine s_run rfl rfl (rmi rfl) ?_
  refine s_run rfl rfl (rms rfl) ?_
  refine s_run rfl rfl (r_len rfl Try.underlying22) ?_
  refine s_run rfl rfl (r_lssF rfl rfl (by omega)) ?_
  refine k_nc ?_
  refine k_f rfl ?_
  refine k_exit ?_
  refine c_exit ?_
  refine c_exit ?_
  refine b_hit ?_
  refine c_norm ?_
  refine k_sg ?_
  refine s_run rfl rfl (rms rfl) ?_
  refine s_run rfl rfl (ras rfl) ?_
  refine k_nc ?_
  refine k_ret ?_
  refine fin1r (v := .slice _ _ _) rfl rfl ?_
  exact ⟨A', c', rfl, H⟩
end Go.Proofs.Ytdgmlfpikgjnlaa
end

section
namespace Go.Proofs.Ytdgmlfpikgjnlaa.Gr
theorem sum_one (f g : Nat → Nat) (x : Nat) : ∀ m, x < m → (∀ y, y ≠ x → f y = g y) → ((List.range m).map f).sum + g x = ((List.range m).map g).sum + f x := by
 have same : ∀ m, m ≤ x → (∀ y, y ≠ x → f y = g y) → ((List.range m).map f).sum = ((List.range m).map g).sum := by
  intro m
  induction m with
  | zero => intros; rfl
  | succ m ih =>
   intro hm h
   simp only [List.range_succ, List.map_append, List.map_cons, List.map_nil, List.sum_append, List.sum_cons, List.sum_nil]
   rw [ih (by omega) h, h m (by omega)]
 intro m
 induction m with
 | zero => intro h; omega
 | succ m ih =>
  intro hx h
  simp only [List.range_succ, List.map_append, List.map_cons, List.map_nil, List.sum_append, List.sum_cons, List.sum_nil]
  by_cases e : x = m
  ·subst e
   rw [same x (Nat.le_refl _) h]; omega
  ·have := ih (by omega) h
   rw [h m (fun e2 => e e2.symm)]; omega
/-- how many pointers the nodes have that have not come -/
def rest (pt : Int → List Int) (m : Nat) (out : List Int) : Nat := ((List.range m).map fun x : Nat => if (x : Int) ∈ out then 0 else (pt x).length).sum
theorem rest_step {pt : Int → List Int} {m : Nat} {out : List Int} {x : Nat} (hx : x < m) (hn : ¬ (x : Int) ∈ out) : rest pt m (out ++ [(x : Int)]) + (pt x).length = rest pt m out := by
 have := sum_one (fun y : Nat => if (y : Int) ∈ out ++ [(x : Int)] then 0 else (pt y).length) (fun y : Nat => if (y : Int) ∈ out then 0 else (pt y).length) x m hx (fun y hy => by
  have e : ((y : Int) ∈ out ++ [(x : Int)]) = ((y : Int) ∈ out) := by
   apply propext
   rw [List.mem_append, List.mem_singleton]
   constructor
   ·rintro (h | h)
    ·exact h
    ·omega
   ·exact .inl
  simp only [e])
 simp only [List.mem_append, List.mem_singleton, or_true, if_true, hn, if_false, Nat.add_zero] at this
 unfold rest
 simp only [List.mem_append, List.mem_singleton]
 exact this
theorem rest_le {pt : Int → List Int} {K : Nat} (h : ∀ x : Nat, (pt x).length ≤ K) (out : List Int) : ∀ m, rest pt m out ≤ m * K := by
 intro m
 induction m with
 | zero => simp [rest]
 | succ m ih =>
  unfold rest at ih ⊢
  simp only [List.range_succ, List.map_append, List.map_cons, List.map_nil, List.sum_append, List.sum_cons, List.sum_nil]
  have := h m
  rw [Nat.add_mul]
  split <;> omega
theorem next_skip {pt : Int → List Int} {out q : List Int} {c : Int} (h : c < 0 ∨ c ∈ out) : next pt ⟨out, c :: q⟩ = ⟨out, q⟩ := by
 unfold next; simp only [if_pos h]
theorem next_new {pt : Int → List Int} {out q : List Int} {c : Int} (h : ¬ (c < 0 ∨ c ∈ out)) : next pt ⟨out, c :: q⟩ = ⟨out ++ [c], q ++ pt c⟩ := by
 unfold next; simp only [if_neg h]
theorem fnd_pos : ∀ (l : List Int) (x : Int), x ∈ l → 0 ≤ fnd l x
 | a :: l, x, h => by
  unfold fnd
  by_cases e : a = x
  ·rw [if_pos e]; omega
  ·rw [if_neg e]
   rcases List.mem_cons.1 h with h | h
   ·exact absurd h.symm e
   ·have := fnd_pos l x h
    rw [if_neg (by omega)]; omega
theorem fnd_iff (l : List Int) (x : Int) : 0 ≤ fnd l x ↔ x ∈ l := ⟨fun h => Classical.byContradiction fun hn => by rw [fnd_no l x hn] at h; omega, fnd_pos l x⟩
end Go.Proofs.Ytdgmlfpikgjnlaa.Gr
end

section
namespace Go.Proofs.Ytdgmlfpikgjnlaa
open Go.RowKit
set_option maxRecDepth 100000
set_option maxHeartbeats 2000000
theorem ptr_len {g : GrS} {w : World} (hg : GrOk w [] g) (hs : Sm g) (x : Nat) : (Gr.ptr g.nodes x).length ≤ 1000 := by
 cases hx : g.ns[x]? with
 | none =>
  rw [Gr.ptr_at, List.getD, show g.nodes[x]? = none by unfold GrS.nodes; rw [List.getElem?_map, hx]; rfl]
  simp
 | some y =>
  rw [(nodes_at hx).1, (hg.ns.2 y (List.mem_of_getElem? hx)).pl]
  exact (hs.p y (List.mem_of_getElem? hx)).1
theorem dOrder (g : GrS) (A : Option Addr) (n c : Nat) (fr : List Int) (w : World) (hg : GrOk w [] g) (hb : ∀ x ∈ g.ns, ∀ p ∈ x.ps, okP g.m p) (hs : Sm g) (hS : Sees (Value.int .i64) w [] A fr) (hl : fr.length = n) (hn : n ≤ 1000) (hfr : ∀ p ∈ fr, okP g.m p) :
  Calls Try.prog 50 [.agg g.cells.toArray, .slice A n c].toArray w fun e w' => ∃ A' c' out, e = .returned (.slice A' out.length c') ∧ Gr.IsOrd (Gr.ptr g.nodes) fr out ∧ Heap w [] [ownN 1 (.slice A' out.length c') out.length (out.map (Value.int .i64)) 3] w' := by
 have H := Heap.nil w
 have hnl := hg.nl
 have hm := hs.m
 have hpl := ptr_len hg hs
 have hR0 := Gr.rest_le hpl [] g.m
 have hR1 : g.m * 1000 ≤ 1000 * 1000 := Nat.mul_le_mul_right _ hm
 obtain ⟨R0, hRe⟩ : ∃ R, Gr.rest (Gr.ptr g.nodes) g.m [] = R := ⟨_, rfl⟩
 rw [hRe] at hR0
 unfold GrS.cells
 refine k_in (N := 50) Try.func50 rfl rfl rfl ?_
 refine k_sg ?_
 refine s_box H rfl rfl ?_
 intro p2 _ H'; clear H; have H := H'; clear H'
 refine s_run rfl rfl (ras rfl) ?_
 refine k_nc ?_
 refine k_sg ?_
 refine s_run rfl rfl (ras rfl) ?_
 refine k_nc ?_
 refine k_sg ?_
 refine s_bs0 1 (by omega) H rfl Try.underlying22 inf3 ?_
 intro _ _ H'; clear H; have H := H'; clear H'
 refine s_run rfl rfl (rms rfl) ?_
 refine s_apps (enc := (Value.int .i64)) (xs := []) H 0 rfl rfl rfl rfl (hS) (hl) (fun _ => rfl) (by omega) Try.underlying22 inf3 rfl ?_
 intro A1 c1 W1 hA1 H'; simp only [List.set_cons_zero, List.set_cons_succ, List.take_succ_cons, List.take_zero, List.drop_succ_cons, List.drop_zero, List.cons_append, List.nil_append, List.append_nil, List.length_cons, List.length_nil, Nat.reduceAdd] at H'; clear H; have H := H'; clear H'
 refine s_run rfl rfl (ras rfl) ?_
 refine k_nc ?_
 refine k_seq ?_
 refine k_sg ?_
 refine s_run rfl rfl (rai rfl) ?_
 refine k_nc ?_
 refine k_b ?_
 rw [Nat.zero_add] at H
 replace H := H.own_nil 1 3
 refine k_loop (fun z f W => ∃ (i : Nat) (op out : List Int) (Ao Ap : Option Addr) (co cp : Nat), i ≤ op.length ∧ op.length + Gr.rest (Gr.ptr g.nodes) g.m out = n + R0 ∧ z = n + R0 - i ∧ Gr.st (Gr.ptr g.nodes) ⟨[], fr⟩ i = ⟨out, op.drop i⟩ ∧ out.Nodup ∧ (∀ p ∈ out, 0 ≤ p ∧ p < (g.m : Int)) ∧ (∀ p ∈ op, okP g.m p) ∧ f 2 = ptr p2 ∧ f 5 = .slice Ao out.length co ∧ f 6 = .slice Ap op.length cp ∧ f 7 = .int .i64 i ∧ Heap w [] [ownN 1 (.slice Ao out.length co) out.length (out.map (Value.int .i64)) 3, ownN 1 (.slice Ap op.length cp) op.length (op.map (Value.int .i64)) 3, blk p2 [.slice g.A g.n g.c, .slice g.B g.m g.d] 30] W) (n + R0)
  ⟨0, fr, [], none, A1, 0, c1, by omega, by rw [hRe, hl], rfl, rfl, by simp, by simp, hfr, rfl, rfl, by rw [hl]; exact congrArg (fun k => Value.slice A1 k c1) (Nat.zero_add n), rfl, by rw [hl]; exact H⟩ ?_
 clear H
 rintro z f W ⟨i, op, out, Ao, Ap, co, cp, hi, hsum, rfl, hst, hod, hob, hop, f2, f5, f6, f7, H⟩
 have hol := Gr.nodup_len g.m out hod hob
 by_cases hlt : i < op.length
 ·obtain ⟨y, hy⟩ : ∃ y, op[i]? = some y := ⟨_, List.getElem?_eq_getElem hlt⟩
  have hym := List.mem_of_getElem? hy
  have hyo := hop y hym
  have hdrop : op.drop i = y :: op.drop (i + 1) := by
   obtain ⟨h1, h2⟩ := List.getElem?_eq_some_iff.1 hy
   rw [List.drop_eq_getElem_cons h1, h2]
  have hnext : Gr.st (Gr.ptr g.nodes) ⟨[], fr⟩ (i + 1) = Gr.next (Gr.ptr g.nodes) ⟨out, y :: op.drop (i + 1)⟩ := by rw [Gr.st, hst, hdrop]
  obtain ⟨pa, rfl⟩ := H.own_some 1 rfl (by omega)
  have hF := fun W h => dFind Ao out.length co out y W h rfl (by omega)
  obtain ⟨f, rfl⟩ := live4 f2 f5 f6 f7
  clear f2 f5 f6 f7
  by_cases hneg : y < 0
  ·refine k_seq ?_
   refine k_sg ?_
   refine s_run rfl rfl (rmi rfl) ?_
   refine s_run rfl rfl (rms rfl) ?_
   refine s_run rfl rfl (r_len rfl Try.underlying22) ?_
   refine s_run rfl rfl (r_lssT rfl rfl (by omega)) ?_
   refine k_nc ?_
   refine k_t rfl ?_
   refine k_skip ?_
   refine c_norm ?_
   refine k_seq ?_
   refine k_b ?_
   refine k_seq ?_
   refine k_sg ?_
   refine s_run rfl rfl (rms rfl) ?_
   refine s_run rfl rfl (rmi rfl) ?_
   refine s_run rfl rfl (r_ix1 (i := i) rfl rfl (by omega) (by omega) Try.underlying22 sz3) ?_
   refine s_run rfl rfl (r_ow H 1 rfl rfl hy ag3) ?_
   refine s_run rfl rfl (r_lssT rfl rfl (by omega)) ?_
   refine s_run rfl rfl (rmb rfl) ?_
   refine s_off rfl (g_off 22 (by kernel_rfl) rfl rfl) ?_
   refine s_off rfl (g_off 22 (by kernel_rfl) rfl rfl) ?_
   refine s_off rfl (g_off 22 (by kernel_rfl) rfl rfl) ?_
   refine s_off rfl (g_off 22 (by kernel_rfl) rfl rfl) ?_
   refine s_off rfl (g_off 22 (by kernel_rfl) rfl rfl) ?_
   refine s_off rfl (g_off 22 (by kernel_rfl) rfl rfl) ?_
   refine s_off rfl (g_off 22 (by kernel_rfl) rfl rfl) ?_
   refine s_run rfl rfl (r_pkT (v := .bool _) rfl rfl) ?_
   refine k_nc ?_
   refine k_t rfl ?_
   refine k_exit ?_
   refine c_exit ?_
   refine b_hit ?_
   refine c_norm ?_
   refine k_rg ?_
   refine s_run rfl rfl (rmi rfl) ?_
   refine s_run rfl rfl (r_add rfl rfl (wI (by omega))) ?_
   refine s_run rfl rfl (rai rfl) ?_
   refine k_nil ?_
   refine c_round ?_
   refine ⟨_, _, ?_, rfl, i + 1, op, out, Ao, some ⟨pa, 0, none⟩, co, cp, by omega, hsum, rfl, by rw [hnext, Gr.next_skip (.inl hneg)], hod, hob, hop, rfl, rfl, rfl, rfl, H⟩
   omega
  ·by_cases hmem : y ∈ out
   ·have hfp := (Gr.fnd_iff out y).2 hmem
    refine k_seq ?_
    refine k_sg ?_
    refine s_run rfl rfl (rmi rfl) ?_
    refine s_run rfl rfl (rms rfl) ?_
    refine s_run rfl rfl (r_len rfl Try.underlying22) ?_
    refine s_run rfl rfl (r_lssT rfl rfl (by omega)) ?_
    refine k_nc ?_
    refine k_t rfl ?_
    refine k_skip ?_
    refine c_norm ?_
    refine k_seq ?_
    refine k_b ?_
    refine k_seq ?_
    refine k_sg ?_
    refine s_run rfl rfl (rms rfl) ?_
    refine s_run rfl rfl (rmi rfl) ?_
    refine s_run rfl rfl (r_ix1 (i := i) rfl rfl (by omega) (by omega) Try.underlying22 sz3) ?_
    refine s_run rfl rfl (r_ow H 1 rfl rfl hy ag3) ?_
    refine s_run rfl rfl (r_lssF rfl rfl (by omega)) ?_
    refine s_run rfl rfl (rmb rfl) ?_
    refine s_run rfl (g_on 22 (by kernel_rfl) rfl) (rms rfl) ?_
    refine s_run rfl (g_on 22 (by kernel_rfl) rfl) (rms rfl) ?_
    refine s_run rfl (g_on 22 (by kernel_rfl) rfl) (rmi rfl) ?_
    refine s_run rfl (g_on 22 (by kernel_rfl) rfl) (r_ix1 (i := i) rfl rfl (by omega) (by omega) Try.underlying22 sz3) ?_
    refine s_run rfl (g_on 22 (by kernel_rfl) rfl) (r_ow H 1 rfl rfl hy ag3) ?_
    refine s_call (g_on 22 (by kernel_rfl) rfl) (hF _ (H.own_sees 0 rfl)) (ca57 rfl) ?_
    rintro e W1 ⟨rfl, H'⟩
    refine ⟨_, rfl, ?_⟩
    have H := H.same H'; clear H'
    refine s_run rfl (g_on 22 (by kernel_rfl) rfl) (r_geqT rfl rfl (by omega)) ?_
    refine s_run rfl rfl (r_pkF (v := .bool _) rfl rfl) ?_
    refine k_nc ?_
    refine k_t rfl ?_
    refine k_exit ?_
    refine c_exit ?_
    refine b_hit ?_
    refine c_norm ?_
    refine k_rg ?_
    refine s_run rfl rfl (rmi rfl) ?_
    refine s_run rfl rfl (r_add rfl rfl (wI (by omega))) ?_
    refine s_run rfl rfl (rai rfl) ?_
    refine k_nil ?_
    refine c_round ?_
    refine ⟨_, _, ?_, rfl, i + 1, op, out, Ao, some ⟨pa, 0, none⟩, co, cp, by omega, hsum, rfl, by rw [hnext, Gr.next_skip (.inr hmem)], hod, hob, hop, rfl, rfl, rfl, rfl, H⟩
    omega
   ·have hfn := Gr.fnd_no out y hmem
    rw [hfn] at hF
    obtain ⟨x', rfl⟩ := Int.eq_ofNat_of_zero_le (Int.not_lt.1 hneg)
    have hx'm : x' < g.m := by unfold okP at hyo; omega
    obtain ⟨x, hx⟩ : ∃ x, g.ns[x']? = some x := ⟨_, List.getElem?_eq_getElem (by omega)⟩
    have hxm := List.mem_of_getElem? hx
    obtain ⟨b, o, hB, _, hrd⟩ := hg.ns.1 (by omega)
    have hc0 := hrd x' x hx 0 _ rfl
    have hxo := hg.ns.2 x hxm
    have hxn := (hs.p x hxm).1
    have hpl2 := hxo.pl
    have hrs := Gr.rest_step (pt := Gr.ptr g.nodes) hx'm hmem
    have hpx := (nodes_at hx).1
    rw [hpx, hpl2] at hrs
    rw [hB] at H
    refine k_seq ?_
    refine k_sg ?_
    refine s_run rfl rfl (rmi rfl) ?_
    refine s_run rfl rfl (rms rfl) ?_
    refine s_run rfl rfl (r_len rfl Try.underlying22) ?_
    refine s_run rfl rfl (r_lssT rfl rfl (by omega)) ?_
    refine k_nc ?_
    refine k_t rfl ?_
    refine k_skip ?_
    refine c_norm ?_
    refine k_seq ?_
    refine k_b ?_
    refine k_seq ?_
    refine k_sg ?_
    refine s_run rfl rfl (rms rfl) ?_
    refine s_run rfl rfl (rmi rfl) ?_
    refine s_run rfl rfl (r_ix1 (i := i) rfl rfl (by omega) (by omega) Try.underlying22 sz3) ?_
    refine s_run rfl rfl (r_ow H 1 rfl rfl hy ag3) ?_
    refine s_run rfl rfl (r_lssF rfl rfl (by omega)) ?_
    refine s_run rfl rfl (rmb rfl) ?_
    refine s_run rfl (g_on 22 (by kernel_rfl) rfl) (rms rfl) ?_
    refine s_run rfl (g_on 22 (by kernel_rfl) rfl) (rms rfl) ?_
    refine s_run rfl (g_on 22 (by kernel_rfl) rfl) (rmi rfl) ?_
    refine s_run rfl (g_on 22 (by kernel_rfl) rfl) (r_ix1 (i := i) rfl rfl (by omega) (by omega) Try.underlying22 sz3) ?_
    refine s_run rfl (g_on 22 (by kernel_rfl) rfl) (r_ow H 1 rfl rfl hy ag3) ?_
    refine s_call (g_on 22 (by kernel_rfl) rfl) (hF _ (H.own_sees 0 rfl)) (ca57 rfl) ?_
    rintro e W1 ⟨rfl, H'⟩
    refine ⟨_, rfl, ?_⟩
    have H := H.same H'; clear H'
    refine s_run rfl (g_on 22 (by kernel_rfl) rfl) (r_geqF rfl rfl (by omega)) ?_
    refine s_run rfl rfl (r_pkF (v := .bool _) rfl rfl) ?_
    refine k_nc ?_
    refine k_f rfl ?_
    refine k_skip ?_
    refine c_norm ?_
    refine k_sg ?_
    refine s_run rfl rfl (rms rfl) ?_
    refine s_run rfl rfl (rms rfl) ?_
    refine s_run rfl rfl (rmi rfl) ?_
    refine s_run rfl rfl (r_ix1 (i := i) rfl rfl (by omega) (by omega) Try.underlying22 sz3) ?_
    refine s_run rfl rfl (r_ow H 1 rfl rfl hy ag3) ?_
    refine s_app1 (enc := (Value.int .i64)) H 0 rfl rfl rfl rfl rfl rfl rfl (by omega) Try.underlying22 inf3 rfl ?_
    intro _ An cn _ H'; simp only [List.set_cons_zero, List.set_cons_succ, List.take_succ_cons, List.take_zero, List.drop_succ_cons, List.drop_zero, List.cons_append, List.nil_append, List.append_nil, List.length_cons, List.length_nil, Nat.reduceAdd] at H'; clear H; have H := H'; clear H'
    refine s_run rfl rfl (ras rfl) ?_
    refine k_nc ?_
    refine k_qt 10 mixed (by kernel_rfl) H rfl rfl ?_
    refine q_run rfl rfl (fun _ H => r_mv (v := .slice _ _ _) rfl) ?_
    refine q_run rfl rfl (fun _ H => r_fa0 rfl fo30_1) ?_
    refine q_run rfl rfl (fun _ H => r_lo H 2 rfl rfl rfl ag28) ?_
    refine q_run rfl rfl (fun _ H => r_mv (v := .slice _ _ _) rfl) ?_
    refine q_run rfl rfl (fun _ H => r_mv (v := .int _ _) rfl) ?_
    refine q_run rfl rfl (fun _ H => r_ix1 (i := i) rfl rfl (by omega) (by omega) Try.underlying22 sz3) ?_
    refine q_run rfl rfl (fun _ H => r_ow H 1 rfl rfl hy ag3) ?_
    refine q_run rfl rfl (fun _ H => r_ix (i := x') rfl rfl (by omega) (by omega) Try.underlying28 sz40) ?_
    refine q_run rfl rfl (fun _ H => r_fa rfl fo40_0) ?_
    refine q_run rfl rfl (fun _ H => r_lr H rfl hc0 (by simp) ag22) ?_
    refine q_nil ?_
    intro _ H'; clear H; have H := H'; clear H'
    refine s_apps (enc := (Value.int .i64))  H 1 rfl rfl rfl rfl (hxo.ps) (hpl2) (fun _ => rfl) (by omega) Try.underlying22 inf3 rfl ?_
    intro A2 c2 W2 hA2 H'; simp only [List.set_cons_zero, List.set_cons_succ, List.take_succ_cons, List.take_zero, List.drop_succ_cons, List.drop_zero, List.cons_append, List.nil_append, List.append_nil, List.length_cons, List.length_nil, Nat.reduceAdd] at H'; clear H; have H := H'; clear H'
    refine s_run rfl rfl (ras rfl) ?_
    refine k_nil ?_
    refine b_norm ?_
    refine c_norm ?_
    refine k_rg ?_
    refine s_run rfl rfl (rmi rfl) ?_
    refine s_run rfl rfl (r_add rfl rfl (wI (by omega))) ?_
    refine s_run rfl rfl (rai rfl) ?_
    refine k_nil ?_
    refine c_round ?_
    rw [← hB] at H
    refine ⟨_, _, ?_, rfl, i + 1, op ++ x.ps, out ++ [(x' : Int)], An, A2, cn, c2, by rw [List.length_append]; omega, by rw [List.length_append]; omega, rfl, ?_, ?_, ?_, ?_, rfl, by rw [List.length_append]; rfl, by rw [List.length_append, hpl2]; rfl, rfl, by rw [List.length_append, List.length_append, hpl2]; exact H⟩
    ·omega
    ·rw [hnext, Gr.next_new (by rintro (h | h); omega; exact hmem h)]
     rw [List.drop_append_of_le_length (by omega), hpx]
    ·exact List.nodup_append.2 ⟨hod, by simp, fun a ha b hb e => by
      obtain rfl := List.mem_singleton.1 hb
      exact hmem (e ▸ ha)⟩
    ·intro p hp
     rcases List.mem_append.1 hp with hp | hp
     ·exact hob p hp
     ·rw [List.mem_singleton.1 hp]; omega
    ·intro p hp
     rcases List.mem_append.1 hp with hp | hp
     ·exact hop p hp
     ·exact hb x hxm p hp
 ·have hio : i = op.length := by omega
  obtain ⟨f, rfl⟩ := live4 f2 f5 f6 f7
  clear f2 f5 f6 f7
  refine k_seq ?_
  refine k_sg ?_
  refine s_run rfl rfl (rmi rfl) ?_
  refine s_run rfl rfl (rms rfl) ?_
  refine s_run rfl rfl (r_len rfl Try.underlying22) ?_
  refine s_run rfl rfl (r_lssF rfl rfl (by omega)) ?_
  refine k_nc ?_
  refine k_f rfl ?_
  refine k_exit ?_
  refine c_exit ?_
  refine c_exit ?_
  refine b_hit ?_
  refine c_norm ?_
  refine k_sg ?_
  refine s_run rfl rfl (rms rfl) ?_
  refine s_run rfl rfl (ras rfl) ?_
  refine k_nc ?_
  refine k_ret ?_
  refine fin1r (v := .slice _ _ _) rfl rfl ?_
  refine ⟨Ao, co, out, rfl, ⟨i, by rw [hst, List.drop_of_length_le (by omega)]⟩, (H.drops (A := [_]) (L := [_, _]))⟩
end Go.Proofs.Ytdgmlfpikgjnlaa
end

section
namespace Go.Proofs.Ytdgmlfpikgjnlaa
open Go.RowKit
set_option maxRecDepth 100000
set_option maxHeartbeats 4000000
def nodeP (x : NodeS) : Ent := grp [ownN 1 (.slice x.A x.n x.c) x.n (x.ps.map (Value.int .i64)) 3]
theorem made_okP {w W : World} {F : List Nat} {L : List Ent} {RA NA : Option Addr} {n m cR cN : Nat} {rs : List Int} {ns : List NodeS} {T : TypeId} (hrl : rs.length = n) (hnl : ns.length = m) (H : Heap w F (ownN 1 (.slice RA n cR) n (rs.map (Value.int .i64)) 3 :: ownN 2 (.slice NA m cN) m ((flatN ns).map C1.v) T :: grp (ns.map nodeP) :: L) W)
  (hr : n ≤ 100000) (hn : m ≤ 100000) (hrb : ∀ p ∈ rs, -9223372036854775808 ≤ p ∧ p ≤ 9223372036854775807) (hx : ∀ x ∈ ns, x.n ≤ 100000 ∧ x.m ≤ 100000 ∧ (∀ p ∈ x.ps, -9223372036854775808 ≤ p ∧ p ≤ 9223372036854775807) ∧ (∀ p ∈ x.ds, 0 ≤ p ∧ p ≤ 18446744073709551615) ∧ Sees (Value.int .u64) W [] x.B x.ds ∧ x.ds.length = x.m) :
  GrOk W [] ⟨RA, n, cR, rs, NA, m, cN, ns⟩ := by
 subst hrl; subst hnl
 refine ⟨H.own_sees 0 rfl, rfl, hrb, ⟨fun h0 => ?_, fun x hxm => ?_⟩, rfl, by show rs.length ≤ _; omega, by show ns.length ≤ _; omega⟩
 ·have h0' : ns.length ≠ 0 := h0
  obtain ⟨b, e, _, hr⟩ := H.own_seesN 1 rfl (by rw [flatN_len]; omega)
  refine ⟨b, 0, e, by simp, fun i x hi j u hj => ?_⟩
  obtain ⟨g1, g2⟩ := flatN_get ns i x hi
  have hj2 : j < 2 := by have := (List.getElem?_eq_some_iff.1 hj).1; exact this
  rw [show 0 + i * 2 + j = 0 + (i * 2 + j) by omega]
  match j, hj2, hj with
  | 0, _, hj => exact (hr _ _ g1).trans (by simpa [NodeS.cells, C1.v] using hj)
  | 1, _, hj => exact (hr _ _ g2).trans (by simpa [NodeS.cells, C1.v] using hj)
 ·have hE := H.grp_ents 2 rfl
  have h1 := hE.1 (nodeP x) (List.mem_map.2 ⟨x, hxm, rfl⟩)
  have h2 : Ents [ownN 1 (.slice x.A x.n x.c) x.n (x.ps.map (Value.int .i64)) 3] W := h1
  have H2 := Heap.start h2
  obtain ⟨b1, b2, b3, b4, b5, b6⟩ := hx x hxm
  refine ⟨H2.own_sees 0 rfl, ?_, b5, b6, b3, b4, by omega, by omega⟩
  have := (H2.own_get 0 rfl).1; simpa using this
theorem dCanon (g : GrS) (w : World) (hg : GrOk w [] g) (hb : rightB g = true) (hs : Sm g) :
  Calls Try.prog 19 [.agg g.cells.toArray].toArray w fun e w' => (∃ g' out, e = .returned (.agg g'.cells.toArray) ∧ GrOk w' [] g' ∧ Gr.IsOrd (Gr.ptr g.nodes) g.rs out ∧ g'.rs = Gr.canonR g.rs out ∧ g'.nodes = Gr.canonN g.nodes out ∧ g'.n = g.n ∧ g'.m = out.length ∧ out.length ≤ g.m ∧ ∀ x ∈ g'.ns, x.n ≤ 1000 ∧ x.m ≤ 100000) ∧ Only [] w w' := by
 have H := Heap.nil w
 have hrs := hg.rs
 have hrl := hg.rl
 have hnl := hg.nl
 have hn := hs.n
 have hm := hs.m
 have hO := fun W (h : Only [] w W) => dOrder g g.A g.n g.c g.rs W (hg.later h (by simp)) (right_ptrs hb) hs (hrs.later h (by simp)) hrl hn (right_roots hb)
 unfold GrS.cells at *
 refine k_in (N := 43) Try.func19 rfl rfl rfl ?_
 refine k_sg ?_
 refine s_box H rfl rfl ?_
 intro p1 _ H'; clear H; have H := H'; clear H'
 refine s_al H rfl inf30 ?_
 intro p2 _ H'; clear H; have H := H'; clear H'
 refine k_nc ?_
 refine k_sg ?_
 refine s_run rfl rfl (r_la H 1 rfl rfl rfl ag30 sz30) ?_
 refine s_run rfl rfl (r_fa0 rfl fo30_0) ?_
 refine s_run rfl rfl (r_lo H 1 rfl rfl rfl ag22) ?_
 refine s_call rfl (hO _ H.only) (ca50 rfl) ?_
 rintro e W1 ⟨A, c, out, rfl, ho, H'⟩
 refine ⟨_, rfl, ?_⟩
 have H := H.more H'; clear H'
 refine s_run rfl rfl (ras rfl) ?_
 refine k_nc ?_
 refine k_sg ?_
 refine s_run rfl rfl (r_fa0 rfl fo30_0) ?_
 refine s_run rfl rfl (r_lo H 2 rfl rfl rfl ag22) ?_
 refine s_run rfl rfl (rms rfl) ?_
 have hod := ho.nodup
 have hrt : Gr.Rt g.rs g.nodes := ⟨fun r hr => by
  have := right_roots hb r hr
  unfold okP at this
  have e : g.nodes.length = g.m := by simp [GrS.nodes, hnl]
  rw [e]; exact this, fun x hx p hp => by
  unfold GrS.nodes at hx
  obtain ⟨y, hy, rfl⟩ := List.mem_map.1 hx
  have := right_ptrs hb y hy p hp
  unfold okP at this
  have e : g.nodes.length = g.m := by simp [GrS.nodes, hnl]
  rw [e]; exact this⟩
 have hob : ∀ x ∈ out, 0 ≤ x ∧ x < (g.m : Int) := fun x hx => by
  have := hrt.ord ho x hx
  have e : g.nodes.length = g.m := by simp [GrS.nodes, hnl]
  rw [e] at this; exact this
 have hol : out.length ≤ g.m := Gr.nodup_len g.m out hod hob
 have hN := fun W (h : Only [] w W) hT => dNumbers g.A g.n g.c g.rs A out.length c out W (hrs.later h (by simp)) hrl (by omega) hT rfl (by omega)
 refine s_call rfl (hN _ H.only (H.own_sees 0 rfl)) (ca51 rfl) ?_
 rintro e W1 ⟨RA, cR, rfl, H'⟩
 refine ⟨_, rfl, ?_⟩
 have H := H.more H'; clear H'
 refine s_run rfl rfl (r_bd (bd30_0 _ _ _) rfl) ?_
 refine s_al H rfl inf30 ?_
 intro p4 _ H'; clear H; have H := H'; clear H'
 refine s_sw H 0 rfl rfl rfl rfl rfl rfl rfl sz30 ?_
 clear H; intro _ H; simp only [jA, jB, jC, jD, jE, jF, jG, jH, jI, jJ, jK, Nat.reduceAdd] at H
 refine k_nc ?_
 refine k_seq ?_
 refine k_sg ?_
 refine s_run rfl rfl (rai rfl) ?_
 refine k_nc ?_
 refine k_b ?_
 replace H := (H.own_nil 2 40).grp_nil
 replace H := H.order [2, 1, 0, 3, 4, 5, 6] rfl rfl
 refine k_loop (fun z f W => ∃ (i : Nat) (NA : Option Addr) (cN : Nat) (ns : List NodeS), i ≤ out.length ∧ z = out.length - i ∧ ns.length = i ∧ ns.map (fun x => (x.ps, x.ds)) = (out.take i).map (canP g out) ∧ (∀ x ∈ ns, x.n ≤ 1000 ∧ x.m ≤ 100000 ∧ Sees (Value.int .u64) w [] x.B x.ds ∧ x.ds.length = x.m) ∧ f 1 = ptr p1 ∧ f 2 = ptr p2 ∧ f 3 = .slice A out.length c ∧ f 4 = ptr p4 ∧ f 5 = .int .i64 i ∧
  Heap w [] [blk p4 [.slice RA g.n cR, .slice NA i cN] 30, ownN 2 (.slice NA i cN) i ((flatN ns).map C1.v) 40, grp (ns.map nodeP), ownN 1 (.slice RA g.n cR) g.n ((g.rs.map (Gr.fnd out)).map (Value.int .i64)) 3, ownN 1 (.slice A out.length c) out.length (out.map (Value.int .i64)) 3, blk p2 [.slice none 0 0, .slice none 0 0] 30, blk p1 [.slice g.A g.n g.c, .slice g.B g.m g.d] 30] W) out.length ⟨0, none, 0, [], by omega, rfl, rfl, rfl, by simp, rfl, rfl, rfl, rfl, rfl, H⟩ ?_
 clear H
 rintro z f W ⟨i, NA, cN, ns, hi, rfl, hnsl, hnsm, hnsb, f1, f2, f3, f4, f5, H⟩
 by_cases hlt : i < out.length
 ·obtain ⟨y, hy⟩ : ∃ y, out[i]? = some y := ⟨_, List.getElem?_eq_getElem hlt⟩
  have hym := List.mem_of_getElem? hy
  have hyb := hob y hym
  obtain ⟨x', rfl⟩ := Int.eq_ofNat_of_zero_le hyb.1
  obtain ⟨x, hx⟩ : ∃ x, g.ns[x']? = some x := ⟨_, List.getElem?_eq_getElem (by omega)⟩
  have hxm := List.mem_of_getElem? hx
  obtain ⟨b, o, hB, _, hrd⟩ := hg.ns.1 (by omega)
  have hrx := hrd x' x hx
  have hxo := hg.ns.2 x hxm
  have hxn := (hs.p x hxm).1
  have hxd := (hs.p x hxm).2
  have hpl := hxo.pl
  have hN2 := fun W (h : Only [] w W) hT => dNumbers x.A x.n x.c x.ps A out.length c out W (hxo.ps.later h (by simp)) hpl (by omega) hT rfl (by omega)
  obtain ⟨pa, hpa⟩ := H.own_some 4 rfl (by omega)
  unfold NodeS.cells at hrx
  rw [hpa] at H f3 hN2
  rw [hB] at H
  obtain ⟨f, rfl⟩ := live5 f1 f2 f3 f4 f5
  clear f1 f2 f3 f4 f5
  refine k_seq ?_
  refine k_sg ?_
  refine s_run rfl rfl (rmi rfl) ?_
  refine s_run rfl rfl (rms rfl) ?_
  refine s_run rfl rfl (r_len rfl Try.underlying22) ?_
  refine s_run rfl rfl (r_lssT rfl rfl (by omega)) ?_
  refine k_nc ?_
  refine k_t rfl ?_
  refine k_skip ?_
  refine c_norm ?_
  refine k_seq ?_
  refine k_b ?_
  refine k_seq ?_
  refine k_cut (fun f W => ∃ p6, f 1 = ptr p1 ∧ f 2 = ptr p2 ∧ f 3 = .slice (some ⟨pa, 0, none⟩) out.length c ∧ f 4 = ptr p4 ∧ f 5 = .int .i64 i ∧ f 6 = ptr p6 ∧ Heap w [] [blk p6 [.slice x.A x.n x.c, .slice x.B x.m x.d] 40, blk p4 [.slice RA g.n cR, .slice NA i cN] 30, ownN 2 (.slice NA i cN) i ((flatN ns).map C1.v) 40, grp (ns.map nodeP), ownN 1 (.slice RA g.n cR) g.n ((g.rs.map (Gr.fnd out)).map (Value.int .i64)) 3, ownN 1 (.slice (some ⟨pa, 0, none⟩) out.length c) out.length (out.map (Value.int .i64)) 3, blk p2 [.slice none 0 0, .slice none 0 0] 30, blk p1 [.slice g.A g.n g.c, .slice (some ⟨b, o, none⟩) g.m g.d] 30] W) ?_ ?_
  ·have HR := H; clear H; have H := HR.tree; refine k_tr mixed ?_
   refine tqn 0 rfl rfl rfl (fun _ hS => r_fa0 rfl fo30_1) H.only ?_
   refine tqn 1 rfl rfl rfl (fun _ hS => r_lo (HR.same hS) 6 rfl rfl rfl ag28) H.only ?_
   refine tqn 2 rfl rfl rfl (fun _ hS => r_mv (v := .slice _ _ _) rfl) H.only ?_
   refine tqn 3 rfl rfl rfl (fun _ hS => r_mv (v := .int _ _) rfl) H.only ?_
   refine tqn 4 rfl rfl rfl (fun _ hS => r_ix1 (i := i) rfl rfl (by omega) (by omega) Try.underlying22 sz3) H.only ?_
   refine tqn 5 rfl rfl rfl (fun _ hS => r_ow (HR.same hS) 4 rfl rfl hy ag3) H.only ?_
   refine tqn 6 rfl rfl rfl (fun _ hS => r_ix (i := x') rfl rfl (by omega) (by omega) Try.underlying28 sz40) H.only ?_
   refine tqn 7 rfl rfl rfl (fun _ hS => r_lA (enc := fun v : Value => v) (zs := [.slice x.A x.n x.c, .slice x.B x.m x.d]) (hrx.later (HR.same hS).only (by simp)) rfl rfl ag40 sz40) H.only ?_
   refine t_up1 8 (by kernel_rfl) ?_
   refine up_mk rfl ?_
   refine s_al H rfl inf40 ?_
   intro p6 _ H'; clear H; have H := H'; clear H'
   refine k_nil ?_
   refine t_on H.only ?_
   refine t_up1 9 (by kernel_rfl) ?_
   refine up_mk rfl ?_
   refine s_sw H 0 rfl rfl rfl rfl rfl rfl rfl sz40 ?_
   clear H; intro _ H; simp only [jA, jB, jC, jD, jE, jF, jG, jH, jI, jJ, jK, Nat.reduceAdd] at H
   refine k_nil ?_
   refine t_on H.only ?_
   refine t_done (by kernel_rfl) ?_
   have H := HR.more H; clear HR; simp only [List.cons_append, List.nil_append] at H
   refine k_met ?_
   exact ⟨_, rfl, rfl, rfl, rfl, rfl, rfl, H⟩
  ·clear H
   rintro f W ⟨p6, f1, f2, f3, f4, f5, f6, H⟩
   obtain ⟨f, rfl⟩ := live6 f1 f2 f3 f4 f5 f6
   clear f1 f2 f3 f4 f5 f6
   have fin : ∀ (f' : Nat → Value) (W' : World) (PA NA' : Option Addr) (cP cN' : Nat), f' 1 = ptr p1 → f' 2 = ptr p2 → f' 3 = .slice (some ⟨pa, 0, none⟩) out.length c → f' 4 = ptr p4 → f' 5 = .int .i64 ((i : Int) + 1) → Heap w [] [ownN 1 (.slice PA x.n cP) x.n ((x.ps.map (Gr.fnd out)).map (Value.int .i64)) 3, blk p6 [.slice x.A x.n x.c, .slice x.B x.m x.d] 40, blk p4 [.slice RA g.n cR, .slice NA' (i + 1) cN'] 30, ownN 2 (.slice NA' (i + 1) cN') (i + 1) ((flatN ns ++ [C1.s PA x.n cP, C1.s x.B x.m x.d]).map C1.v) 40, grp (ns.map nodeP), ownN 1 (.slice RA g.n cR) g.n ((g.rs.map (Gr.fnd out)).map (Value.int .i64)) 3, ownN 1 (.slice (some ⟨pa, 0, none⟩) out.length c) out.length (out.map (Value.int .i64)) 3, blk p2 [.slice none 0 0, .slice none 0 0] 30, blk p1 [.slice g.A g.n g.c, .slice (some ⟨b, o, none⟩) g.m g.d] 30] W' →
     ∃ m' f'', m' < out.length - i ∧ Fn ⟨43, []⟩ f' = Fn ⟨43, []⟩ f'' ∧ ∃ (i : Nat) (NA : Option Addr) (cN : Nat) (ns : List NodeS), i ≤ out.length ∧ m' = out.length - i ∧ ns.length = i ∧ ns.map (fun x => (x.ps, x.ds)) = (out.take i).map (canP g out) ∧ (∀ x ∈ ns, x.n ≤ 1000 ∧ x.m ≤ 100000 ∧ Sees (Value.int .u64) w [] x.B x.ds ∧ x.ds.length = x.m) ∧ f'' 1 = ptr p1 ∧ f'' 2 = ptr p2 ∧ f'' 3 = .slice A out.length c ∧ f'' 4 = ptr p4 ∧ f'' 5 = .int .i64 i ∧
     Heap w [] [blk p4 [.slice RA g.n cR, .slice NA i cN] 30, ownN 2 (.slice NA i cN) i ((flatN ns).map C1.v) 40, grp (ns.map nodeP), ownN 1 (.slice RA g.n cR) g.n ((g.rs.map (Gr.fnd out)).map (Value.int .i64)) 3, ownN 1 (.slice A out.length c) out.length (out.map (Value.int .i64)) 3, blk p2 [.slice none 0 0, .slice none 0 0] 30, blk p1 [.slice g.A g.n g.c, .slice g.B g.m g.d] 30] W' := by
    intro f' W' PA NA' cP cN' g1 g2 g3 g4 g5 H
    rw [← hB, ← hpa] at H
    replace H := (H.order [0, 4, 2, 3, 5, 6, 7, 8, 1] rfl rfl : Heap w [] ([_] ++ [_, _, _, _, _, _, _, _]) _).wrap
    replace H := H.grp_snoc (E := nodeP (NodeS.mk PA x.n cP (x.ps.map (Gr.fnd out)) x.B x.m x.d x.ds))
    replace H := (H.order [1, 2, 0, 3, 4, 5, 6, 7] rfl rfl : Heap w [] ([_, _, _, _, _, _, _] ++ [_]) _).drops
    have e1 : ns.map nodeP ++ [nodeP (NodeS.mk PA x.n cP (x.ps.map (Gr.fnd out)) x.B x.m x.d x.ds)] = (ns ++ [NodeS.mk PA x.n cP (x.ps.map (Gr.fnd out)) x.B x.m x.d x.ds]).map nodeP := by simp
    rw [e1] at H
    have e2 := flatN_snoc ns (NodeS.mk PA x.n cP (x.ps.map (Gr.fnd out)) x.B x.m x.d x.ds)
    refine ⟨_, f', ?_, rfl, i + 1, NA', cN', ns ++ [NodeS.mk PA x.n cP (x.ps.map (Gr.fnd out)) x.B x.m x.d x.ds], by omega, rfl, by simp [hnsl], ?_, fun z hz => ?_, g1, g2, by rw [hpa]; exact g3, g4, g5, ?_⟩
    ·omega
    ·rw [List.map_append, hnsm, take_snoc _ _ _ _ hy]
     congr 1
     unfold canP
     rw [(nodes_at hx).1, (nodes_at hx).2]; rfl
    ·rcases List.mem_append.1 hz with hz | hz
     ·exact hnsb z hz
     ·rw [List.mem_singleton.1 hz]; exact ⟨hxn, hxd, hxo.ds, hxo.dl⟩
    ·rw [e2]; exact H
   refine c_norm ?_
   refine k_trS (A := [_]) mixed H [0] rfl ?_; have H' := H.drew; clear H; have H := H'; clear H'
   refine tqh 0 rfl rfl rfl (fun _ hS => r_fa0 rfl fo30_1) (H.subl [0] rfl rfl) ?_
   refine tqh 2 rfl rfl rfl (fun _ hS => r_fa0 rfl fo40_0) (H.subl [0] rfl rfl) ?_
   refine tqh 3 rfl rfl rfl (fun _ hS => r_lo hS 0 rfl rfl rfl ag22) (H.subl [0] rfl rfl) ?_
   refine tqh 4 rfl rfl rfl (fun _ hS => r_mv (v := .slice _ _ _) rfl) (H.subl [0] rfl rfl) ?_
   refine tqh 6 rfl rfl rfl (fun _ hS => r_fa0 rfl fo40_1) (H.subl [0] rfl rfl) ?_
   refine tqh 7 rfl rfl rfl (fun _ hS => r_lo hS 0 rfl rfl rfl ag37) (H.subl [0] rfl rfl) ?_
   refine t_up2 1 5 (by kernel_rfl) ?_ ?_
   ·refine up_mk rfl ?_
    refine s_run rfl rfl (r_lo H 1 rfl rfl rfl ag28) ?_
    refine k_nil ?_
    refine t_on (H.subl [0] rfl rfl) ?_
    refine t_up1 5 (by kernel_rfl) ?_
    refine up_mk rfl ?_
    refine s_call rfl (hN2 _ H.only (H.own_sees 5 rfl)) (ca51 rfl) ?_
    rintro e W1 ⟨PA, cP, rfl, H'⟩
    refine ⟨_, rfl, ?_⟩
    have H := H.more H'; clear H'
    refine k_nil ?_
    refine t_on (H.subl [1] rfl rfl) ?_
    refine tqh 8 rfl rfl rfl (fun _ hS => r_bd (bd40_0_1 _ _ _ _ _ _) rfl) (H.subl [1] rfl rfl) ?_
    refine t_up1 9 (by kernel_rfl) ?_
    refine up_mk rfl ?_
    refine s_bsN (enc := C1.v) (size := 2) (zs := [C1.s PA x.n cP, C1.s x.B x.m x.d]) H rfl rfl rfl (by omega) (by kernel_rfl) Try.underlying28 inf40 ?_
    intro _ _ H'; clear H; have H := H'; clear H'
    refine k_nil ?_
    refine t_on (H.subl [2] rfl rfl) ?_
    refine t_up1 10 (by kernel_rfl) ?_
    refine up_mk rfl ?_
    refine s_apB (enc := C1.v) (size := 2) H 3 rfl rfl rfl rfl C1.one (by omega) (by omega) Try.underlying28 inf40 rfl ?_
    intro NA' cN' _ H'; simp only [List.set_cons_zero, List.set_cons_succ, List.take_succ_cons, List.take_zero, List.drop_succ_cons, List.drop_zero, List.cons_append, List.nil_append, List.append_nil, List.length_cons, List.length_nil, Nat.reduceAdd] at H'; clear H; have H := H'; clear H'
    refine k_nil ?_
    refine t_on (H.subl [1] rfl rfl) ?_
    refine tqh 11 rfl rfl rfl (fun _ hS => r_fa0 rfl fo30_1) (H.subl [1] rfl rfl) ?_
    refine t_up1 12 (by kernel_rfl) ?_
    refine up_mk rfl ?_
    refine s_st (u := .slice _ _ _) H 2 rfl rfl rfl rfl rfl rfl sz28 ?_
    clear H; intro _ H; simp only [jA, jB, jC, jD, jE, jF, jG, jH, jI, jJ, jK, Nat.reduceAdd] at H
    refine k_nil ?_
    refine t_on (H.subl [1] rfl rfl) ?_
    refine t_done (by kernel_rfl) ?_
    refine b_norm ?_
    refine c_norm ?_
    refine k_rg ?_
    refine s_run rfl rfl (rmi rfl) ?_
    refine s_run rfl rfl (r_add rfl rfl (wI (by omega))) ?_
    refine s_run rfl rfl (rai rfl) ?_
    refine k_nil ?_
    refine c_round ?_
    exact fin _ _ PA NA' cP cN' rfl rfl rfl rfl rfl H
   ·refine up_mk rfl ?_
    refine s_call rfl (hN2 _ H.only (H.own_sees 5 rfl)) (ca51 rfl) ?_
    rintro e W1 ⟨PA, cP, rfl, H'⟩
    refine ⟨_, rfl, ?_⟩
    have H := H.more H'; clear H'
    refine k_nil ?_
    refine t_on (H.subl [1] rfl rfl) ?_
    refine tqh 8 rfl rfl rfl (fun _ hS => r_bd (bd40_0_1 _ _ _ _ _ _) rfl) (H.subl [1] rfl rfl) ?_
    refine t_up2 1 9 (by kernel_rfl) ?_ ?_
    ·refine up_mk rfl ?_
     refine s_run rfl rfl (r_lo H 2 rfl rfl rfl ag28) ?_
     refine k_nil ?_
     refine t_on (H.subl [1] rfl rfl) ?_
     refine t_up1 9 (by kernel_rfl) ?_
     refine up_mk rfl ?_
     refine s_bsN (enc := C1.v) (size := 2) (zs := [C1.s PA x.n cP, C1.s x.B x.m x.d]) H rfl rfl rfl (by omega) (by kernel_rfl) Try.underlying28 inf40 ?_
     intro _ _ H'; clear H; have H := H'; clear H'
     refine k_nil ?_
     refine t_on (H.subl [2] rfl rfl) ?_
     refine t_up1 10 (by kernel_rfl) ?_
     refine up_mk rfl ?_
     refine s_apB (enc := C1.v) (size := 2) H 3 rfl rfl rfl rfl C1.one (by omega) (by omega) Try.underlying28 inf40 rfl ?_
     intro NA' cN' _ H'; simp only [List.set_cons_zero, List.set_cons_succ, List.take_succ_cons, List.take_zero, List.drop_succ_cons, List.drop_zero, List.cons_append, List.nil_append, List.append_nil, List.length_cons, List.length_nil, Nat.reduceAdd] at H'; clear H; have H := H'; clear H'
     refine k_nil ?_
     refine t_on (H.subl [1] rfl rfl) ?_
     refine tqh 11 rfl rfl rfl (fun _ hS => r_fa0 rfl fo30_1) (H.subl [1] rfl rfl) ?_
     refine t_up1 12 (by kernel_rfl) ?_
     refine up_mk rfl ?_
     refine s_st (u := .slice _ _ _) H 2 rfl rfl rfl rfl rfl rfl sz28 ?_
     clear H; intro _ H; simp only [jA, jB, jC, jD, jE, jF, jG, jH, jI, jJ, jK, Nat.reduceAdd] at H
     refine k_nil ?_
     refine t_on (H.subl [1] rfl rfl) ?_
     refine t_done (by kernel_rfl) ?_
     refine b_norm ?_
     refine c_norm ?_
     refine k_rg ?_
     refine s_run rfl rfl (rmi rfl) ?_
     refine s_run rfl rfl (r_add rfl rfl (wI (by omega))) ?_
     refine s_run rfl rfl (rai rfl) ?_
     refine k_nil ?_
     refine c_round ?_
     exact fin _ _ PA NA' cP cN' rfl rfl rfl rfl rfl H
    ·refine up_mk rfl ?_
     refine s_bsN (enc := C1.v) (size := 2) (zs := [C1.s PA x.n cP, C1.s x.B x.m x.d]) H rfl rfl rfl (by omega) (by kernel_rfl) Try.underlying28 inf40 ?_
     intro _ _ H'; clear H; have H := H'; clear H'
     refine k_nil ?_
     refine t_on (H.subl [2] rfl rfl) ?_
     refine t_up1 1 (by kernel_rfl) ?_
     refine up_mk rfl ?_
     refine s_run rfl rfl (r_lo H 3 rfl rfl rfl ag28) ?_
     refine k_nil ?_
     refine t_on (H.subl [2] rfl rfl) ?_
     refine t_up1 10 (by kernel_rfl) ?_
     refine up_mk rfl ?_
     refine s_apB (enc := C1.v) (size := 2) H 3 rfl rfl rfl rfl C1.one (by omega) (by omega) Try.underlying28 inf40 rfl ?_
     intro NA' cN' _ H'; simp only [List.set_cons_zero, List.set_cons_succ, List.take_succ_cons, List.take_zero, List.drop_succ_cons, List.drop_zero, List.cons_append, List.nil_append, List.append_nil, List.length_cons, List.length_nil, Nat.reduceAdd] at H'; clear H; have H := H'; clear H'
     refine k_nil ?_
     refine t_on (H.subl [1] rfl rfl) ?_
     refine tqh 11 rfl rfl rfl (fun _ hS => r_fa0 rfl fo30_1) (H.subl [1] rfl rfl) ?_
     refine t_up1 12 (by kernel_rfl) ?_
     refine up_mk rfl ?_
     refine s_st (u := .slice _ _ _) H 2 rfl rfl rfl rfl rfl rfl sz28 ?_
     clear H; intro _ H; simp only [jA, jB, jC, jD, jE, jF, jG, jH, jI, jJ, jK, Nat.reduceAdd] at H
     refine k_nil ?_
     refine t_on (H.subl [1] rfl rfl) ?_
     refine t_done (by kernel_rfl) ?_
     refine b_norm ?_
     refine c_norm ?_
     refine k_rg ?_
     refine s_run rfl rfl (rmi rfl) ?_
     refine s_run rfl rfl (r_add rfl rfl (wI (by omega))) ?_
     refine s_run rfl rfl (rai rfl) ?_
     refine k_nil ?_
     refine c_round ?_
     exact fin _ _ PA NA' cP cN' rfl rfl rfl rfl rfl H
 ·obtain rfl : i = out.length := by omega
  obtain ⟨f, rfl⟩ := live5 f1 f2 f3 f4 f5
  clear f1 f2 f3 f4 f5
  have eto : out.take out.length = out := List.take_length
  rw [eto] at hnsm
  have hNs : ns.map (fun x => (x.ps, x.ds)) = Gr.canonN g.nodes out := hnsm
  have hfb : ∀ z, -9223372036854775808 ≤ Gr.fnd out z ∧ Gr.fnd out z ≤ 9223372036854775807 := fun z => by
   have := Gr.fnd_bd out z hod; omega
  refine k_seq ?_
  refine k_sg ?_
  refine s_run rfl rfl (rmi rfl) ?_
  refine s_run rfl rfl (rms rfl) ?_
  refine s_run rfl rfl (r_len rfl Try.underlying22) ?_
  refine s_run rfl rfl (r_lssF rfl rfl (by omega)) ?_
  refine k_nc ?_
  refine k_f rfl ?_
  refine k_exit ?_
  refine c_exit ?_
  refine c_exit ?_
  refine b_hit ?_
  refine c_norm ?_
  refine k_sg ?_
  refine s_run rfl rfl (r_la H 0 rfl rfl rfl ag30 sz30) ?_
  refine s_sw H 5 rfl rfl rfl rfl rfl rfl rfl sz30 ?_
  clear H; intro _ H; simp only [jA, jB, jC, jD, jE, jF, jG, jH, jI, jJ, jK, Nat.reduceAdd] at H
  refine k_nc ?_
  refine k_ret ?_
  refine fx1r rfl (rv_a H 5 rfl rfl rfl ag30 sz30) ?_
  have hok := made_okP (n := g.n) (m := out.length) (by rw [List.length_map, hrl]) hnsl (H.order [3, 1, 2, 0, 4, 5, 6] rfl rfl) (by omega) (by omega) (fun p hp => by
   obtain ⟨z, _, rfl⟩ := List.mem_map.1 hp
   exact hfb z) (fun x hx => by
   obtain ⟨h1, h2, h21, h22⟩ := hnsb x hx
   have h3 : (x.ps, x.ds) ∈ Gr.canonN g.nodes out := by rw [← hNs]; exact List.mem_map.2 ⟨x, hx, rfl⟩
   unfold Gr.canonN at h3
   obtain ⟨y, hy, he⟩ := List.mem_map.1 h3
   injection he with he1 he2
   refine ⟨by omega, h2, fun p hp => ?_, fun p hp => ?_, h21.later H.only (by simp), h22⟩
   ·rw [← he1] at hp
    obtain ⟨z, _, rfl⟩ := List.mem_map.1 hp
    exact hfb z
   ·rw [← he2] at hp
    have hyb := hob y hy
    obtain ⟨y', rfl⟩ := Int.eq_ofNat_of_zero_le hyb.1
    obtain ⟨z, hz⟩ : ∃ z, g.ns[y']? = some z := ⟨_, List.getElem?_eq_getElem (by omega)⟩
    rw [(nodes_at hz).2] at hp
    exact (hg.ns.2 z (List.mem_of_getElem? hz)).db p hp)
  exact ⟨⟨⟨RA, g.n, cR, _, NA, out.length, cN, ns⟩, out, rfl, hok, ho, rfl, hNs, rfl, rfl, hol, fun x hx => ⟨(hnsb x hx).1, (hnsb x hx).2.1⟩⟩, H.only⟩
end Go.Proofs.Ytdgmlfpikgjnlaa
end

section
namespace Go.Proofs.Ytdgmlfpikgjnlaa
open Go.RowKit
set_option maxRecDepth 100000
set_option maxHeartbeats 4000000
theorem dInts (A B : Option Addr) (n c m d : Nat) (xs ys : List Int) (w : World) (hx : Sees (Value.int .i64) w [] A xs) (hy : Sees (Value.int .i64) w [] B ys) (lx : xs.length = n) (ly : ys.length = m) (bx : ∀ p ∈ xs, -9223372036854775808 ≤ p ∧ p ≤ 9223372036854775807) (by_ : ∀ p ∈ ys, -9223372036854775808 ≤ p ∧ p ≤ 9223372036854775807) (n1 : n ≤ 100000) (m1 : m ≤ 100000) :
  Calls Try.prog 49 [.slice A n c, .slice B m d].toArray w fun e w' => e = .returned (.bool (eqB xs ys)) ∧ Only [] w w' :=
 (gints_any A B n c m d xs ys _ _ w (hx.row lx) (hy.row ly) (fun p hp => wf_i64 (bx p hp)) (fun p hp => wf_i64 (by_ p hp)) (by unfold maxLen; omega) (by unfold maxLen; omega)).mono fun e w' ⟨h, q, hq⟩ => ⟨h, by subst hq; exact only_drewN w q⟩
theorem dSame (a b : GrS) (w : World) (ha : GrOk w [] a) (hb : GrOk w [] b) (sa : Sm a) (sb : Sm b) :
  Calls Try.prog 17 [.agg a.cells.toArray, .agg b.cells.toArray].toArray w fun e w' => e = .returned (.bool (sameB a b)) ∧ Only [] w w' := by
 have H := Heap.nil w
 have an := sa.n
 have bn := sb.n
 have am := sa.m
 have bm := sb.m
 have anl := ha.nl
 have bnl := hb.nl
 have hEr := fun W (h : Only [] w W) => dInts a.A b.A a.n a.c b.n b.c a.rs b.rs W (ha.rs.later h (by simp)) (hb.rs.later h (by simp)) ha.rl hb.rl ha.rb hb.rb (by omega) (by omega)
 have hno : a.rs ≠ b.rs ∨ a.m ≠ b.m → sameB a b = false := fun h => decide_eq_false fun h2 => by
  rcases h with h | h
  ·exact h h2.1
  ·have := congrArg List.length h2.2
   rw [a.nodes_len, b.nodes_len] at this; omega
 unfold GrS.cells at *
 by_cases hrs : a.rs = b.rs
 ·rw [eqB_yes _ _ hrs] at hEr
  by_cases hmm : a.m = b.m
  ·refine k_in (N := 74) Try.func17 rfl rfl rfl ?_
   refine k_sg ?_
   refine s_box H rfl rfl ?_
   intro p2 _ H'; clear H; have H := H'; clear H'
   refine s_box H rfl rfl ?_
   intro p3 _ H'; clear H; have H := H'; clear H'
   refine s_run rfl rfl (rab rfl) ?_
   refine k_nc ?_
   refine k_seq ?_
   refine k_sg ?_
   refine s_run rfl rfl (r_fa0 rfl fo30_0) ?_
   refine s_run rfl rfl (r_lo H 1 rfl rfl rfl ag22) ?_
   refine s_run rfl rfl (r_fa0 rfl fo30_0) ?_
   refine s_run rfl rfl (r_lo H 0 rfl rfl rfl ag22) ?_
   refine s_call rfl (hEr _ H.only) (ca49 rfl) ?_
   rintro e W1 ⟨rfl, H'⟩
   refine ⟨_, rfl, ?_⟩
   have H := H.same H'; clear H'
   refine s_run rfl rfl (r_notT rfl) ?_
   refine s_run rfl rfl (rmb rfl) ?_
   refine s_run rfl (g_on 15 (by kernel_rfl) rfl) (r_fa0 rfl fo30_1) ?_
   refine s_run rfl (g_on 15 (by kernel_rfl) rfl) (r_lo H 1 rfl rfl rfl ag28) ?_
   refine s_run rfl (g_on 15 (by kernel_rfl) rfl) (r_len rfl Try.underlying28) ?_
   refine s_run rfl (g_on 15 (by kernel_rfl) rfl) (r_fa0 rfl fo30_1) ?_
   refine s_run rfl (g_on 15 (by kernel_rfl) rfl) (r_lo H 0 rfl rfl rfl ag28) ?_
   refine s_run rfl (g_on 15 (by kernel_rfl) rfl) (r_len rfl Try.underlying28) ?_
   refine s_run rfl (g_on 15 (by kernel_rfl) rfl) (r_neqF rfl rfl (by omega)) ?_
   refine s_run rfl rfl (r_pkF (v := .bool _) rfl rfl) ?_
   refine k_nc ?_
   refine k_f rfl ?_
   refine k_skip ?_
   refine c_norm ?_
   refine k_seq ?_
   refine k_sg ?_
   refine s_run rfl rfl (rai rfl) ?_
   refine k_nc ?_
   refine k_b ?_
   refine k_loop (fun z f W => ∃ i : Nat, i ≤ a.m ∧ z = a.m - i ∧ a.nodes.take i = b.nodes.take i ∧ f 2 = ptr p2 ∧ f 3 = ptr p3 ∧ f 5 = .int .i64 i ∧ Heap w [] [blk p3 [.slice b.A b.n b.c, .slice b.B b.m b.d] 30, blk p2 [.slice a.A a.n a.c, .slice a.B a.m a.d] 30] W) a.m ⟨0, by omega, rfl, rfl, rfl, rfl, rfl, H⟩ ?_
   clear H
   rintro z f W ⟨i, hi, rfl, he, f2, f3, f5, H⟩
   obtain ⟨f, rfl⟩ := live3 f2 f3 f5
   clear f2 f3 f5
   by_cases hlt : i < a.m
   ·obtain ⟨x, hx⟩ : ∃ x, a.ns[i]? = some x := ⟨_, List.getElem?_eq_getElem (by omega)⟩
    obtain ⟨y, hy⟩ : ∃ y, b.ns[i]? = some y := ⟨_, List.getElem?_eq_getElem (by omega)⟩
    have hxm := List.mem_of_getElem? hx
    have hym := List.mem_of_getElem? hy
    obtain ⟨ab, ao, hAB, _, hrx⟩ := ha.ns.1 (by omega)
    obtain ⟨bb, bo, hBB, _, hry⟩ := hb.ns.1 (by omega)
    have hxc := hrx i x hx
    have hyc := hry i y hy
    have hxo := ha.ns.2 x hxm
    have hyo := hb.ns.2 y hym
    have hxs := sa.p x hxm
    have hys := sb.p y hym
    have hxdl := hxo.dl
    have hydl := hyo.dl
    have hEp := fun W (h : Only [] w W) => dInts x.A y.A x.n x.c y.n y.c x.ps y.ps W (hxo.ps.later h (by simp)) (hyo.ps.later h (by simp)) hxo.pl hyo.pl hxo.pb hyo.pb (by omega) (by omega)
    have hnode : (x.ps, x.ds) ≠ (y.ps, y.ds) → sameB a b = false := fun h => decide_eq_false fun h2 => h (by
     have h3 := nodes_get hx
     rw [h2.2, nodes_get hy] at h3
     injection h3 with h3; exact h3.symm)
    unfold NodeS.cells at hxc hyc
    rw [hAB, hBB] at H
    refine k_seq ?_
    refine k_sg ?_
    refine s_run rfl rfl (rmi rfl) ?_
    refine s_run rfl rfl (r_fa0 rfl fo30_1) ?_
    refine s_run rfl rfl (r_lo H 1 rfl rfl rfl ag28) ?_
    refine s_run rfl rfl (r_len rfl Try.underlying28) ?_
    refine s_run rfl rfl (r_lssT rfl rfl (by omega)) ?_
    refine k_nc ?_
    refine k_t rfl ?_
    refine k_skip ?_
    refine c_norm ?_
    refine k_seq ?_
    refine k_b ?_
    refine k_seq ?_
    refine k_cut (fun f W => ∃ p6 p7, f 2 = ptr p2 ∧ f 3 = ptr p3 ∧ f 5 = .int .i64 i ∧ f 6 = ptr p6 ∧ f 7 = ptr p7 ∧ Heap w [] [blk p7 [.slice y.A y.n y.c, .slice y.B y.m y.d] 40, blk p6 [.slice x.A x.n x.c, .slice x.B x.m x.d] 40, blk p3 [.slice b.A b.n b.c, .slice (some ⟨bb, bo, none⟩) b.m b.d] 30, blk p2 [.slice a.A a.n a.c, .slice (some ⟨ab, ao, none⟩) a.m a.d] 30] W) ?_ ?_
    ·have HR := H; clear H; have H := HR.tree; refine k_tr mixed ?_
     refine tqn 0 rfl rfl rfl (fun _ hS => r_fa0 rfl fo30_1) H.only ?_
     refine tqn 1 rfl rfl rfl (fun _ hS => r_lo (HR.same hS) 1 rfl rfl rfl ag28) H.only ?_
     refine tqn 2 rfl rfl rfl (fun _ hS => r_mv (v := .int _ _) rfl) H.only ?_
     refine tqn 3 rfl rfl rfl (fun _ hS => r_ix (i := i) rfl rfl (by omega) (by omega) Try.underlying28 sz40) H.only ?_
     refine tqn 4 rfl rfl rfl (fun _ hS => r_lA (enc := fun v : Value => v) (zs := [.slice x.A x.n x.c, .slice x.B x.m x.d]) (hxc.later (HR.same hS).only (by simp)) rfl rfl ag40 sz40) H.only ?_
     refine tqn 5 rfl rfl rfl (fun _ hS => r_fa0 rfl fo30_1) H.only ?_
     refine tqn 6 rfl rfl rfl (fun _ hS => r_lo (HR.same hS) 0 rfl rfl rfl ag28) H.only ?_
     refine tqn 7 rfl rfl rfl (fun _ hS => r_mv (v := .int _ _) rfl) H.only ?_
     refine tqn 8 rfl rfl rfl (fun _ hS => r_ix (i := i) rfl rfl (by omega) (by omega) Try.underlying28 sz40) H.only ?_
     refine tqn 9 rfl rfl rfl (fun _ hS => r_lA (enc := fun v : Value => v) (zs := [.slice y.A y.n y.c, .slice y.B y.m y.d]) (hyc.later (HR.same hS).only (by simp)) rfl rfl ag40 sz40) H.only ?_
     refine t_up2 10 11 (by kernel_rfl) ?_ ?_
     ·refine up_mk rfl ?_
      refine s_al H rfl inf40 ?_
      intro p6 _ H'; clear H; have H := H'; clear H'
      refine k_nil ?_
      refine t_on H.only ?_
      refine t_up1 11 (by kernel_rfl) ?_
      refine up_mk rfl ?_
      refine s_al H rfl inf40 ?_
      intro p7 _ H'; clear H; have H := H'; clear H'
      refine k_nil ?_
      refine t_on H.only ?_
      refine t_up1 12 (by kernel_rfl) ?_
      refine up_mk rfl ?_
      refine s_sw H 1 rfl rfl rfl rfl rfl rfl rfl sz40 ?_
      clear H; intro _ H; simp only [jA, jB, jC, jD, jE, jF, jG, jH, jI, jJ, jK, Nat.reduceAdd] at H
      refine k_nil ?_
      refine t_on H.only ?_
      refine t_up1 13 (by kernel_rfl) ?_
      refine up_mk rfl ?_
      refine s_sw H 0 rfl rfl rfl rfl rfl rfl rfl sz40 ?_
      clear H; intro _ H; simp only [jA, jB, jC, jD, jE, jF, jG, jH, jI, jJ, jK, Nat.reduceAdd] at H
      refine k_nil ?_
      refine t_on H.only ?_
      refine t_done (by kernel_rfl) ?_
      have H := HR.more H; clear HR; simp only [List.cons_append, List.nil_append] at H
      refine k_met ?_
      exact ⟨_, _, rfl, rfl, rfl, rfl, rfl, H⟩
     ·refine up_mk rfl ?_
      refine s_al H rfl inf40 ?_
      intro p7 _ H'; clear H; have H := H'; clear H'
      refine k_nil ?_
      refine t_on H.only ?_
      refine t_up1 10 (by kernel_rfl) ?_
      refine up_mk rfl ?_
      refine s_al H rfl inf40 ?_
      intro p6 _ H'; clear H; have H := H'; clear H'
      refine k_nil ?_
      refine t_on H.only ?_
      refine t_up1 12 (by kernel_rfl) ?_
      refine up_mk rfl ?_
      refine s_sw H 0 rfl rfl rfl rfl rfl rfl rfl sz40 ?_
      clear H; intro _ H; simp only [jA, jB, jC, jD, jE, jF, jG, jH, jI, jJ, jK, Nat.reduceAdd] at H
      refine k_nil ?_
      refine t_on H.only ?_
      refine t_up1 13 (by kernel_rfl) ?_
      refine up_mk rfl ?_
      refine s_sw H 1 rfl rfl rfl rfl rfl rfl rfl sz40 ?_
      clear H; intro _ H; simp only [jA, jB, jC, jD, jE, jF, jG, jH, jI, jJ, jK, Nat.reduceAdd] at H
      refine k_nil ?_
      refine t_on H.only ?_
      refine t_done (by kernel_rfl) ?_
      replace H := H.pick 1 rfl; simp only [jL, jM] at H
      have H := HR.more H; clear HR; simp only [List.cons_append, List.nil_append] at H
      refine k_met ?_
      exact ⟨_, _, rfl, rfl, rfl, rfl, rfl, H⟩
    ·clear H
     rintro f W ⟨p6, p7, f2, f3, f5, f6, f7, H⟩
     obtain ⟨f, rfl⟩ := live5 f2 f3 f5 f6 f7
     clear f2 f3 f5 f6 f7
     by_cases hp : x.ps = y.ps
     ·rw [eqB_yes _ _ hp] at hEp
      by_cases hd : x.m = y.m
      ·refine c_norm ?_
       refine k_seq ?_
       refine k_sg ?_
       refine s_run rfl rfl (r_fa0 rfl fo40_0) ?_
       refine s_run rfl rfl (r_lo H 1 rfl rfl rfl ag22) ?_
       refine s_run rfl rfl (r_fa0 rfl fo40_0) ?_
       refine s_run rfl rfl (r_lo H 0 rfl rfl rfl ag22) ?_
       refine s_call rfl (hEp _ H.only) (ca49 rfl) ?_
       rintro e W1 ⟨rfl, H'⟩
       refine ⟨_, rfl, ?_⟩
       have H := H.same H'; clear H'
       refine s_run rfl rfl (r_notT rfl) ?_
       refine s_run rfl rfl (rmb rfl) ?_
       refine s_run rfl (g_on 47 (by kernel_rfl) rfl) (r_fa0 rfl fo40_1) ?_
       refine s_run rfl (g_on 47 (by kernel_rfl) rfl) (r_lo H 1 rfl rfl rfl ag37) ?_
       refine s_run rfl (g_on 47 (by kernel_rfl) rfl) (r_len rfl Try.underlying37) ?_
       refine s_run rfl (g_on 47 (by kernel_rfl) rfl) (r_fa0 rfl fo40_1) ?_
       refine s_run rfl (g_on 47 (by kernel_rfl) rfl) (r_lo H 0 rfl rfl rfl ag37) ?_
       refine s_run rfl (g_on 47 (by kernel_rfl) rfl) (r_len rfl Try.underlying37) ?_
       refine s_run rfl (g_on 47 (by kernel_rfl) rfl) (r_neqF rfl rfl (by omega)) ?_
       refine s_run rfl rfl (r_pkF (v := .bool _) rfl rfl) ?_
       refine k_nc ?_
       refine k_f rfl ?_
       refine k_skip ?_
       refine c_norm ?_
       refine k_sg ?_
       refine s_run rfl rfl (rai rfl) ?_
       refine k_nc ?_
       refine k_b ?_
       refine k_loop (fun z f W => ∃ k : Nat, k ≤ x.m ∧ z = x.m - k ∧ x.ds.take k = y.ds.take k ∧ f 2 = ptr p2 ∧ f 3 = ptr p3 ∧ f 5 = .int .i64 i ∧ f 6 = ptr p6 ∧ f 7 = ptr p7 ∧ f 8 = .int .i64 k ∧ Heap w [] [blk p7 [.slice y.A y.n y.c, .slice y.B y.m y.d] 40, blk p6 [.slice x.A x.n x.c, .slice x.B x.m x.d] 40, blk p3 [.slice b.A b.n b.c, .slice (some ⟨bb, bo, none⟩) b.m b.d] 30, blk p2 [.slice a.A a.n a.c, .slice (some ⟨ab, ao, none⟩) a.m a.d] 30] W) x.m ⟨0, by omega, rfl, rfl, rfl, rfl, rfl, rfl, rfl, rfl, H⟩ ?_
       clear H
       rintro z f W ⟨k, hk, rfl, hek, f2, f3, f5, f6, f7, f8, H⟩
       obtain ⟨f, rfl⟩ := live6 f2 f3 f5 f6 f7 f8
       clear f2 f3 f5 f6 f7 f8
       by_cases hkl : k < x.m
       ·obtain ⟨u, hu⟩ : ∃ u, x.ds[k]? = some u := ⟨_, List.getElem?_eq_getElem (by omega)⟩
        obtain ⟨v, hv⟩ : ∃ v, y.ds[k]? = some v := ⟨_, List.getElem?_eq_getElem (by omega)⟩
        obtain ⟨xb, xo, hXB, _, hru⟩ := hxo.ds (by omega)
        obtain ⟨yb, yo, hYB, _, hrv⟩ := hyo.ds (by omega)
        have hcu := hru k u hu
        have hcv := hrv k v hv
        rw [hXB, hYB] at H
        by_cases huv : u = v
        ·refine k_seq ?_
         refine k_sg ?_
         refine s_run rfl rfl (rmi rfl) ?_
         refine s_run rfl rfl (r_fa0 rfl fo40_1) ?_
         refine s_run rfl rfl (r_lo H 1 rfl rfl rfl ag37) ?_
         refine s_run rfl rfl (r_len rfl Try.underlying37) ?_
         refine s_run rfl rfl (r_lssT rfl rfl (by omega)) ?_
         refine k_nc ?_
         refine k_t rfl ?_
         refine k_skip ?_
         refine c_norm ?_
         refine k_seq ?_
         refine k_b ?_
         refine k_seq ?_
         refine k_q mixed (by kernel_rfl) H ?_
         refine q_run rfl rfl (fun _ H => r_fa0 rfl fo40_1) ?_
         refine q_run rfl rfl (fun _ H => r_lo H 1 rfl rfl rfl ag37) ?_
         refine q_run rfl rfl (fun _ H => r_mv (v := .int _ _) rfl) ?_
         refine q_run rfl rfl (fun _ H => r_ix1o (i := k) rfl rfl (by omega) (by omega) Try.underlying37 sz78) ?_
         refine q_run rfl rfl (fun _ H => r_lr H rfl hcu (by simp) ag78) ?_
         refine q_run rfl rfl (fun _ H => r_fa0 rfl fo40_1) ?_
         refine q_run rfl rfl (fun _ H => r_lo H 0 rfl rfl rfl ag37) ?_
         refine q_run rfl rfl (fun _ H => r_mv (v := .int _ _) rfl) ?_
         refine q_run rfl rfl (fun _ H => r_ix1o (i := k) rfl rfl (by omega) (by omega) Try.underlying37 sz78) ?_
         refine q_run rfl rfl (fun _ H => r_lr H rfl hcv (by simp) ag78) ?_
         refine q_run rfl rfl (fun _ H => r_neqF rfl rfl (by omega)) ?_
         refine q_nil ?_
         intro _ H'; clear H; have H := H'; clear H'
         refine c_norm ?_
         refine k_f rfl ?_
         refine k_skip ?_
         refine b_norm ?_
         refine c_norm ?_
         refine k_rg ?_
         refine s_run rfl rfl (rmi rfl) ?_
         refine s_run rfl rfl (r_add rfl rfl (wI (by omega))) ?_
         refine s_run rfl rfl (rai rfl) ?_
         refine k_nil ?_
         refine c_round ?_
         rw [← hXB, ← hYB] at H
         refine ⟨_, _, ?_, rfl, k + 1, by omega, rfl, by rw [List.take_add_one, List.take_add_one, hek, hu, hv, huv], rfl, rfl, rfl, rfl, rfl, rfl, H⟩
         omega
        ·rw [hnode (fun h => huv (by
          injection h with _ h
          rw [h, hv] at hu; injection hu with hu; exact hu.symm))]
         refine k_seq ?_
         refine k_sg ?_
         refine s_run rfl rfl (rmi rfl) ?_
         refine s_run rfl rfl (r_fa0 rfl fo40_1) ?_
         refine s_run rfl rfl (r_lo H 1 rfl rfl rfl ag37) ?_
         refine s_run rfl rfl (r_len rfl Try.underlying37) ?_
         refine s_run rfl rfl (r_lssT rfl rfl (by omega)) ?_
         refine k_nc ?_
         refine k_t rfl ?_
         refine k_skip ?_
         refine c_norm ?_
         refine k_seq ?_
         refine k_b ?_
         refine k_seq ?_
         refine k_q mixed (by kernel_rfl) H ?_
         refine q_run rfl rfl (fun _ H => r_fa0 rfl fo40_1) ?_
         refine q_run rfl rfl (fun _ H => r_lo H 1 rfl rfl rfl ag37) ?_
         refine q_run rfl rfl (fun _ H => r_mv (v := .int _ _) rfl) ?_
         refine q_run rfl rfl (fun _ H => r_ix1o (i := k) rfl rfl (by omega) (by omega) Try.underlying37 sz78) ?_
         refine q_run rfl rfl (fun _ H => r_lr H rfl hcu (by simp) ag78) ?_
         refine q_run rfl rfl (fun _ H => r_fa0 rfl fo40_1) ?_
         refine q_run rfl rfl (fun _ H => r_lo H 0 rfl rfl rfl ag37) ?_
         refine q_run rfl rfl (fun _ H => r_mv (v := .int _ _) rfl) ?_
         refine q_run rfl rfl (fun _ H => r_ix1o (i := k) rfl rfl (by omega) (by omega) Try.underlying37 sz78) ?_
         refine q_run rfl rfl (fun _ H => r_lr H rfl hcv (by simp) ag78) ?_
         refine q_run rfl rfl (fun _ H => r_neqT rfl rfl (by omega)) ?_
         refine q_nil ?_
         intro _ H'; clear H; have H := H'; clear H'
         refine c_norm ?_
         refine k_t rfl ?_
         refine k_sg ?_
         refine s_run rfl rfl (rab rfl) ?_
         refine k_nc ?_
         refine k_ret ?_
         refine b_ret ?_
         refine c_ret ?_
         refine c_ret ?_
         refine b_ret ?_
         refine b_ret ?_
         refine c_ret ?_
         refine c_ret ?_
         refine b_ret ?_
         refine c_ret ?_
         refine fin1r (v := .bool _) rfl rfl ?_
         exact ⟨rfl, H.only⟩
       ·obtain rfl : k = x.m := by omega
        have e1 : x.ds.take x.m = x.ds := by rw [← hxdl]; exact List.take_length
        have e2 : y.ds.take x.m = y.ds := by rw [hd, ← hydl]; exact List.take_length
        rw [e1, e2] at hek
        refine k_seq ?_
        refine k_sg ?_
        refine s_run rfl rfl (rmi rfl) ?_
        refine s_run rfl rfl (r_fa0 rfl fo40_1) ?_
        refine s_run rfl rfl (r_lo H 1 rfl rfl rfl ag37) ?_
        refine s_run rfl rfl (r_len rfl Try.underlying37) ?_
        refine s_run rfl rfl (r_lssF rfl rfl (by omega)) ?_
        refine k_nc ?_
        refine k_f rfl ?_
        refine k_exit ?_
        refine c_exit ?_
        refine c_exit ?_
        refine b_hit ?_
        refine b_norm ?_
        refine c_norm ?_
        refine k_rg ?_
        refine s_run rfl rfl (rmi rfl) ?_
        refine s_run rfl rfl (r_add rfl rfl (wI (by omega))) ?_
        refine s_run rfl rfl (rai rfl) ?_
        refine k_nil ?_
        refine c_round ?_
        rw [← hAB, ← hBB] at H
        refine ⟨_, _, ?_, rfl, i + 1, by omega, rfl, by rw [List.take_add_one, List.take_add_one, he, nodes_get hx, nodes_get hy, hp, hek], rfl, rfl, rfl, H.drop.drop⟩
        omega
      ·rw [hnode (fun h => hd (by
        injection h with _ h
        rw [← hxdl, ← hydl, h]))]
       refine c_norm ?_
       refine k_seq ?_
       refine k_sg ?_
       refine s_run rfl rfl (r_fa0 rfl fo40_0) ?_
       refine s_run rfl rfl (r_lo H 1 rfl rfl rfl ag22) ?_
       refine s_run rfl rfl (r_fa0 rfl fo40_0) ?_
       refine s_run rfl rfl (r_lo H 0 rfl rfl rfl ag22) ?_
       refine s_call rfl (hEp _ H.only) (ca49 rfl) ?_
       rintro e W1 ⟨rfl, H'⟩
       refine ⟨_, rfl, ?_⟩
       have H := H.same H'; clear H'
       refine s_run rfl rfl (r_notT rfl) ?_
       refine s_run rfl rfl (rmb rfl) ?_
       refine s_run rfl (g_on 47 (by kernel_rfl) rfl) (r_fa0 rfl fo40_1) ?_
       refine s_run rfl (g_on 47 (by kernel_rfl) rfl) (r_lo H 1 rfl rfl rfl ag37) ?_
       refine s_run rfl (g_on 47 (by kernel_rfl) rfl) (r_len rfl Try.underlying37) ?_
       refine s_run rfl (g_on 47 (by kernel_rfl) rfl) (r_fa0 rfl fo40_1) ?_
       refine s_run rfl (g_on 47 (by kernel_rfl) rfl) (r_lo H 0 rfl rfl rfl ag37) ?_
       refine s_run rfl (g_on 47 (by kernel_rfl) rfl) (r_len rfl Try.underlying37) ?_
       refine s_run rfl (g_on 47 (by kernel_rfl) rfl) (r_neqT rfl rfl (by omega)) ?_
       refine s_run rfl rfl (r_pkF (v := .bool _) rfl rfl) ?_
       refine k_nc ?_
       refine k_t rfl ?_
       refine k_sg ?_
       refine s_run rfl rfl (rab rfl) ?_
       refine k_nc ?_
       refine k_ret ?_
       refine c_ret ?_
       refine b_ret ?_
       refine c_ret ?_
       refine c_ret ?_
       refine b_ret ?_
       refine c_ret ?_
       refine fin1r (v := .bool _) rfl rfl ?_
       exact ⟨rfl, H.only⟩
     ·rw [eqB_no _ _ hp] at hEp
      rw [hnode (fun h => hp (by injection h))]
      refine c_norm ?_
      refine k_seq ?_
      refine k_sg ?_
      refine s_run rfl rfl (r_fa0 rfl fo40_0) ?_
      refine s_run rfl rfl (r_lo H 1 rfl rfl rfl ag22) ?_
      refine s_run rfl rfl (r_fa0 rfl fo40_0) ?_
      refine s_run rfl rfl (r_lo H 0 rfl rfl rfl ag22) ?_
      refine s_call rfl (hEp _ H.only) (ca49 rfl) ?_
      rintro e W1 ⟨rfl, H'⟩
      refine ⟨_, rfl, ?_⟩
      have H := H.same H'; clear H'
      refine s_run rfl rfl (r_notF rfl) ?_
      refine s_run rfl rfl (rmb rfl) ?_
      refine s_off rfl (g_off 47 (by kernel_rfl) rfl rfl) ?_
      refine s_off rfl (g_off 47 (by kernel_rfl) rfl rfl) ?_
      refine s_off rfl (g_off 47 (by kernel_rfl) rfl rfl) ?_
      refine s_off rfl (g_off 47 (by kernel_rfl) rfl rfl) ?_
      refine s_off rfl (g_off 47 (by kernel_rfl) rfl rfl) ?_
      refine s_off rfl (g_off 47 (by kernel_rfl) rfl rfl) ?_
      refine s_off rfl (g_off 47 (by kernel_rfl) rfl rfl) ?_
      refine s_run rfl rfl (r_pkT (v := .bool _) rfl rfl) ?_
      refine k_nc ?_
      refine k_t rfl ?_
      refine k_sg ?_
      refine s_run rfl rfl (rab rfl) ?_
      refine k_nc ?_
      refine k_ret ?_
      refine c_ret ?_
      refine b_ret ?_
      refine c_ret ?_
      refine c_ret ?_
      refine b_ret ?_
      refine c_ret ?_
      refine fin1r (v := .bool _) rfl rfl ?_
      exact ⟨rfl, H.only⟩
   ·obtain rfl : i = a.m := by omega
    have e1 : a.nodes.take a.m = a.nodes := by rw [← anl, ← a.nodes_len]; exact List.take_length
    have e2 : b.nodes.take a.m = b.nodes := by rw [hmm, ← bnl, ← b.nodes_len]; exact List.take_length
    rw [show sameB a b = true from decide_eq_true ⟨hrs, by rw [← e1, ← e2]; exact he⟩]
    refine k_seq ?_
    refine k_sg ?_
    refine s_run rfl rfl (rmi rfl) ?_
    refine s_run rfl rfl (r_fa0 rfl fo30_1) ?_
    refine s_run rfl rfl (r_lo H 1 rfl rfl rfl ag28) ?_
    refine s_run rfl rfl (r_len rfl Try.underlying28) ?_
    refine s_run rfl rfl (r_lssF rfl rfl (by omega)) ?_
    refine k_nc ?_
    refine k_f rfl ?_
    refine k_exit ?_
    refine c_exit ?_
    refine c_exit ?_
    refine b_hit ?_
    refine c_norm ?_
    refine k_sg ?_
    refine s_run rfl rfl (rab rfl) ?_
    refine k_nc ?_
    refine k_ret ?_
    refine fin1r (v := .bool _) rfl rfl ?_
    exact ⟨rfl, H.only⟩
  ·rw [hno (.inr hmm)]
   refine k_in (N := 74) Try.func17 rfl rfl rfl ?_
   refine k_sg ?_
   refine s_box H rfl rfl ?_
   intro p2 _ H'; clear H; have H := H'; clear H'
   refine s_box H rfl rfl ?_
   intro p3 _ H'; clear H; have H := H'; clear H'
   refine s_run rfl rfl (rab rfl) ?_
   refine k_nc ?_
   refine k_seq ?_
   refine k_sg ?_
   refine s_run rfl rfl (r_fa0 rfl fo30_0) ?_
   refine s_run rfl rfl (r_lo H 1 rfl rfl rfl ag22) ?_
   refine s_run rfl rfl (r_fa0 rfl fo30_0) ?_
   refine s_run rfl rfl (r_lo H 0 rfl rfl rfl ag22) ?_
   refine s_call rfl (hEr _ H.only) (ca49 rfl) ?_
   rintro e W1 ⟨rfl, H'⟩
   refine ⟨_, rfl, ?_⟩
   have H := H.same H'; clear H'
   refine s_run rfl rfl (r_notT rfl) ?_
   refine s_run rfl rfl (rmb rfl) ?_
   refine s_run rfl (g_on 15 (by kernel_rfl) rfl) (r_fa0 rfl fo30_1) ?_
   refine s_run rfl (g_on 15 (by kernel_rfl) rfl) (r_lo H 1 rfl rfl rfl ag28) ?_
   refine s_run rfl (g_on 15 (by kernel_rfl) rfl) (r_len rfl Try.underlying28) ?_
   refine s_run rfl (g_on 15 (by kernel_rfl) rfl) (r_fa0 rfl fo30_1) ?_
   refine s_run rfl (g_on 15 (by kernel_rfl) rfl) (r_lo H 0 rfl rfl rfl ag28) ?_
   refine s_run rfl (g_on 15 (by kernel_rfl) rfl) (r_len rfl Try.underlying28) ?_
   refine s_run rfl (g_on 15 (by kernel_rfl) rfl) (r_neqT rfl rfl (by omega)) ?_
   refine s_run rfl rfl (r_pkF (v := .bool _) rfl rfl) ?_
   refine k_nc ?_
   refine k_t rfl ?_
   refine k_sg ?_
   refine s_run rfl rfl (rab rfl) ?_
   refine k_nc ?_
   refine k_ret ?_
   refine c_ret ?_
   refine fin1r (v := .bool _) rfl rfl ?_
   exact ⟨rfl, H.only⟩
 ·rw [eqB_no _ _ hrs] at hEr
  rw [hno (.inl hrs)]
  refine k_in (N := 74) Try.func17 rfl rfl rfl ?_
  refine k_sg ?_
  refine s_box H rfl rfl ?_
  intro p2 _ H'; clear H; have H := H'; clear H'
  refine s_box H rfl rfl ?_
  intro p3 _ H'; clear H; have H := H'; clear H'
  refine s_run rfl rfl (rab rfl) ?_
  refine k_nc ?_
  refine k_seq ?_
  refine k_sg ?_
  refine s_run rfl rfl (r_fa0 rfl fo30_0) ?_
  refine s_run rfl rfl (r_lo H 1 rfl rfl rfl ag22) ?_
  refine s_run rfl rfl (r_fa0 rfl fo30_0) ?_
  refine s_run rfl rfl (r_lo H 0 rfl rfl rfl ag22) ?_
  refine s_call rfl (hEr _ H.only) (ca49 rfl) ?_
  rintro e W1 ⟨rfl, H'⟩
  refine ⟨_, rfl, ?_⟩
  have H := H.same H'; clear H'
  refine s_run rfl rfl (r_notF rfl) ?_
  refine s_run rfl rfl (rmb rfl) ?_
  refine s_off rfl (g_off 15 (by kernel_rfl) rfl rfl) ?_
  refine s_off rfl (g_off 15 (by kernel_rfl) rfl rfl) ?_
  refine s_off rfl (g_off 15 (by kernel_rfl) rfl rfl) ?_
  refine s_off rfl (g_off 15 (by kernel_rfl) rfl rfl) ?_
  refine s_off rfl (g_off 15 (by kernel_rfl) rfl rfl) ?_
  refine s_off rfl (g_off 15 (by kernel_rfl) rfl rfl) ?_
  refine s_off rfl (g_off 15 (by kernel_rfl) rfl rfl) ?_
  refine s_run rfl rfl (r_pkT (v := .bool _) rfl rfl) ?_
  refine k_nc ?_
  refine k_t rfl ?_
  refine k_sg ?_
  refine s_run rfl rfl (rab rfl) ?_
  refine k_nc ?_
  refine k_ret ?_
  refine c_ret ?_
  refine fin1r (v := .bool _) rfl rfl ?_
  exact ⟨rfl, H.only⟩
end Go.Proofs.Ytdgmlfpikgjnlaa
end
