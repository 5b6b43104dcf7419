/-
  TraceClosed: for every input the Go function answers true, and its arguments read afterwards as they read before. No condition.
-/
import Derived.Test.YtlakbclnilakbaaKTraceClosede
set_option linter.unusedSimpArgs false
set_option linter.unusedVariables false
set_option linter.unusedSectionVars false
section
namespace Go.Proofs.Ytlakbclnilakbaa
open Go.RowKit
set_option maxRecDepth 100000
set_option maxHeartbeats 8000000
theorem live9 {f : Nat → Value} {k1 k2 k3 k4 k5 k6 k7 k8 k9 : Nat} {v1 v2 v3 v4 v5 v6 v7 v8 v9 : Value} (h1 : f k1 = v1) (h2 : f k2 = v2) (h3 : f k3 = v3) (h4 : f k4 = v4) (h5 : f k5 = v5) (h6 : f k6 = v6) (h7 : f k7 = v7) (h8 : f k8 = v8) (h9 : f k9 = v9) : ∃ g, f = upd (upd (upd (upd (upd (upd (upd (upd (upd g k1 v1) k2 v2) k3 v3) k4 v4) k5 v5) k6 v6) k7 v7) k8 v8) k9 v9 := ⟨f, by rw [upd_same h1, upd_same h2, upd_same h3, upd_same h4, upd_same h5, upd_same h6, upd_same h7, upd_same h8, upd_same h9]⟩
def usOf (us : List TNode) : List (Int × List Int) := us.map fun u => (u.f0, u.xs1)
theorem usOf_getD {us : List TNode} {i : Nat} {u : TNode} (h : us[i]? = some u) : (usOf us).getD i (-1, []) = (u.f0, u.xs1) := by
 unfold usOf; rw [List.getD_eq_getElem?_getD, List.getElem?_map, h]; rfl
theorem rOEnc' (p d a : Int) (w : World) (hp : 0 ≤ p ∧ p ≤ 1000) (hd : 0 ≤ d ∧ d ≤ 1000) (ha : 0 ≤ a ∧ a ≤ 1000000000) :
  Calls Try.prog 59 [.agg [.int .i64 p, .int .i64 d].toArray, .int .i64 a].toArray w fun e w' => e = .returned (.int .u64 (Oh.enc p d a)) ∧ Only [] w w' :=
 (rOEnc_any p d a w (by omega) (by omega) (by omega) (by omega) (by omega) (by omega)).mono fun e w' h => ⟨h.1, Only.of_below h.2 _⟩
theorem hdrSees {w0 W : World} {F : List Nat} {L : List Ent} {A : Option Addr} {B c : Nat} {T : TypeId} (H : Heap w0 F L W) (j : Nat) (hj : L[j]? = some (ownN 3 (.slice A B c) B ((Md.hfl B).map C1.v) T)) : HSees W [] A (Md.mkH B) := fun h0 => by
 rw [Md.mkH_len] at h0
 obtain ⟨b, e, hb, hr⟩ := H.own_seesN j hj (by rw [Md.hfl_len]; omega)
 refine ⟨b, 0, e, by simp, fun i h hi k u hk => ?_⟩
 have hiB : i < B := by have := (List.getElem?_eq_some_iff.1 hi).1; rwa [Md.mkH_len] at this
 obtain ⟨x, y, z, h1, h2, h3, h4⟩ := Md.hfl_get B i hiB
 rw [hi] at h1
 injection h1 with h1
 subst h1
 match k, hk with
 | 0, hk => injection hk with hk; subst hk; exact hr _ _ h2
 | 1, hk => injection hk with hk; subst hk; have := hr _ _ h3; rwa [← Nat.add_assoc] at this
 | 2, hk => injection hk with hk; subst hk; have := hr _ _ h4; rwa [← Nat.add_assoc] at this
 | k + 3, hk => cases hk
theorem lMade (bl : Int) (hbl : 0 ≤ bl ∧ bl ≤ 255) (A : Option Addr) (n c : Nat) (us : List TNode) (w : World) (hU : ScriptTNode w A us) (hn : us.length = n) (hn2 : n ≤ 60) (hF : ∀ u ∈ us, u.n1 ≤ 10 ∧ ∀ x ∈ u.xs1, -5000 ≤ x ∧ x ≤ 5000) (B : Nat) (hB : (B : Int) = 2 + bl % 4) :
  Calls Try.prog 20 [.int .u8 bl, .slice A n c].toArray w fun e w' => ∃ g LA lc, e = .returned (.tuple [ptr g.p, .agg [.int .i64 B].toArray, .slice LA B lc].toArray) ∧ Heap w [] [grp (devL g (Nv.load (Md.mkW B (usOf us) n) (64 * B))), ownN 3 (.slice LA B lc) B ((Md.hfl B).map C1.v) 102] w' := by
 have H := Heap.nil w
 have hB5 : B ≤ 5 ∧ 2 ≤ B := by omega
 have hB' : 2 + bl % 4 = (B : Int) := hB.symm
 refine k_in (N := 104) Try.func20 rfl rfl rfl ?_
 refine k_sg ?_
 refine s_run rfl rfl (rap rfl) ?_
 refine s_al H rfl inf48 ?_
 intro p5 _ H'; clear H; have H := H'; clear H'
 refine s_run rfl rfl (ras rfl) ?_
 refine k_nc ?_
 refine k_sg ?_
 refine s_run rfl rfl (rmi rfl) ?_
 refine s_run rfl rfl (r_rem rfl rfl (by omega)) ?_
 refine s_run rfl rfl (r_cv rfl (by kernel_rfl) Try.underlying3 (wI (by omega))) ?_
 refine s_run rfl rfl (r_add rfl rfl (wI (by omega))) ?_
 refine s_run rfl rfl (r_bd (bd48_0 _) rfl) ?_
 refine s_al H rfl inf48 ?_
 intro p7 _ H'; clear H; have H := H'; clear H'
 refine s_sw H 0 rfl rfl rfl rfl rfl rfl rfl sz48 ?_
 clear H; intro _ H; simp only [jA, jB, jC, jD, jE, jF, jG, jH, jI, jJ, jK, Nat.reduceAdd] at H
 refine k_nc ?_
 refine k_sg ?_
 refine s_run rfl rfl (r_fa0 rfl fo48_0) ?_
 refine s_run rfl rfl (r_lo H 0 rfl rfl rfl ag3) ?_
 refine s_run rfl rfl (r_mul rfl rfl (wI (by omega))) ?_
 refine s_mk (Value.int .u64) 0 (m := (512 * B)) H rfl rfl rfl (by omega) (by omega) (by omega) Try.underlying66 inf78 rfl ?_
 intro b _ H'; clear H; have H := H'; clear H'
 refine s_run rfl rfl (ras rfl) ?_
 refine k_nc ?_
 refine k_sg ?_
 refine s_run rfl rfl (r_bd (bd102 ) rfl) ?_
 refine s_bsN (enc := C1.v) (size := 3) (zs := [C1.i .i64 0, C1.i .i64 0, C1.i .i64 0]) H rfl rfl rfl (by omega) (by kernel_rfl) Try.underlying49 inf102 ?_
 intro q1 _ H'; clear H; have H := H'; clear H'
 refine s_run rfl rfl (ras rfl) ?_
 refine k_nc ?_
 refine k_seq ?_
 refine k_sg ?_
 refine s_run rfl rfl (rai rfl) ?_
 refine k_nc ?_
 refine k_b ?_
 rw [hB'] at H
 refine k_loop (fun z f W => ∃ (i : Nat) (LA : Option Addr) (lc : Nat), 1 ≤ i ∧ i ≤ B ∧ z = B - i ∧ f 1 = .slice A n c ∧ f 5 = ptr p5 ∧ f 7 = ptr p7 ∧ f 8 = .slice (some ⟨b, 0, none⟩) (512 * B) (512 * B) ∧ f 9 = .slice LA i lc ∧ f 10 = .int .i64 i ∧ Heap w [] [ownN 3 (.slice LA i lc) i ((Md.hfl i).map C1.v) 102, vec (Value.int .u64) b (List.replicate (512 * B) 0) 78, blk p7 [.int .i64 B] 48, blk p5 [.int .i64 0] 48] W) (B - 1) ⟨1, _, _, by omega, by omega, rfl, rfl, rfl, rfl, rfl, rfl, rfl, H⟩ ?_
 clear H
 rintro z f W ⟨i, LA, lc, hi1, hi, rfl, f1, f5, f7, f8, f9, f10, H⟩
 obtain ⟨f, rfl⟩ := live6 f1 f5 f7 f8 f9 f10
 clear f1 f5 f7 f8 f9 f10
 by_cases hlt : i < B
 ·refine k_seq ?_
  refine k_sg ?_
  refine s_run rfl rfl (rmi rfl) ?_
  refine s_run rfl rfl (r_fa0 rfl fo48_0) ?_
  refine s_run rfl rfl (r_lo H 2 rfl rfl rfl ag3) ?_
  refine s_run rfl rfl (r_lssT rfl rfl (by omega)) ?_
  refine k_nc ?_
  refine k_t rfl ?_
  refine k_skip ?_
  refine c_norm ?_
  refine k_seq ?_
  refine k_b ?_
  refine k_rg ?_
  refine s_run rfl rfl (rms rfl) ?_
  refine s_run rfl rfl (r_bd (bd102_0_1 _ _) rfl) ?_
  refine s_appN (enc := C1.v) (zs := [C1.i .i64 1, C1.i .i64 6, C1.i .i64 0]) H 0 rfl rfl rfl rfl C1.one (by omega) (by kernel_rfl) rfl rfl rfl (by omega) Try.underlying49 inf102 rfl ?_
  intro _ LA2 lc2 _ H'; simp only [List.set_cons_zero, List.set_cons_succ, List.take_succ_cons, List.take_zero, List.drop_succ_cons, List.drop_zero, List.cons_append, List.nil_append, List.append_nil, List.length_cons, List.length_nil, Nat.reduceAdd] at H'; clear H; have H := H'; clear H'
  refine s_run rfl rfl (ras rfl) ?_
  refine k_nil ?_
  refine b_norm ?_
  refine c_norm ?_
  refine k_rg ?_
  refine s_run rfl rfl (rmi rfl) ?_
  refine s_run rfl rfl (r_add rfl rfl (wI (by omega))) ?_
  refine s_run rfl rfl (rai rfl) ?_
  refine k_nil ?_
  refine c_round ?_
  have hh : Md.hfl i ++ [C1.i .i64 1, C1.i .i64 6, C1.i .i64 0] = Md.hfl (i + 1) := by rw [Md.hfl, if_neg (by omega)]
  rw [hh] at H
  exact ⟨_, _, by omega, rfl, i + 1, _, _, by omega, by omega, rfl, rfl, rfl, rfl, rfl, rfl, rfl, H⟩
 obtain rfl : i = B := by omega
 refine k_seq ?_
 refine k_sg ?_
 refine s_run rfl rfl (rmi rfl) ?_
 refine s_run rfl rfl (r_fa0 rfl fo48_0) ?_
 refine s_run rfl rfl (r_lo H 2 rfl rfl rfl ag3) ?_
 refine s_run rfl rfl (r_lssF rfl rfl (by omega)) ?_
 refine k_nc ?_
 refine k_f rfl ?_
 refine k_exit ?_
 refine c_exit ?_
 refine c_exit ?_
 refine b_hit ?_
 refine c_norm ?_
 refine k_seq ?_
 refine k_sg ?_
 refine s_run rfl rfl (rai rfl) ?_
 refine k_nc ?_
 refine k_b ?_
 have hrep : List.replicate (512 * i) (0 : Int) = Md.mkW i (usOf us) 0 := rfl
 rw [hrep] at H
 refine k_loop (fun z f W => ∃ (k : Nat), k ≤ n ∧ z = n - k ∧ f 1 = .slice A n c ∧ f 5 = ptr p5 ∧ f 7 = ptr p7 ∧ f 8 = .slice (some ⟨b, 0, none⟩) (512 * i) (512 * i) ∧ f 9 = .slice LA i lc ∧ f 11 = .int .i64 k ∧ Heap w [] [ownN 3 (.slice LA i lc) i ((Md.hfl i).map C1.v) 102, vec (Value.int .u64) b (Md.mkW i (usOf us) k) 78, blk p7 [.int .i64 i] 48, blk p5 [.int .i64 0] 48] W) n ⟨0, by omega, rfl, rfl, rfl, rfl, rfl, rfl, rfl, H⟩ ?_
 clear H
 rintro z f W ⟨k, hk, rfl, f1, f5, f7, f8, f9, f11, H⟩
 obtain ⟨f, rfl⟩ := live6 f1 f5 f7 f8 f9 f11
 clear f1 f5 f7 f8 f9 f11
 have hwl := Md.mkW_len i (usOf us) k
 by_cases hkn : k < n
 ·obtain ⟨u, hu⟩ : ∃ u, us[k]? = some u := ⟨_, List.getElem?_eq_getElem (by omega)⟩
  have huf := hF u (List.mem_of_getElem? hu)
  have hok := hU.2 u (List.mem_of_getElem? hu)
  obtain ⟨bo, oo, rfl, hrd⟩ := hU.1 (by omega)
  have hre : Reads (fun v : Value => v) w bo (oo + k * 2) [.int .i64 u.f0, .slice u.A1 u.n1 u.c1] := hrd k u hu
  have hmk : Md.mkW i (usOf us) (k + 1) = Md.putNode i (Md.mkW i (usOf us) k) u.f0 u.xs1 := by rw [Md.mkW, usOf_getD hu]
  have hxl := hok.l1
  generalize Md.mkW i (usOf us) k = ws at *
  unfold Md.putNode at hmk
  by_cases hc1 : u.f0 < 0
  ·rw [if_pos (.inl hc1)] at hmk
   refine k_seq ?_
   refine k_sg ?_
   refine s_run rfl rfl (rmi rfl) ?_
   refine s_run rfl rfl (rms rfl) ?_
   refine s_run rfl rfl (r_len rfl Try.underlying44) ?_
   refine s_run rfl rfl (r_lssT rfl rfl (by omega)) ?_
   refine k_nc ?_
   refine k_t rfl ?_
   refine k_skip ?_
   refine c_norm ?_
   refine k_seq ?_
   refine k_b ?_
   refine k_sg ?_
   refine s_run rfl rfl (rms rfl) ?_
   refine s_run rfl rfl (rmi rfl) ?_
   refine s_run rfl rfl (r_ix (i := k) rfl rfl (by omega) (by omega) Try.underlying44 sz100) ?_
   refine s_run rfl rfl (r_lA (enc := fun v : Value => v) (zs := [.int .i64 u.f0, .slice u.A1 u.n1 u.c1]) (hre.later H.only (by simp)) rfl rfl ag100 sz100) ?_
   refine s_al H rfl inf100 ?_
   intro p12 _ H'; clear H; have H := H'; clear H'
   refine s_sw H 0 rfl rfl rfl rfl rfl rfl rfl sz100 ?_
   clear H; intro _ H; simp only [jA, jB, jC, jD, jE, jF, jG, jH, jI, jJ, jK, Nat.reduceAdd] at H
   refine k_nc ?_
   refine k_seq ?_
   refine k_sg ?_
   refine s_run rfl rfl (r_fa0 rfl fo100_0) ?_
   refine s_run rfl rfl (r_lo H 0 rfl rfl rfl ag3) ?_
   refine s_run rfl rfl (r_lssT rfl rfl (by omega)) ?_
   refine s_run rfl rfl (rmb rfl) ?_
   refine s_off rfl (g_off 49 (by kernel_rfl) rfl rfl) ?_
   refine s_off rfl (g_off 49 (by kernel_rfl) rfl rfl) ?_
   refine s_off rfl (g_off 49 (by kernel_rfl) rfl rfl) ?_
   refine s_off rfl (g_off 49 (by kernel_rfl) rfl rfl) ?_
   refine s_off rfl (g_off 49 (by kernel_rfl) rfl rfl) ?_
   refine s_off rfl (g_off 49 (by kernel_rfl) rfl rfl) ?_
   refine s_off rfl (g_off 49 (by kernel_rfl) rfl rfl) ?_
   refine s_run rfl rfl (r_pkT (v := .bool _) rfl rfl) ?_
   refine s_run rfl rfl (rmb rfl) ?_
   refine s_off rfl (g_off 58 (by kernel_rfl) rfl rfl) ?_
   refine s_off rfl (g_off 58 (by kernel_rfl) rfl rfl) ?_
   refine s_off rfl (g_off 58 (by kernel_rfl) rfl rfl) ?_
   refine s_off rfl (g_off 58 (by kernel_rfl) rfl rfl) ?_
   refine s_run rfl rfl (r_pkT (v := .bool _) rfl rfl) ?_
   refine k_nc ?_
   refine k_t rfl ?_
   refine k_exit ?_
   refine c_exit ?_
   refine b_hit ?_
   refine c_norm ?_
   refine k_rg ?_
   refine s_run rfl rfl (rmi rfl) ?_
   refine s_run rfl rfl (r_add rfl rfl (wI (by omega))) ?_
   refine s_run rfl rfl (rai rfl) ?_
   refine k_nil ?_
   refine c_round ?_
   rw [← hmk] at H
   exact ⟨_, _, by omega, rfl, k + 1, by omega, rfl, rfl, rfl, rfl, rfl, rfl, rfl, H.drop⟩
  by_cases hc2 : 64 * ((i : Int) - 1) ≤ u.f0
  ·rw [if_pos (.inr (.inl hc2))] at hmk
   refine k_seq ?_
   refine k_sg ?_
   refine s_run rfl rfl (rmi rfl) ?_
   refine s_run rfl rfl (rms rfl) ?_
   refine s_run rfl rfl (r_len rfl Try.underlying44) ?_
   refine s_run rfl rfl (r_lssT rfl rfl (by omega)) ?_
   refine k_nc ?_
   refine k_t rfl ?_
   refine k_skip ?_
   refine c_norm ?_
   refine k_seq ?_
   refine k_b ?_
   refine k_sg ?_
   refine s_run rfl rfl (rms rfl) ?_
   refine s_run rfl rfl (rmi rfl) ?_
   refine s_run rfl rfl (r_ix (i := k) rfl rfl (by omega) (by omega) Try.underlying44 sz100) ?_
   refine s_run rfl rfl (r_lA (enc := fun v : Value => v) (zs := [.int .i64 u.f0, .slice u.A1 u.n1 u.c1]) (hre.later H.only (by simp)) rfl rfl ag100 sz100) ?_
   refine s_al H rfl inf100 ?_
   intro p12 _ H'; clear H; have H := H'; clear H'
   refine s_sw H 0 rfl rfl rfl rfl rfl rfl rfl sz100 ?_
   clear H; intro _ H; simp only [jA, jB, jC, jD, jE, jF, jG, jH, jI, jJ, jK, Nat.reduceAdd] at H
   refine k_nc ?_
   refine k_seq ?_
   refine k_sg ?_
   refine s_run rfl rfl (r_fa0 rfl fo100_0) ?_
   refine s_run rfl rfl (r_lo H 0 rfl rfl rfl ag3) ?_
   refine s_run rfl rfl (r_lssF rfl rfl (by omega)) ?_
   refine s_run rfl rfl (rmb rfl) ?_
   refine s_run rfl (g_on 49 (by kernel_rfl) rfl) (r_fa0 rfl fo100_0) ?_
   refine s_run rfl (g_on 49 (by kernel_rfl) rfl) (r_lo H 0 rfl rfl rfl ag3) ?_
   refine s_run rfl (g_on 49 (by kernel_rfl) rfl) (r_fa0 rfl fo48_0) ?_
   refine s_run rfl (g_on 49 (by kernel_rfl) rfl) (r_lo H 3 rfl rfl rfl ag3) ?_
   refine s_run rfl (g_on 49 (by kernel_rfl) rfl) (r_sub rfl rfl (wI (by omega))) ?_
   refine s_run rfl (g_on 49 (by kernel_rfl) rfl) (r_mul rfl rfl (wI (by omega))) ?_
   refine s_run rfl (g_on 49 (by kernel_rfl) rfl) (r_geqT rfl rfl (by omega)) ?_
   refine s_run rfl rfl (r_pkF (v := .bool _) rfl rfl) ?_
   refine s_run rfl rfl (rmb rfl) ?_
   refine s_off rfl (g_off 58 (by kernel_rfl) rfl rfl) ?_
   refine s_off rfl (g_off 58 (by kernel_rfl) rfl rfl) ?_
   refine s_off rfl (g_off 58 (by kernel_rfl) rfl rfl) ?_
   refine s_off rfl (g_off 58 (by kernel_rfl) rfl rfl) ?_
   refine s_run rfl rfl (r_pkT (v := .bool _) rfl rfl) ?_
   refine k_nc ?_
   refine k_t rfl ?_
   refine k_exit ?_
   refine c_exit ?_
   refine b_hit ?_
   refine c_norm ?_
   refine k_rg ?_
   refine s_run rfl rfl (rmi rfl) ?_
   refine s_run rfl rfl (r_add rfl rfl (wI (by omega))) ?_
   refine s_run rfl rfl (rai rfl) ?_
   refine k_nil ?_
   refine c_round ?_
   rw [← hmk] at H
   exact ⟨_, _, by omega, rfl, k + 1, by omega, rfl, rfl, rfl, rfl, rfl, rfl, rfl, H.drop⟩
  by_cases hc3 : 6 < u.n1
  ·rw [if_pos (.inr (.inr (by omega)))] at hmk
   refine k_seq ?_
   refine k_sg ?_
   refine s_run rfl rfl (rmi rfl) ?_
   refine s_run rfl rfl (rms rfl) ?_
   refine s_run rfl rfl (r_len rfl Try.underlying44) ?_
   refine s_run rfl rfl (r_lssT rfl rfl (by omega)) ?_
   refine k_nc ?_
   refine k_t rfl ?_
   refine k_skip ?_
   refine c_norm ?_
   refine k_seq ?_
   refine k_b ?_
   refine k_sg ?_
   refine s_run rfl rfl (rms rfl) ?_
   refine s_run rfl rfl (rmi rfl) ?_
   refine s_run rfl rfl (r_ix (i := k) rfl rfl (by omega) (by omega) Try.underlying44 sz100) ?_
   refine s_run rfl rfl (r_lA (enc := fun v : Value => v) (zs := [.int .i64 u.f0, .slice u.A1 u.n1 u.c1]) (hre.later H.only (by simp)) rfl rfl ag100 sz100) ?_
   refine s_al H rfl inf100 ?_
   intro p12 _ H'; clear H; have H := H'; clear H'
   refine s_sw H 0 rfl rfl rfl rfl rfl rfl rfl sz100 ?_
   clear H; intro _ H; simp only [jA, jB, jC, jD, jE, jF, jG, jH, jI, jJ, jK, Nat.reduceAdd] at H
   refine k_nc ?_
   refine k_seq ?_
   refine k_sg ?_
   refine s_run rfl rfl (r_fa0 rfl fo100_0) ?_
   refine s_run rfl rfl (r_lo H 0 rfl rfl rfl ag3) ?_
   refine s_run rfl rfl (r_lssF rfl rfl (by omega)) ?_
   refine s_run rfl rfl (rmb rfl) ?_
   refine s_run rfl (g_on 49 (by kernel_rfl) rfl) (r_fa0 rfl fo100_0) ?_
   refine s_run rfl (g_on 49 (by kernel_rfl) rfl) (r_lo H 0 rfl rfl rfl ag3) ?_
   refine s_run rfl (g_on 49 (by kernel_rfl) rfl) (r_fa0 rfl fo48_0) ?_
   refine s_run rfl (g_on 49 (by kernel_rfl) rfl) (r_lo H 3 rfl rfl rfl ag3) ?_
   refine s_run rfl (g_on 49 (by kernel_rfl) rfl) (r_sub rfl rfl (wI (by omega))) ?_
   refine s_run rfl (g_on 49 (by kernel_rfl) rfl) (r_mul rfl rfl (wI (by omega))) ?_
   refine s_run rfl (g_on 49 (by kernel_rfl) rfl) (r_geqF rfl rfl (by omega)) ?_
   refine s_run rfl rfl (r_pkF (v := .bool _) rfl rfl) ?_
   refine s_run rfl rfl (rmb rfl) ?_
   refine s_run rfl (g_on 58 (by kernel_rfl) rfl) (r_fa0 rfl fo100_1) ?_
   refine s_run rfl (g_on 58 (by kernel_rfl) rfl) (r_lo H 0 rfl rfl rfl ag25) ?_
   refine s_run rfl (g_on 58 (by kernel_rfl) rfl) (r_len rfl Try.underlying25) ?_
   refine s_run rfl (g_on 58 (by kernel_rfl) rfl) (r_gtrT rfl rfl (by omega)) ?_
   refine s_run rfl rfl (r_pkF (v := .bool _) rfl rfl) ?_
   refine k_nc ?_
   refine k_t rfl ?_
   refine k_exit ?_
   refine c_exit ?_
   refine b_hit ?_
   refine c_norm ?_
   refine k_rg ?_
   refine s_run rfl rfl (rmi rfl) ?_
   refine s_run rfl rfl (r_add rfl rfl (wI (by omega))) ?_
   refine s_run rfl rfl (rai rfl) ?_
   refine k_nil ?_
   refine c_round ?_
   rw [← hmk] at H
   exact ⟨_, _, by omega, rfl, k + 1, by omega, rfl, rfl, rfl, rfl, rfl, rfl, rfl, H.drop⟩
  rw [if_neg (fun h => h.elim hc1 (fun h => h.elim hc2 (fun h => hc3 (by omega)))), hxl] at hmk
  have had := Md.adr_cell (n := u.f0) (B := i) ⟨by omega, by omega⟩
  have hA := fun (W : World) => lAddr u.f0 W (by omega)
  obtain ⟨a, ha⟩ : ∃ a : Nat, Md.adr u.f0 = a := ⟨(Md.adr u.f0).toNat, by omega⟩
  rw [ha] at hA had hmk
  rw [Int.toNat_natCast] at hmk
  have hE := fun (W : World) => rOEnc' u.n1 (7 - u.n1) a W (by omega) (by omega) (by omega)
  have heb := Oh.enc_bd (u.n1 : Int) (7 - u.n1) a
  generalize Oh.enc (u.n1 : Int) (7 - u.n1) a = ev0 at *
  refine k_seq ?_
  refine k_sg ?_
  refine s_run rfl rfl (rmi rfl) ?_
  refine s_run rfl rfl (rms rfl) ?_
  refine s_run rfl rfl (r_len rfl Try.underlying44) ?_
  refine s_run rfl rfl (r_lssT rfl rfl (by omega)) ?_
  refine k_nc ?_
  refine k_t rfl ?_
  refine k_skip ?_
  refine c_norm ?_
  refine k_seq ?_
  refine k_b ?_
  refine k_sg ?_
  refine s_run rfl rfl (rms rfl) ?_
  refine s_run rfl rfl (rmi rfl) ?_
  refine s_run rfl rfl (r_ix (i := k) rfl rfl (by omega) (by omega) Try.underlying44 sz100) ?_
  refine s_run rfl rfl (r_lA (enc := fun v : Value => v) (zs := [.int .i64 u.f0, .slice u.A1 u.n1 u.c1]) (hre.later H.only (by simp)) rfl rfl ag100 sz100) ?_
  refine s_al H rfl inf100 ?_
  intro p12 _ H'; clear H; have H := H'; clear H'
  refine s_sw H 0 rfl rfl rfl rfl rfl rfl rfl sz100 ?_
  clear H; intro _ H; simp only [jA, jB, jC, jD, jE, jF, jG, jH, jI, jJ, jK, Nat.reduceAdd] at H
  refine k_nc ?_
  refine k_seq ?_
  refine k_sg ?_
  refine s_run rfl rfl (r_fa0 rfl fo100_0) ?_
  refine s_run rfl rfl (r_lo H 0 rfl rfl rfl ag3) ?_
  refine s_run rfl rfl (r_lssF rfl rfl (by omega)) ?_
  refine s_run rfl rfl (rmb rfl) ?_
  refine s_run rfl (g_on 49 (by kernel_rfl) rfl) (r_fa0 rfl fo100_0) ?_
  refine s_run rfl (g_on 49 (by kernel_rfl) rfl) (r_lo H 0 rfl rfl rfl ag3) ?_
  refine s_run rfl (g_on 49 (by kernel_rfl) rfl) (r_fa0 rfl fo48_0) ?_
  refine s_run rfl (g_on 49 (by kernel_rfl) rfl) (r_lo H 3 rfl rfl rfl ag3) ?_
  refine s_run rfl (g_on 49 (by kernel_rfl) rfl) (r_sub rfl rfl (wI (by omega))) ?_
  refine s_run rfl (g_on 49 (by kernel_rfl) rfl) (r_mul rfl rfl (wI (by omega))) ?_
  refine s_run rfl (g_on 49 (by kernel_rfl) rfl) (r_geqF rfl rfl (by omega)) ?_
  refine s_run rfl rfl (r_pkF (v := .bool _) rfl rfl) ?_
  refine s_run rfl rfl (rmb rfl) ?_
  refine s_run rfl (g_on 58 (by kernel_rfl) rfl) (r_fa0 rfl fo100_1) ?_
  refine s_run rfl (g_on 58 (by kernel_rfl) rfl) (r_lo H 0 rfl rfl rfl ag25) ?_
  refine s_run rfl (g_on 58 (by kernel_rfl) rfl) (r_len rfl Try.underlying25) ?_
  refine s_run rfl (g_on 58 (by kernel_rfl) rfl) (r_gtrF rfl rfl (by omega)) ?_
  refine s_run rfl rfl (r_pkF (v := .bool _) rfl rfl) ?_
  refine k_nc ?_
  refine k_f rfl ?_
  refine k_skip ?_
  refine c_norm ?_
  refine k_sg ?_
  refine s_run rfl rfl (r_fa0 rfl fo100_0) ?_
  refine s_run rfl rfl (r_lo H 0 rfl rfl rfl ag3) ?_
  refine s_call rfl (hA _) (ca23 rfl) ?_
  rintro e W1 ⟨rfl, H'⟩
  refine ⟨_, rfl, ?_⟩
  have H := H.same H'; clear H'
  refine s_run rfl rfl (rai rfl) ?_
  refine k_nc ?_
  refine k_sg ?_
  refine s_run rfl rfl (rms rfl) ?_
  refine s_run rfl rfl (rmi rfl) ?_
  refine s_run rfl rfl (r_fa0 rfl fo100_1) ?_
  refine s_run rfl rfl (r_lo H 0 rfl rfl rfl ag25) ?_
  refine s_run rfl rfl (r_len rfl Try.underlying25) ?_
  refine s_run rfl rfl (r_fa0 rfl fo100_1) ?_
  refine s_run rfl rfl (r_lo H 0 rfl rfl rfl ag25) ?_
  refine s_run rfl rfl (r_len rfl Try.underlying25) ?_
  refine s_run rfl rfl (r_sub rfl rfl (wI (by omega))) ?_
  refine s_run rfl rfl (r_bd (bd105_0_1 _ _) rfl) ?_
  refine s_run rfl rfl (rmi rfl) ?_
  refine s_call rfl (hE _) (ca59 rfl) ?_
  rintro e W1 ⟨rfl, H'⟩
  refine ⟨_, rfl, ?_⟩
  have H := H.same H'; clear H'
  refine s_run rfl rfl (r_ix1 (i := a) rfl rfl (by omega) (by omega) Try.underlying66 sz78) ?_
  refine s_sv (u := .int _ _) H 2 rfl rfl rfl rfl rfl (by omega) (fun _ => rfl) sz78 ?_
  clear H; intro _ H; simp only [jA, jB, jC, jD, jE, jF, jG, jH, jI, jJ, jK, Nat.reduceAdd] at H
  refine k_nc ?_
  refine k_sg ?_
  refine s_run rfl rfl (rai rfl) ?_
  refine k_nc ?_
  refine k_b ?_
  refine k_loop (fun z f W => ∃ (q : Nat), q ≤ u.n1 ∧ z = u.n1 - q ∧ f 1 = .slice (some ⟨bo, oo, none⟩) n c ∧ f 5 = ptr p5 ∧ f 7 = ptr p7 ∧ f 8 = .slice (some ⟨b, 0, none⟩) (512 * i) (512 * i) ∧ f 9 = .slice LA i lc ∧ f 11 = .int .i64 k ∧ f 12 = ptr p12 ∧ f 13 = .int .i64 a ∧ f 14 = .int .i64 q ∧ Heap w [] [blk p12 [.int .i64 u.f0, .slice u.A1 u.n1 u.c1] 100, ownN 3 (.slice LA i lc) i ((Md.hfl i).map C1.v) 102, vec (Value.int .u64) b (Md.setPs (ws.set a ev0) a u.xs1 q) 78, blk p7 [.int .i64 i] 48, blk p5 [.int .i64 0] 48] W) u.n1 ⟨0, by omega, rfl, rfl, rfl, rfl, rfl, rfl, rfl, rfl, rfl, rfl, H⟩ ?_
  clear H
  rintro z f W ⟨q, hq, rfl, f1, f5, f7, f8, f9, f11, f12, f13, f14, H⟩
  obtain ⟨f, rfl⟩ := live9 f1 f5 f7 f8 f9 f11 f12 f13 f14
  clear f1 f5 f7 f8 f9 f11 f12 f13 f14
  have hsl : (Md.setPs (ws.set a ev0) a u.xs1 q).length = 512 * i := by rw [Md.setPs_len, List.length_set]; exact hwl
  by_cases hqn : q < u.n1
  ·obtain ⟨x, hx⟩ : ∃ x, u.xs1[q]? = some x := ⟨_, List.getElem?_eq_getElem (by omega)⟩
   have hxb := huf.2 x (List.mem_of_getElem? hx)
   obtain ⟨b2, o2, hA1, _, hr2⟩ := hok.s1 (by omega)
   have cx := hr2 q x hx
   have hAx := fun (W : World) => lAddr x W (by omega)
   have hab := Md.adr_bd hxb
   have hst : (Md.setPs (ws.set a ev0) a u.xs1 q).set (a + 1 + q) (Md.adr x) = Md.setPs (ws.set a ev0) a u.xs1 (q + 1) := by
    rw [Md.setPs, List.getD_eq_getElem?_getD, hx]; rfl
   rw [hA1] at H
   refine k_seq ?_
   refine k_sg ?_
   refine s_run rfl rfl (rmi rfl) ?_
   refine s_run rfl rfl (r_fa0 rfl fo100_1) ?_
   refine s_run rfl rfl (r_lo H 0 rfl rfl rfl ag25) ?_
   refine s_run rfl rfl (r_len rfl Try.underlying25) ?_
   refine s_run rfl rfl (r_lssT rfl rfl (by omega)) ?_
   refine k_nc ?_
   refine k_t rfl ?_
   refine k_skip ?_
   refine c_norm ?_
   refine k_seq ?_
   refine k_b ?_
   refine k_rg ?_
   refine s_run rfl rfl (rms rfl) ?_
   refine s_run rfl rfl (rmi rfl) ?_
   refine s_run rfl rfl (r_add rfl rfl (wI (by omega))) ?_
   refine s_run rfl rfl (rmi rfl) ?_
   refine s_run rfl rfl (r_add rfl rfl (wI (by omega))) ?_
   refine s_run rfl rfl (r_fa0 rfl fo100_1) ?_
   refine s_run rfl rfl (r_lo H 0 rfl rfl rfl ag25) ?_
   refine s_run rfl rfl (rmi rfl) ?_
   refine s_run rfl rfl (r_ix1o (i := q) rfl rfl (by omega) (by omega) Try.underlying25 sz3) ?_
   refine s_run rfl rfl (r_lr H rfl cx (by simp) ag3) ?_
   refine s_call rfl (hAx _) (ca23 rfl) ?_
   rintro e W1 ⟨rfl, H'⟩
   refine ⟨_, rfl, ?_⟩
   have H := H.same H'; clear H'
   refine s_run rfl rfl (r_cv rfl (by kernel_rfl) Try.underlying78 (wU (by omega))) ?_
   refine s_run rfl rfl (r_ix1 (i := (a + 1 + q)) rfl rfl (by omega) (by omega) Try.underlying66 sz78) ?_
   refine s_sv (u := .int _ _) H 2 rfl rfl rfl rfl rfl (by omega) (fun _ => rfl) sz78 ?_
   clear H; intro _ H; simp only [jA, jB, jC, jD, jE, jF, jG, jH, jI, jJ, jK, Nat.reduceAdd] at H
   refine k_nil ?_
   refine b_norm ?_
   refine c_norm ?_
   refine k_rg ?_
   refine s_run rfl rfl (rmi rfl) ?_
   refine s_run rfl rfl (r_add rfl rfl (wI (by omega))) ?_
   refine s_run rfl rfl (rai rfl) ?_
   refine k_nil ?_
   refine c_round ?_
   rw [hst, ← hA1] at H
   exact ⟨_, _, by omega, rfl, q + 1, by omega, rfl, rfl, rfl, rfl, rfl, rfl, rfl, rfl, rfl, rfl, H⟩
  ·obtain rfl : q = u.n1 := by omega
   rw [← hmk] at H
   refine k_seq ?_
   refine k_sg ?_
   refine s_run rfl rfl (rmi rfl) ?_
   refine s_run rfl rfl (r_fa0 rfl fo100_1) ?_
   refine s_run rfl rfl (r_lo H 0 rfl rfl rfl ag25) ?_
   refine s_run rfl rfl (r_len rfl Try.underlying25) ?_
   refine s_run rfl rfl (r_lssF rfl rfl (by omega)) ?_
   refine k_nc ?_
   refine k_f rfl ?_
   refine k_exit ?_
   refine c_exit ?_
   refine c_exit ?_
   refine b_hit ?_
   refine b_norm ?_
   refine c_norm ?_
   refine k_rg ?_
   refine s_run rfl rfl (rmi rfl) ?_
   refine s_run rfl rfl (r_add rfl rfl (wI (by omega))) ?_
   refine s_run rfl rfl (rai rfl) ?_
   refine k_nil ?_
   refine c_round ?_
   exact ⟨_, _, by omega, rfl, k + 1, by omega, rfl, rfl, rfl, rfl, rfl, rfl, rfl, H.drop⟩
 ·obtain rfl : k = n := by omega
  have hLd := fun {W : World} (hz : Sees (Value.int .u64) W [] (some ⟨b, 0, none⟩) (Md.mkW i (usOf us) k)) => nLoad (some ⟨b, 0, none⟩) (512 * i) (512 * i) (Md.mkW i (usOf us) k) W hz hwl (by omega)
  have e1 : 8 * ((512 * i + 7) / 8) - 512 * i = 0 := by omega
  have e2 : (512 * i + 7) / 8 = 64 * i := by omega
  rw [e1, e2, List.replicate_zero, List.append_nil] at hLd
  refine k_seq ?_
  refine k_sg ?_
  refine s_run rfl rfl (rmi rfl) ?_
  refine s_run rfl rfl (rms rfl) ?_
  refine s_run rfl rfl (r_len rfl Try.underlying44) ?_
  refine s_run rfl rfl (r_lssF rfl rfl (by omega)) ?_
  refine k_nc ?_
  refine k_f rfl ?_
  refine k_exit ?_
  refine c_exit ?_
  refine c_exit ?_
  refine b_hit ?_
  refine c_norm ?_
  refine k_seq ?_
  refine k_trF mixed ?_; have H' := H.drew; clear H; have H := H'; clear H'
  refine tqh 0 rfl rfl rfl (fun _ hS => r_mv (v := .slice _ _ _) rfl) trivial ?_
  refine tqh 3 rfl rfl rfl (fun _ hS => r_mv (v := .slice _ _ _) rfl) trivial ?_
  refine t_up2 1 2 (by kernel_rfl) ?_ ?_
  ·refine up_mk rfl ?_
   refine s_call rfl (hLd (H.sees 1 rfl (by simp) (m := 1) (fun _ => rfl) (fun _ => by omega))) (ca60 rfl) ?_
   rintro e W1 ⟨g, rfl, hg, H'⟩
   refine ⟨_, rfl, ?_⟩
   have H := H.more (A := [grp _]) (grp_heap H'); clear H'; simp only [List.cons_append, List.nil_append] at H
   refine k_nil ?_
   refine t_on trivial ?_
   refine tqh 4 rfl rfl rfl (fun _ hS => r_as (v := .pointer _) rfl) trivial ?_
   refine t_up1 2 (by kernel_rfl) ?_
   refine up_mk rfl ?_
   refine s_run rfl rfl (r_la H 3 rfl rfl rfl ag48 sz48) ?_
   refine k_nil ?_
   refine t_on trivial ?_
   refine t_up1 5 (by kernel_rfl) ?_
   refine up_mk rfl ?_
   refine s_sw H 4 rfl rfl rfl rfl rfl rfl rfl sz48 ?_
   clear H; intro _ H; simp only [jA, jB, jC, jD, jE, jF, jG, jH, jI, jJ, jK, Nat.reduceAdd] at H
   refine k_nil ?_
   refine t_on trivial ?_
   refine tqh 6 rfl rfl rfl (fun _ hS => r_as (v := .slice _ _ _) rfl) trivial ?_
   refine t_done (by kernel_rfl) ?_
   refine c_norm ?_
   refine k_ret ?_
   refine fx3r rfl (rv_t (v := .pointer _) rfl) (rv_a H 4 rfl rfl rfl ag48 sz48) (rv_t (v := .slice _ _ _) rfl) ?_
   exact ⟨g, LA, lc, rfl, Heap.subl H [0, 1] rfl rfl⟩
  ·refine up_mk rfl ?_
   refine s_run rfl rfl (r_la H 2 rfl rfl rfl ag48 sz48) ?_
   refine k_nil ?_
   refine t_on trivial ?_
   refine t_up1 1 (by kernel_rfl) ?_
   refine up_mk rfl ?_
   refine s_call rfl (hLd (H.sees 1 rfl (by simp) (m := 1) (fun _ => rfl) (fun _ => by omega))) (ca60 rfl) ?_
   rintro e W1 ⟨g, rfl, hg, H'⟩
   refine ⟨_, rfl, ?_⟩
   have H := H.more (A := [grp _]) (grp_heap H'); clear H'; simp only [List.cons_append, List.nil_append] at H
   refine k_nil ?_
   refine t_on trivial ?_
   refine tqh 4 rfl rfl rfl (fun _ hS => r_as (v := .pointer _) rfl) trivial ?_
   refine t_up1 5 (by kernel_rfl) ?_
   refine up_mk rfl ?_
   refine s_sw H 4 rfl rfl rfl rfl rfl rfl rfl sz48 ?_
   clear H; intro _ H; simp only [jA, jB, jC, jD, jE, jF, jG, jH, jI, jJ, jK, Nat.reduceAdd] at H
   refine k_nil ?_
   refine t_on trivial ?_
   refine tqh 6 rfl rfl rfl (fun _ hS => r_as (v := .slice _ _ _) rfl) trivial ?_
   refine t_done (by kernel_rfl) ?_
   refine c_norm ?_
   refine k_ret ?_
   refine fx3r rfl (rv_t (v := .pointer _) rfl) (rv_a H 4 rfl rfl rfl ag48 sz48) (rv_t (v := .slice _ _ _) rfl) ?_
   exact ⟨g, LA, lc, rfl, Heap.subl H [0, 1] rfl rfl⟩
end Go.Proofs.Ytlakbclnilakbaa
end

section
namespace Go.Proofs.Ytlakbclnilakbaa
open Go.RowKit
set_option maxRecDepth 100000
set_option maxHeartbeats 8000000
def exW : List Int := (List.replicate 1024 (0 : Int)).set 536 (Oh.enc 0 7 536)
theorem exW_mk : Md.mkW 2 [(3, [])] 1 = exW := by
 have h1 : Md.adr 3 = 536 := by decide
 rw [Md.mkW]
 show Md.putNode 2 (Md.mkW 2 [(3, [])] 0) 3 [] = exW
 unfold Md.putNode
 rw [if_neg (by simp), h1]
 rfl
theorem exW_len : exW.length = 1024 := by unfold exW; rw [List.length_set, List.length_replicate]
theorem exW_get : Nv.get exW 536 = Oh.enc 0 7 536 := by
 unfold Nv.get
 rw [exW_len, if_pos (by omega)]
 unfold exW
 show ((List.replicate 1024 (0 : Int)).set 536 (Oh.enc 0 7 536)).getD 536 0 = _
 rw [List.getD_eq_getElem?_getD, List.getElem?_set_self (by rw [List.length_replicate]; omega)]
 rfl
theorem exW_hd : Ob.hd exW 536 = true ∧ Ob.hp exW 536 = 0 ∧ Ob.hq exW 536 = 7 := by
 obtain ⟨h1, h2, h3⟩ := Oh.dec_enc 0 7 536 (by omega) (by omega) (by omega) (by omega)
 have hh : Ob.hd exW 536 = true := Ob.hd_mk (by rw [exW_len]; omega) (by rw [exW_get]; exact h1) (by rw [exW_get, h2, h3, exW_len, (Cl.size_good 0 7 (by omega) (by omega) (by omega) (by omega)).1]; omega)
 refine ⟨hh, ?_, ?_⟩
 ·unfold Ob.hp; rw [if_pos hh, exW_get]; exact h2
 ·unfold Ob.hq; rw [if_pos hh, exW_get]; exact h3
theorem exW_pl : Ob.pl 2 exW (Md.mkH 2) 536 = true := by
 obtain ⟨h1, h2, h3⟩ := exW_hd
 unfold Ob.pl
 rw [h1, decide_eq_true (by omega)]
 show Ob.plAt 2 exW (Md.mkH 2) 536 (1, 6, 0) = true
 unfold Ob.plAt
 rw [h2, h3]
 have e1 : Cl.size 0 7 = 8 := rfl
 have e2 : Cl.ofB 8 = true := rfl
 have e3 : Cl.ofK 8 = 6 := by decide +kernel
 rw [e1, if_pos e2, e3]
 decide +kernel
theorem exW_ptrs : Ob.ptrs exW 536 = [] := by unfold Ob.ptrs; rw [exW_hd.2.1]; rfl
theorem exW_w64 : Ob.W64 exW := Md.W64.set (fun x hx => by rw [List.eq_of_mem_replicate hx]; omega) 536 (Oh.enc_bd _ _ _)
theorem mkH_w (B : Nat) : hsW (Md.mkH B) := fun h hh => by
 unfold Md.mkH at hh
 obtain ⟨i, _, rfl⟩ := List.mem_map.1 hh
 split <;> exact ⟨by decide, by decide⟩
theorem exCl {g : Geo} {k c : Nat} {A : Option Addr} {w : World} (hE : Ents (devL g (Nv.load exW 128)) w) (hS : HSees w [] A (Md.mkH 2)) (FA : Option Addr) (fc : Nat) (hF : Sees (Value.int .i64) w [] FA [0, 536]) (hk : k = 2) :
  Calls Try.prog 27 [ptr g.p, .agg [.int .i64 (2 : Nat)].toArray, .slice A k c, .slice FA 2 fc].toArray w fun e w' => ∃ A' c', e = .returned (.tuple [.slice A' 1 c', .int .i64 0].toArray) ∧ Heap w [] [ownN 1 (.slice A' 1 c') 1 (([536] : List Int).map (Value.int .i64)) 3] w' := by
 subst hk
 have hp : Ob.pl 2 exW (Md.mkH 2) 536 = true := exW_pl
 have hq := exW_ptrs
 refine (trClosure (n := 2) (hs := Md.mkH 2) hE exW_w64 (show exW.length ≤ 1000000000 by rw [exW_len]; omega) hS (Md.mkH_len 2) (by omega) (mkH_w 2) (by omega) FA 2 fc [0, 536] hF rfl (by omega) (fun a ha => by
  rcases List.mem_cons.1 ha with rfl | ha
  ·exact ⟨by omega, by omega⟩
  ·rw [List.mem_singleton.1 ha]; exact ⟨by omega, by omega⟩)).mono ?_
 rintro e w' ⟨N, s1, hs1, hN1, hN2, hcase⟩
 have hc : (Nv.load exW 128).cache = exW := rfl
 rw [hc] at hs1 hN1 hN2 hcase
 generalize Ob.pl 2 exW (Md.mkH 2) = P at *
 generalize Ob.ptrs exW = pt at *
 have h1 : s1 = ⟨[536], [536], []⟩ := by
  rw [hs1]
  simp [Tr.rootsTo, Tr.reach, Tr.s0, hp]
 have h2 : Tr.steps P pt s1 1 = ⟨[536], [], []⟩ := by
  rw [h1]
  simp [Tr.steps, Tr.step, Tr.pop, Tr.top, hq, Tr.along]
 have hN : N = 1 := Tr.ends_eq (M := 1) hN1 hN2 (fun j hj => by
  obtain rfl : j = 0 := by omega
  show s1.op ≠ []
  rw [h1]; simp) (by rw [h2])
 subst hN
 rw [h2] at hcase
 have hsr : srt [536] = [536] := by simp [srt]
 rw [hsr] at hcase
 rcases hcase with ⟨hb, _⟩ | ⟨_, A', c', he, H'⟩
 ·exact absurd rfl hb
 ·exact ⟨A', c', he, H'⟩
theorem exU {w0 W : World} {F : List Nat} {L : List Ent} {q1 : Nat} (H : Heap w0 F (ownN 2 (.slice (some ⟨q1, 0, none⟩) 1 1) 1 (([C1.i .i64 3, C1.s none 0 0] : List C1).map C1.v) 100 :: L) W) : ScriptTNode W (some ⟨q1, 0, none⟩) [⟨3, none, 0, 0, []⟩] := by
 refine ⟨fun _ => ⟨q1, 0, rfl, fun i op hi => ?_⟩, fun op hop => ?_⟩
 ·obtain ⟨b, e, hb, hr⟩ := H.own_seesN 0 rfl (by simp)
  injection e with e
  injection e with e
  subst e
  match i, hi with
  | 0, hi =>
   injection hi with hi
   subst hi
   intro k u hk
   match k, hk with
   | 0, hk => injection hk with hk; subst hk; exact hr 0 _ rfl
   | 1, hk => injection hk with hk; subst hk; exact hr 1 _ rfl
   | k + 2, hk => cases hk
  | i + 1, hi => cases hi
 ·rw [List.mem_singleton.1 hop]
  exact ⟨by decide, Sees.nil, rfl, ⟨Nat.le_refl _, by decide⟩, by simp⟩
theorem awake19 (w : World) : Calls Try.prog 18 [].toArray w fun e w' => e = .returned (.bool true) ∧ Only [] w w' := by
 have H := Heap.nil w
 have hWd := fun (W : World) => (rWords_any 6 W (by omega) (by omega)).mono (R' := fun e w' => e = .returned (.int .i64 8) ∧ Only [] W w') fun e w' h => ⟨h.1, Only.of_below h.2 _⟩
 have hAd := fun (W : World) => lAddr 3 W (by omega)
 rw [show Md.adr 3 = 536 by decide] at hAd
 refine k_in (N := 39) Try.func18 rfl rfl rfl ?_
 refine k_sg ?_
 refine s_run rfl rfl (rab rfl) ?_
 refine k_nc ?_
 refine k_sg ?_
 refine s_run rfl rfl (r_bd (bd100_0 _) rfl) ?_
 refine s_bsN (enc := C1.v) (size := 2) (zs := [C1.i .i64 3, C1.s none 0 0]) H rfl rfl rfl (by omega) (by kernel_rfl) Try.underlying44 inf100 ?_
 intro q1 _ H'; clear H; have H := H'; clear H'
 have hU := exU H
 have hM := fun {W : World} (hU : ScriptTNode W (some ⟨q1, 0, none⟩) [⟨3, none, 0, 0, []⟩]) => lMade 0 (by omega) (some ⟨q1, 0, none⟩) 1 1 [⟨3, none, 0, 0, []⟩] W hU rfl (by omega) (fun u hu => by rw [List.mem_singleton.1 hu]; exact ⟨by show (0 : Nat) ≤ 10; omega, fun x hx => by cases hx⟩) 2 (by omega)
 have hW2 : Md.mkW 2 (usOf [⟨3, none, 0, 0, []⟩]) 1 = exW := exW_mk
 rw [hW2] at hM
 refine s_call rfl (hM hU) (ca20 rfl) ?_
 rintro e W1 ⟨g, LA, lc, rfl, H'⟩
 refine ⟨_, rfl, ?_⟩
 have H0 := H.more (A := [grp _, _]) H'; clear H'; clear H; simp only [List.cons_append, List.nil_append] at H0; have H := Heap.nil W1
 refine s_run rfl rfl (rmt rfl) ?_
 refine s_run rfl rfl (r_ext (v := .pointer _) rfl rfl) ?_
 refine s_run rfl rfl (r_ext (v := .agg _) rfl rfl) ?_
 refine s_run rfl rfl (r_ext (v := .slice _ _ _) rfl rfl) ?_
 refine s_al H rfl inf48 ?_
 intro p2 _ H'; clear H; have H := H'; clear H'
 refine s_run rfl rfl (rap rfl) ?_
 refine s_sw H 0 rfl rfl rfl rfl rfl rfl rfl sz48 ?_
 clear H; intro _ H; simp only [jA, jB, jC, jD, jE, jF, jG, jH, jI, jJ, jK, Nat.reduceAdd] at H
 refine s_run rfl rfl (ras rfl) ?_
 refine k_nc ?_
 refine k_seq ?_
 have hS := hdrSees H0 1 rfl
 have hO := H0.only
 have hCl := fun {W : World} {FA : Option Addr} {fc : Nat} (h : Only [] W1 W) hF => exCl (g := g) (k := 2) (c := lc) (A := LA) (w := W) ((H0.same h).grp_ents 0 rfl) (hS.later h (by simp)) FA fc hF rfl
 refine k_trF mixed ?_; have H' := H.drew; clear H; have H := H'; clear H'
 refine tqh 0 rfl rfl rfl (fun _ hS => r_mv (v := .pointer _) rfl) trivial ?_
 refine tqh 2 rfl rfl rfl (fun _ hS => r_mv (v := .slice _ _ _) rfl) trivial ?_
 refine t_up2 1 3 (by kernel_rfl) ?_ ?_
 ·refine up_mk rfl ?_
  refine s_run rfl rfl (r_la H 0 rfl rfl rfl ag48 sz48) ?_
  refine k_nil ?_
  refine t_on trivial ?_
  refine t_up1 3 (by kernel_rfl) ?_
  refine up_mk rfl ?_
  refine s_call rfl (hAd _) (ca23 rfl) ?_
  rintro e W1 ⟨rfl, H'⟩
  refine ⟨_, rfl, ?_⟩
  have H := H.same H'; clear H'
  refine k_nil ?_
  refine t_on trivial ?_
  refine t_up1 4 (by kernel_rfl) ?_
  refine up_mk rfl ?_
  refine s_bsO (enc := (Value.int .i64)) (zs := [0, 536]) H rfl rfl rfl (by omega) (by kernel_rfl) Try.underlying25 inf3 ?_
  intro q4 _ H'; clear H; have H := H'; clear H'
  refine k_nil ?_
  refine t_on trivial ?_
  refine t_up1 5 (by kernel_rfl) ?_
  refine up_mk rfl ?_
  refine s_call rfl (hCl H.only (own_seesC H 0 rfl)) (ca27 rfl) ?_
  rintro e W1 ⟨A4, c4, rfl, H'⟩
  refine ⟨_, rfl, ?_⟩
  have H := H.more H'; clear H'; simp only [List.cons_append, List.nil_append] at H; obtain ⟨pz, rfl⟩ := H.own_some 0 rfl (by omega)
  refine k_nil ?_
  refine t_on trivial ?_
  refine tqh 6 rfl rfl rfl (fun _ hS => r_mv (v := .tuple _) rfl) trivial ?_
  refine tqh 7 rfl rfl rfl (fun _ hS => r_ext (v := .slice _ _ _) rfl rfl) trivial ?_
  refine tqh 8 rfl rfl rfl (fun _ hS => r_ext (v := .int _ _) rfl rfl) trivial ?_
  refine tqh 9 rfl rfl rfl (fun _ hS => r_as (v := .slice _ _ _) rfl) trivial ?_
  refine tqh 10 rfl rfl rfl (fun _ hS => r_as (v := .int _ _) rfl) trivial ?_
  refine t_done (by kernel_rfl) ?_
  refine c_norm ?_
  refine k_sg ?_
  refine s_run rfl rfl (rmi rfl) ?_
  refine s_run rfl rfl (r_eqlT rfl rfl (by omega)) ?_
  refine s_run rfl rfl (rmb rfl) ?_
  refine s_run rfl (g_on 24 (by kernel_rfl) rfl) (rms rfl) ?_
  refine s_run rfl (g_on 24 (by kernel_rfl) rfl) (r_len rfl Try.underlying25) ?_
  refine s_run rfl (g_on 24 (by kernel_rfl) rfl) (r_eqlT rfl rfl (by omega)) ?_
  refine s_run rfl rfl (r_pkT (v := .bool _) rfl rfl) ?_
  refine s_run rfl rfl (rmb rfl) ?_
  refine s_run rfl (g_on 29 (by kernel_rfl) rfl) (rms rfl) ?_
  refine s_run rfl (g_on 29 (by kernel_rfl) rfl) (r_ix1 (i := 0) rfl rfl (by omega) (by omega) Try.underlying25 sz3) ?_
  refine s_run rfl (g_on 29 (by kernel_rfl) rfl) (r_ow H 0 rfl rfl (show ([536] : List Int)[0]? = some 536 from rfl) ag3) ?_
  refine s_run rfl (g_on 29 (by kernel_rfl) rfl) (r_eqlT rfl rfl (by omega)) ?_
  refine s_run rfl rfl (r_pkT (v := .bool _) rfl rfl) ?_
  refine s_run rfl rfl (rmb rfl) ?_
  refine s_call (g_on 35 (by kernel_rfl) rfl) (hWd _) (ca58 rfl) ?_
  rintro e W1 ⟨rfl, H'⟩
  refine ⟨_, rfl, ?_⟩
  have H := H.same H'; clear H'
  refine s_run rfl (g_on 35 (by kernel_rfl) rfl) (r_eqlT rfl rfl (by omega)) ?_
  refine s_run rfl rfl (r_pkT (v := .bool _) rfl rfl) ?_
  refine s_run rfl rfl (rab rfl) ?_
  refine k_nc ?_
  refine k_ret ?_
  refine fin1r (v := .bool _) rfl rfl ?_
  exact ⟨rfl, hO.trans H.only⟩
 ·refine up_mk rfl ?_
  refine s_call rfl (hAd _) (ca23 rfl) ?_
  rintro e W1 ⟨rfl, H'⟩
  refine ⟨_, rfl, ?_⟩
  have H := H.same H'; clear H'
  refine k_nil ?_
  refine t_on trivial ?_
  refine t_up2 1 4 (by kernel_rfl) ?_ ?_
  ·refine up_mk rfl ?_
   refine s_run rfl rfl (r_la H 0 rfl rfl rfl ag48 sz48) ?_
   refine k_nil ?_
   refine t_on trivial ?_
   refine t_up1 4 (by kernel_rfl) ?_
   refine up_mk rfl ?_
   refine s_bsO (enc := (Value.int .i64)) (zs := [0, 536]) H rfl rfl rfl (by omega) (by kernel_rfl) Try.underlying25 inf3 ?_
   intro q4 _ H'; clear H; have H := H'; clear H'
   refine k_nil ?_
   refine t_on trivial ?_
   refine t_up1 5 (by kernel_rfl) ?_
   refine up_mk rfl ?_
   refine s_call rfl (hCl H.only (own_seesC H 0 rfl)) (ca27 rfl) ?_
   rintro e W1 ⟨A4, c4, rfl, H'⟩
   refine ⟨_, rfl, ?_⟩
   have H := H.more H'; clear H'; simp only [List.cons_append, List.nil_append] at H; obtain ⟨pz, rfl⟩ := H.own_some 0 rfl (by omega)
   refine k_nil ?_
   refine t_on trivial ?_
   refine tqh 6 rfl rfl rfl (fun _ hS => r_mv (v := .tuple _) rfl) trivial ?_
   refine tqh 7 rfl rfl rfl (fun _ hS => r_ext (v := .slice _ _ _) rfl rfl) trivial ?_
   refine tqh 8 rfl rfl rfl (fun _ hS => r_ext (v := .int _ _) rfl rfl) trivial ?_
   refine tqh 9 rfl rfl rfl (fun _ hS => r_as (v := .slice _ _ _) rfl) trivial ?_
   refine tqh 10 rfl rfl rfl (fun _ hS => r_as (v := .int _ _) rfl) trivial ?_
   refine t_done (by kernel_rfl) ?_
   refine c_norm ?_
   refine k_sg ?_
   refine s_run rfl rfl (rmi rfl) ?_
   refine s_run rfl rfl (r_eqlT rfl rfl (by omega)) ?_
   refine s_run rfl rfl (rmb rfl) ?_
   refine s_run rfl (g_on 24 (by kernel_rfl) rfl) (rms rfl) ?_
   refine s_run rfl (g_on 24 (by kernel_rfl) rfl) (r_len rfl Try.underlying25) ?_
   refine s_run rfl (g_on 24 (by kernel_rfl) rfl) (r_eqlT rfl rfl (by omega)) ?_
   refine s_run rfl rfl (r_pkT (v := .bool _) rfl rfl) ?_
   refine s_run rfl rfl (rmb rfl) ?_
   refine s_run rfl (g_on 29 (by kernel_rfl) rfl) (rms rfl) ?_
   refine s_run rfl (g_on 29 (by kernel_rfl) rfl) (r_ix1 (i := 0) rfl rfl (by omega) (by omega) Try.underlying25 sz3) ?_
   refine s_run rfl (g_on 29 (by kernel_rfl) rfl) (r_ow H 0 rfl rfl (show ([536] : List Int)[0]? = some 536 from rfl) ag3) ?_
   refine s_run rfl (g_on 29 (by kernel_rfl) rfl) (r_eqlT rfl rfl (by omega)) ?_
   refine s_run rfl rfl (r_pkT (v := .bool _) rfl rfl) ?_
   refine s_run rfl rfl (rmb rfl) ?_
   refine s_call (g_on 35 (by kernel_rfl) rfl) (hWd _) (ca58 rfl) ?_
   rintro e W1 ⟨rfl, H'⟩
   refine ⟨_, rfl, ?_⟩
   have H := H.same H'; clear H'
   refine s_run rfl (g_on 35 (by kernel_rfl) rfl) (r_eqlT rfl rfl (by omega)) ?_
   refine s_run rfl rfl (r_pkT (v := .bool _) rfl rfl) ?_
   refine s_run rfl rfl (rab rfl) ?_
   refine k_nc ?_
   refine k_ret ?_
   refine fin1r (v := .bool _) rfl rfl ?_
   exact ⟨rfl, hO.trans H.only⟩
  ·refine up_mk rfl ?_
   refine s_bsO (enc := (Value.int .i64)) (zs := [0, 536]) H rfl rfl rfl (by omega) (by kernel_rfl) Try.underlying25 inf3 ?_
   intro q4 _ H'; clear H; have H := H'; clear H'
   refine k_nil ?_
   refine t_on trivial ?_
   refine t_up1 1 (by kernel_rfl) ?_
   refine up_mk rfl ?_
   refine s_run rfl rfl (r_la H 1 rfl rfl rfl ag48 sz48) ?_
   refine k_nil ?_
   refine t_on trivial ?_
   refine t_up1 5 (by kernel_rfl) ?_
   refine up_mk rfl ?_
   refine s_call rfl (hCl H.only (own_seesC H 0 rfl)) (ca27 rfl) ?_
   rintro e W1 ⟨A4, c4, rfl, H'⟩
   refine ⟨_, rfl, ?_⟩
   have H := H.more H'; clear H'; simp only [List.cons_append, List.nil_append] at H; obtain ⟨pz, rfl⟩ := H.own_some 0 rfl (by omega)
   refine k_nil ?_
   refine t_on trivial ?_
   refine tqh 6 rfl rfl rfl (fun _ hS => r_mv (v := .tuple _) rfl) trivial ?_
   refine tqh 7 rfl rfl rfl (fun _ hS => r_ext (v := .slice _ _ _) rfl rfl) trivial ?_
   refine tqh 8 rfl rfl rfl (fun _ hS => r_ext (v := .int _ _) rfl rfl) trivial ?_
   refine tqh 9 rfl rfl rfl (fun _ hS => r_as (v := .slice _ _ _) rfl) trivial ?_
   refine tqh 10 rfl rfl rfl (fun _ hS => r_as (v := .int _ _) rfl) trivial ?_
   refine t_done (by kernel_rfl) ?_
   refine c_norm ?_
   refine k_sg ?_
   refine s_run rfl rfl (rmi rfl) ?_
   refine s_run rfl rfl (r_eqlT rfl rfl (by omega)) ?_
   refine s_run rfl rfl (rmb rfl) ?_
   refine s_run rfl (g_on 24 (by kernel_rfl) rfl) (rms rfl) ?_
   refine s_run rfl (g_on 24 (by kernel_rfl) rfl) (r_len rfl Try.underlying25) ?_
   refine s_run rfl (g_on 24 (by kernel_rfl) rfl) (r_eqlT rfl rfl (by omega)) ?_
   refine s_run rfl rfl (r_pkT (v := .bool _) rfl rfl) ?_
   refine s_run rfl rfl (rmb rfl) ?_
   refine s_run rfl (g_on 29 (by kernel_rfl) rfl) (rms rfl) ?_
   refine s_run rfl (g_on 29 (by kernel_rfl) rfl) (r_ix1 (i := 0) rfl rfl (by omega) (by omega) Try.underlying25 sz3) ?_
   refine s_run rfl (g_on 29 (by kernel_rfl) rfl) (r_ow H 0 rfl rfl (show ([536] : List Int)[0]? = some 536 from rfl) ag3) ?_
   refine s_run rfl (g_on 29 (by kernel_rfl) rfl) (r_eqlT rfl rfl (by omega)) ?_
   refine s_run rfl rfl (r_pkT (v := .bool _) rfl rfl) ?_
   refine s_run rfl rfl (rmb rfl) ?_
   refine s_call (g_on 35 (by kernel_rfl) rfl) (hWd _) (ca58 rfl) ?_
   rintro e W1 ⟨rfl, H'⟩
   refine ⟨_, rfl, ?_⟩
   have H := H.same H'; clear H'
   refine s_run rfl (g_on 35 (by kernel_rfl) rfl) (r_eqlT rfl rfl (by omega)) ?_
   refine s_run rfl rfl (r_pkT (v := .bool _) rfl rfl) ?_
   refine s_run rfl rfl (rab rfl) ?_
   refine k_nc ?_
   refine k_ret ?_
   refine fin1r (v := .bool _) rfl rfl ?_
   exact ⟨rfl, hO.trans H.only⟩
end Go.Proofs.Ytlakbclnilakbaa
end

section
namespace Go.Proofs.Ytlakbclnilakbaa
open Go.RowKit
theorem add_noneR {b o i : Nat} : (⟨b, o, none⟩ : Addr).add i = ⟨b, o + i, none⟩ := by
 unfold Addr.add; split
 ·subst_vars; rfl
 ·rfl
theorem row_sees {w : World} {k : IntKind} {A : Option Addr} {n c : Nat} {zs : List Int} (h : IsRow k w A n c zs) : Sees (Value.int k) w [] A (zs.take n) ∧ (zs.take n).length = n ∧ n ≤ c ∧ c ≤ maxLen ∧ ∀ z ∈ zs.take n, (Lit.int k z).wf = true := by
 rcases h with ⟨rfl, rfl, rfl, rfl⟩ | ⟨x, rfl, hl, hm, hz, hcell, hwf⟩
 ·exact ⟨Sees.nil, rfl, by omega, by decide, by simp⟩
 ·refine ⟨fun h0 => ?_, by simp; omega, hl, hm, fun z hz => hwf z (List.mem_of_mem_take hz)⟩
  obtain ⟨b, off, spot⟩ := x
  have h0' : 0 < n := by simp at h0; omega
  have hc0 := hcell 0 (by omega)
  have hspot : spot = none := by simpa [Addr.add] using World.cell?_spot hc0
  subst hspot
  refine ⟨b, off, rfl, by simp, fun j z hj => ?_⟩
  have hjl : j < n := by have := (List.getElem?_eq_some_iff.1 hj).1; simp at this; omega
  rw [List.getElem?_take_of_lt hjl] at hj
  have hc2 := hcell j (by omega)
  rw [add_noneR] at hc2
  rw [hc2]
  simp [List.getD, hj]
end Go.Proofs.Ytlakbclnilakbaa
end

section
namespace Go.Proofs.Ytlakbclnilakbaa
open Go.RowKit

end Go.Proofs.Ytlakbclnilakbaa
end

section
namespace Go.Proofs.Ytlakbclnilakbaa
open Go.RowKit
set_option maxRecDepth 100000
set_option maxHeartbeats 2000000
end Go.Proofs.Ytlakbclnilakbaa
end

section
namespace Go.Proofs.Ytlakbclnilakbaa
open Go.RowKit
set_option maxRecDepth 100000
set_option maxHeartbeats 8000000
theorem srt_strict {l : List Int} (h : l.Nodup) : (srt l).Pairwise (· < ·) := by
 have h1 := srt_sorted l
 have h2 : (srt l).Nodup := (srt_perm _).nodup_iff.2 h
 exact List.Pairwise.imp₂ (fun a b h3 h4 => by omega) h1 h2
end Go.Proofs.Ytlakbclnilakbaa
end

section
namespace Go.Proofs.Ytlakbclnilakbaa.Tr
theorem getD_mem {l : List Int} {j : Nat} (h : j < l.length) : l.getD j 0 ∈ l := by
 rw [List.getD_eq_getElem?_getD, List.getElem?_eq_getElem h]; exact List.getElem_mem _
theorem roots_all (P : Int → Bool) (s : S) (l : List Int) : ∀ k, (rootsTo P s l k).bad = [] → ∀ j, j < k → l.getD j 0 = 0 ∨ l.getD j 0 ∈ (rootsTo P s l k).seen
 | 0, _, j, h => by omega
 | k + 1, hb, j, h => by
  obtain ⟨h1, h2⟩ := (reach_bad P (rootsTo P s l k) (-1, 0) (l.getD k 0)).2.1 hb
  by_cases e : j = k
  ·subst e; exact h2
  ·exact (roots_all P s l k h1 j (by omega)).imp id (fun hm => reach_sub _ _ _ _ _ hm)
theorem along_all (P : Int → Bool) (s : S) (y : Int) (l : List Int) : ∀ k, (along P s y l k).bad = [] → ∀ j, j < k → l.getD j 0 = 0 ∨ l.getD j 0 ∈ (along P s y l k).seen
 | 0, _, j, h => by omega
 | k + 1, hb, j, h => by
  obtain ⟨h1, h2⟩ := (reach_bad P (along P s y l k) (y, (k : Int)) (l.getD k 0)).2.1 hb
  by_cases e : j = k
  ·subst e; exact h2
  ·exact (along_all P s y l k h1 j (by omega)).imp id (fun hm => reach_sub _ _ _ _ _ hm)
theorem reach_old {P : Int → Bool} {s : S} {e : Int × Int} {a y : Int} (h : y ∈ (reach P s e a).seen) (ho : y ∉ (reach P s e a).op) : y ∈ s.seen ∧ y ∉ s.op := by
 unfold reach at h ho
 split at h
 ·rename_i h1; rw [if_pos h1] at ho; exact ⟨h, ho⟩
 ·rename_i h1
  rw [if_neg h1] at ho
  split at h
  ·rename_i h2
   rw [if_pos h2] at ho
   have ho2 : y ∉ s.op ++ [a] := ho
   have h3 : y ∈ s.seen ++ [a] := h
   simp only [List.mem_append, List.mem_singleton, not_or] at ho2 h3
   exact ⟨h3.resolve_right ho2.2, ho2.1⟩
  ·rename_i h2
   rw [if_neg h2] at ho
   exact ⟨h, ho⟩
theorem along_old {P : Int → Bool} {s : S} {y0 : Int} {l : List Int} {y : Int} : ∀ k, y ∈ (along P s y0 l k).seen → y ∉ (along P s y0 l k).op → y ∈ s.seen ∧ y ∉ s.op
 | 0, h, ho => ⟨h, ho⟩
 | k + 1, h, ho => by
  obtain ⟨h1, h2⟩ := reach_old h ho
  exact along_old k h1 h2
theorem pop_split {s : S} (h : s.op ≠ []) : s.op = (pop s).op ++ [top s] := by
 have hl := List.length_pos_iff.2 h
 unfold pop top
 obtain ⟨x, hx⟩ : ∃ x, s.op[s.op.length - 1]? = some x := ⟨_, List.getElem?_eq_getElem (by omega)⟩
 rw [List.getD_eq_getElem?_getD, hx]
 have := List.take_append_drop (s.op.length - 1) s.op
 rw [List.drop_eq_getElem_cons (by omega)] at this
 rw [List.getElem?_eq_getElem (by omega)] at hx
 injection hx with hx
 rw [show s.op.length - 1 + 1 = s.op.length by omega, List.drop_length, hx] at this
 exact this.symm
/-- what is seen and no longer open leads to what is seen -/
theorem steps_closed (P : Int → Bool) (pt : Int → List Int) (s : S) (hs : ∀ y ∈ s.seen, y ∈ s.op) : ∀ k, (∀ j, j < k → (steps P pt s j).op ≠ []) → (steps P pt s k).bad = [] → ∀ y ∈ (steps P pt s k).seen, y ∉ (steps P pt s k).op → ∀ x ∈ pt y, x = 0 ∨ x ∈ (steps P pt s k).seen
 | 0, _, _, y, h, ho => absurd (hs y h) ho
 | k + 1, hj, hb, y, h, ho => by
  intro x hx
  have hb2 : (steps P pt s k).bad = [] := along_badE P (pop (steps P pt s k)) _ _ _ hb
  obtain ⟨h1, h2⟩ := along_old (s := pop (steps P pt s k)) _ h ho
  by_cases e : y ∈ (steps P pt s k).op
  ·rw [pop_split (hj k (by omega))] at e
   rcases List.mem_append.1 e with e | e
   ·exact absurd e h2
   ·have e2 : y = top (steps P pt s k) := List.mem_singleton.1 e
    subst e2
    obtain ⟨j, hjl, rfl⟩ := List.mem_iff_getElem.1 hx
    have := along_all P (pop (steps P pt s k)) (top (steps P pt s k)) (pt (top (steps P pt s k))) _ hb j hjl
    rw [List.getD_eq_getElem?_getD, List.getElem?_eq_getElem hjl] at this
    exact this
  ·rcases steps_closed P pt s hs k (fun j h => hj j (by omega)) hb2 y h1 e x hx with h3 | h3
   ·exact .inl h3
   ·exact .inr (step_sub P pt _ x h3)
/-- each that is seen is a root, or led to -/
def Led (pt : Int → List Int) (l : List Int) (s : S) : Prop := ∀ x ∈ s.seen, x ∈ l ∨ ∃ y ∈ s.seen, x ∈ pt y
theorem reach_new {P : Int → Bool} {s : S} {e : Int × Int} {a x : Int} (h : x ∈ (reach P s e a).seen) : x ∈ s.seen ∨ x = a := by
 unfold reach at h
 split at h
 ·exact .inl h
 ·split at h
  ·rcases List.mem_append.1 h with h | h
   ·exact .inl h
   ·exact .inr (List.mem_singleton.1 h)
  ·exact .inl h
theorem roots_led (P : Int → Bool) (pt : Int → List Int) (l : List Int) : ∀ k, k ≤ l.length → ∀ x ∈ (rootsTo P s0 l k).seen, x ∈ l
 | 0, _, x, h => by cases h
 | k + 1, hk, x, h => by
  rcases reach_new h with h | h
  ·exact roots_led P pt l k (by omega) x h
  ·subst h; exact getD_mem (by omega)
theorem along_new {P : Int → Bool} {s : S} {y : Int} {l : List Int} {x : Int} : ∀ k, k ≤ l.length → x ∈ (along P s y l k).seen → x ∈ s.seen ∨ x ∈ l
 | 0, _, h => .inl h
 | k + 1, hk, h => by
  rcases reach_new h with h | h
  ·exact along_new k (by omega) h
  ·subst h; exact .inr (getD_mem (by omega))
theorem steps_led {P : Int → Bool} {pt : Int → List Int} {l : List Int} {s : S} (hok : Ok P s) (h : Led pt l s) : ∀ k, (∀ j, j < k → (steps P pt s j).op ≠ []) → Led pt l (steps P pt s k)
 | 0, _ => h
 | k + 1, hj => fun x hx => by
  have ih := steps_led hok h k fun j h => hj j (by omega)
  have htop : top (steps P pt s k) ∈ (steps P pt s k).seen := (hok.steps k).sub _ (by rw [pop_split (hj k (by omega))]; simp)
  rcases along_new (s := pop (steps P pt s k)) _ (Nat.le_refl _) hx with h1 | h1
  ·rcases ih x h1 with h2 | ⟨y, h2, h3⟩
   ·exact .inl h2
   ·exact .inr ⟨y, step_sub P pt _ y h2, h3⟩
  ·exact .inr ⟨_, step_sub P pt _ _ htop, h1⟩
theorem roots_open (P : Int → Bool) (l : List Int) : ∀ k, ∀ y ∈ (rootsTo P s0 l k).seen, y ∈ (rootsTo P s0 l k).op
 | 0, y, h => by cases h
 | k + 1, y, h => by
  have ih := roots_open P l k
  by_cases ho : y ∈ (rootsTo P s0 l (k + 1)).op
  ·exact ho
  ·obtain ⟨h1, h2⟩ := reach_old h ho
   exact absurd (ih y h1) h2
/-- two rows with the same numbers, but for noughts: L rises (weakly), A rises -/
structure Two (L A : List Int) (i k : Nat) : Prop where
 a : ∀ (j : Nat) (y : Int), j < k → A[j]? = some y → ∃ q : Nat, q < i ∧ L[q]? = some y
 b : ∀ (q : Nat) (y : Int), q < i → L[q]? = some y → y = 0 ∨ ∃ j : Nat, j < k ∧ A[j]? = some y
theorem Two.zero {L A : List Int} : Two L A 0 0 := ⟨fun j y h => by omega, fun q y h => by omega⟩
theorem Two.skip {L A : List Int} {i k : Nat} {x : Int} (h : Two L A i k) (hx : L[i]? = some x) (h0 : x = 0 ∨ ∃ j : Nat, j < k ∧ A[j]? = some x) : Two L A (i + 1) k :=
 ⟨fun j y h1 h2 => (h.a j y h1 h2).imp fun q hq => ⟨by omega, hq.2⟩, fun q y h1 h2 => by
  by_cases e : q = i
  ·subst e; rw [hx] at h2; injection h2 with h2; subst h2; exact h0
  ·exact h.b q y (by omega) h2⟩
theorem Two.next {L A : List Int} {i k : Nat} {x : Int} (h : Two L A i k) (hx : L[i]? = some x) (hk : A[k]? = some x) : Two L A (i + 1) (k + 1) :=
 ⟨fun j y h1 h2 => by
  by_cases e : j = k
  ·subst e; rw [hk] at h2; injection h2 with h2; subst h2; exact ⟨i, by omega, hx⟩
  ·obtain ⟨q, hq, h3⟩ := h.a j y (by omega) h2; exact ⟨q, by omega, h3⟩, fun q y h1 h2 => by
  by_cases e : q = i
  ·subst e; rw [hx] at h2; injection h2 with h2; subst h2; exact .inr ⟨k, by omega, hk⟩
  ·rcases h.b q y (by omega) h2 with h3 | ⟨j, h3, h4⟩
   ·exact .inl h3
   ·exact .inr ⟨j, by omega, h4⟩⟩
theorem le_of {L : List Int} (hL : L.Pairwise (· ≤ ·)) {i j : Nat} {x y : Int} (hx : L[i]? = some x) (hy : L[j]? = some y) (hij : i ≤ j) : x ≤ y := by
 by_cases e : i = j
 ·subst e; rw [hx] at hy; injection hy with hy; omega
 ·obtain ⟨h1, rfl⟩ := List.getElem?_eq_some_iff.1 hx
  obtain ⟨h2, rfl⟩ := List.getElem?_eq_some_iff.1 hy
  exact List.pairwise_iff_getElem.1 hL i j h1 h2 (by omega)
theorem lt_of {A : List Int} (hA : A.Pairwise (· < ·)) {i j : Nat} {x y : Int} (hx : A[i]? = some x) (hy : A[j]? = some y) (hij : i < j) : x < y := by
 obtain ⟨h1, rfl⟩ := List.getElem?_eq_some_iff.1 hx
 obtain ⟨h2, rfl⟩ := List.getElem?_eq_some_iff.1 hy
 exact List.pairwise_iff_getElem.1 hA i j h1 h2 hij
/-- the next number that isn't there yet is the next one of A -/
theorem Two.take {L A : List Int} {i k : Nat} {x : Int} (h : Two L A i k) (hL : L.Pairwise (· ≤ ·)) (hA : A.Pairwise (· < ·)) (hLA : ∀ y ∈ L, y = 0 ∨ y ∈ A) (hAL : ∀ y ∈ A, y ∈ L ∧ y ≠ 0) (hx : L[i]? = some x) (h0 : x ≠ 0) (hp : ∀ z, 0 < k → A[k - 1]? = some z → z ≠ x) (hkl : k ≤ A.length) : A[k]? = some x := by
 have hxA : x ∈ A := (hLA x (List.mem_of_getElem? hx)).resolve_left h0
 obtain ⟨r, hr1, hr2⟩ := List.mem_iff_getElem.1 hxA
 have hr : A[r]? = some x := by rw [← hr2]; exact List.getElem?_eq_getElem hr1
 have hkr : k ≤ r := by
  rcases Nat.lt_or_ge r k with hlt | hge
  ·exfalso
   by_cases e : r = k - 1
   ·subst e; exact hp x (by omega) hr rfl
   ·by_cases hkA : k - 1 < A.length
    ·obtain ⟨z, hz⟩ : ∃ z, A[k - 1]? = some z := ⟨_, List.getElem?_eq_getElem hkA⟩
     obtain ⟨q, hq, hq2⟩ := h.a (k - 1) z (by omega) hz
     have h1 := le_of hL hq2 hx (by omega)
     have h2 := lt_of hA hr hz (by omega)
     omega
    ·omega
  ·exact hge
 rcases Nat.lt_or_ge k r with hlt | hge
 ·exfalso
  obtain ⟨z, hz⟩ : ∃ z, A[k]? = some z := ⟨_, List.getElem?_eq_getElem (by omega)⟩
  have hzx := lt_of hA hz hr hlt
  obtain ⟨hzL, hz0⟩ := hAL z (List.mem_of_getElem? hz)
  obtain ⟨q, hq1, hq2⟩ := List.mem_iff_getElem.1 hzL
  have hq : L[q]? = some z := by rw [← hq2]; exact List.getElem?_eq_getElem hq1
  have hqi : q < i := by
   rcases Nat.lt_or_ge q i with h1 | h1
   ·exact h1
   ·have := le_of hL hx hq h1; omega
  rcases h.b q z hqi hq with h1 | ⟨j, hj, hj2⟩
  ·exact hz0 h1
  ·have := lt_of hA hj2 hz hj; omega
 ·have : r = k := by omega
  subst this; exact hr
theorem Two.fin {L A : List Int} {k : Nat} (h : Two L A L.length k) (hA : A.Pairwise (· < ·)) (hAL : ∀ y ∈ A, y ∈ L ∧ y ≠ 0) (hk : k ≤ A.length) : k = A.length := by
 rcases Nat.lt_or_ge k A.length with hlt | hge
 ·exfalso
  obtain ⟨z, hz⟩ : ∃ z, A[k]? = some z := ⟨_, List.getElem?_eq_getElem hlt⟩
  obtain ⟨hzL, hz0⟩ := hAL z (List.mem_of_getElem? hz)
  obtain ⟨q, hq1, hq2⟩ := List.mem_iff_getElem.1 hzL
  have hq : L[q]? = some z := by rw [← hq2]; exact List.getElem?_eq_getElem hq1
  rcases h.b q z hq1 hq with h1 | ⟨j, hj, hj2⟩
  ·exact hz0 h1
  ·have := lt_of hA hj2 hz hj; omega
 ·omega
end Go.Proofs.Ytlakbclnilakbaa.Tr
end

section
namespace Go.Proofs.Ytlakbclnilakbaa
open Go.RowKit
set_option maxRecDepth 100000
set_option maxHeartbeats 8000000
/-- what a closure that ends well is -/
def ClGood (c : List Int) (n : Nat) (hs : List Ob.H3) (l : List Int) (w : World) (A : Option Addr) (m : Nat) : Prop :=
 ∃ (N : Nat) (s : Tr.S), s = Tr.steps (Ob.pl n c hs) (Ob.ptrs c) (Tr.rootsTo (Ob.pl n c hs) Tr.s0 l l.length) N ∧ (∀ j, j < N → (Tr.steps (Ob.pl n c hs) (Ob.ptrs c) (Tr.rootsTo (Ob.pl n c hs) Tr.s0 l l.length) j).op ≠ []) ∧ s.op = [] ∧ s.bad = [] ∧ m = s.seen.length ∧ Sees (Value.int .i64) w [] A (srt s.seen)
theorem clU {g : Geo} {d : Nv.D} {n k c : Nat} {A : Option Addr} {hs : List Ob.H3} {w : World} (hE : Ents (devL g d) w) (hw : Ob.W64 d.cache) (hl : d.cache.length ≤ 1000000000) (hS : HSees w [] A hs) (hk : hs.length = k) (hk2 : k ≤ 1000000) (hW : hsW hs) (hn : n ≤ 1900) (FA : Option Addr) (fn fc : Nat) (l : List Int) (hF : Sees (Value.int .i64) w [] FA l) (hfl : l.length = fn) (hfn : fn ≤ 1000000) (hlb : ∀ a ∈ l, i64ok a) :
  Calls Try.prog 27 [ptr g.p, .agg [.int .i64 n].toArray, .slice A k c, .slice FA fn fc].toArray w fun e w' => ∃ A' m c' q, e = .returned (.tuple [.slice A' m c', .int .i64 q].toArray) ∧ (q ≠ 0 ∨ q = 0 ∧ ClGood d.cache n hs l w' A' m) ∧ Only [] w w' :=
 (trClosure hE hw hl hS hk hk2 hW hn FA fn fc l hF hfl hfn hlb).mono fun e w' h => by
  obtain ⟨N, s1, hs1, hN1, hN2, hcase⟩ := h
  subst hs1
  rcases hcase with ⟨hb, he, hO⟩ | ⟨hb, A', c', he, H'⟩
  ·exact ⟨none, 0, 0, 22, he, .inl (by omega), hO⟩
  ·exact ⟨A', _, c', 0, he, .inr ⟨rfl, N, _, rfl, hN1, hN2, hb, rfl, own_seesC H' 0 rfl⟩, H'.only⟩
theorem load_ok {ws : List Int} {m : Nat} (h : ws.length = 8 * m) : Nv.Ok (Nv.load ws m) m := ⟨h, h, by simp [Nv.load, h], by simp [Nv.load], by simp [Nv.load]⟩
theorem walk_TraceClosed (bl : Int) (x : Option Addr × Nat × Nat × List TNode) (FA : Option Addr) (fn fc : Nat) (zs : List Int) (w : World) (wb : (Lit.int .u8 bl).wf = true) (hx : ScriptTNode w x.1 x.2.2.2 ∧ x.2.2.2.length = x.2.1 ∧ x.2.1 ≤ 9223372036854775807 ∧ x.2.1 ≤ x.2.2.1) (hr : IsRow .i64 w FA fn fc zs) :
  Calls Try.prog 6 [.int .u8 bl, .slice x.1 x.2.1 x.2.2.1, .slice FA fn fc].toArray w fun e w' => e = .returned (.bool true) ∧ Below w.heap.size w w' := by
 obtain ⟨A, n, c, us⟩ := x
 obtain ⟨hU, hn, hnm, hnc⟩ := hx
 simp only at hU hn hnm hnc ⊢
 obtain ⟨hF, hfl, hfc, hcm, hfw⟩ := row_sees hr
 have hfm : fn ≤ 9223372036854775807 := by unfold maxLen at hcm; omega
 generalize zs.take fn = l at *
 have hb := bounds_u8 wb
 have H := Heap.nil w
 have hFw := fun {W : World} (h : Only [] w W) => lFewT A n c us FA fn fc l W (hU.later h) hn (hF.later h (by simp)) hfl hnm hfm
 refine k_in (N := 108) Try.func6 rfl rfl rfl ?_
 refine k_sg ?_
 refine s_run rfl rfl (rab rfl) ?_
 refine k_nc ?_
 refine k_seq ?_
 refine k_sg ?_
 refine s_call rfl (awake19 _) (ca18 rfl) ?_
 rintro e W1 ⟨rfl, H'⟩
 refine ⟨_, rfl, ?_⟩
 have H := H.same H'; clear H'
 refine s_run rfl rfl (r_notT rfl) ?_
 refine k_nc ?_
 refine k_f rfl ?_
 refine k_skip ?_
 refine c_norm ?_
 refine k_seq ?_
 refine k_seq ?_
 refine k_cut (fun f W => ∃ b, f 0 = .int .u8 bl ∧ f 1 = .slice A n c ∧ f 2 = .slice FA fn fc ∧ f 22 = .bool (!b) ∧ (b = true → FewT us l) ∧ Heap w [] [] W) ?_ ?_
 ·refine k_rg ?_
  refine s_run rfl rfl (rms rfl) ?_
  refine s_run rfl rfl (rms rfl) ?_
  refine s_call rfl (hFw H.only) (ca19 rfl) ?_
  rintro e W1 ⟨b, rfl, hfew, H'⟩
  refine ⟨_, rfl, ?_⟩
  have H := H.same H'; clear H'
  refine s_run rfl rfl (r_not rfl) ?_
  refine k_nil ?_
  refine k_met ?_
  exact ⟨b, rfl, rfl, rfl, rfl, hfew, H⟩
 clear H
 rintro f W ⟨b, f0, f1, f2, f22, hfew, H⟩
 obtain ⟨f, rfl⟩ := live4 f0 f1 f2 f22
 clear f0 f1 f2 f22
 cases b with
 | false =>
  refine c_norm ?_
  refine k_t rfl ?_
  refine k_sg ?_
  refine s_run rfl rfl (rab rfl) ?_
  refine k_nc ?_
  refine k_ret ?_
  refine c_ret ?_
  refine fin1r (v := .bool _) rfl rfl ?_
  exact ⟨rfl, H.below⟩
 | true =>
 obtain ⟨hn60, hf20, hnp, hlb⟩ := hfew rfl
 obtain ⟨B, hB⟩ : ∃ B : Nat, (B : Int) = 2 + bl % 4 := ⟨(2 + bl % 4).toNat, by omega⟩
 have hBb : 2 ≤ B ∧ B ≤ 5 := by omega
 have hMd := fun {W : World} (h : Only [] w W) => lMade bl hb A n c us W (hU.later h) hn (by omega) hnp B hB
 have hw := Md.mkW_w64 B (usOf us) (fun u hu x hx => by
  obtain ⟨v, hv, rfl⟩ := List.mem_map.1 hu
  exact (hnp v hv).2 x hx) n (by unfold usOf; rw [List.length_map]; omega)
 have hwl := Md.mkW_len B (usOf us) n
 generalize Md.mkW B (usOf us) n = ws at *
 refine c_norm ?_
 refine k_f rfl ?_
 refine k_skip ?_
 refine c_norm ?_
 refine k_sg ?_
 refine s_run rfl rfl (rmi rfl) ?_
 refine s_run rfl rfl (rms rfl) ?_
 refine s_call rfl (hMd H.only) (ca20 rfl) ?_
 rintro e W1 ⟨g, LA, lc, rfl, H'⟩
 refine ⟨_, rfl, ?_⟩
 have H0 := H.more (A := [grp _, _]) H'; clear H'; clear H; simp only [List.cons_append, List.nil_append] at H0; have H := Heap.nil W1
 refine s_run rfl rfl (rmt rfl) ?_
 refine s_run rfl rfl (r_ext (v := .pointer _) rfl rfl) ?_
 refine s_run rfl rfl (r_ext (v := .agg _) rfl rfl) ?_
 refine s_run rfl rfl (r_ext (v := .slice _ _ _) rfl rfl) ?_
 refine s_al H rfl inf48 ?_
 intro p8 _ H'; clear H; have H := H'; clear H'
 refine s_run rfl rfl (rap rfl) ?_
 refine s_sw H 0 rfl rfl rfl rfl rfl rfl rfl sz48 ?_
 clear H; intro _ H; simp only [jA, jB, jC, jD, jE, jF, jG, jH, jI, jJ, jK, Nat.reduceAdd] at H
 refine s_run rfl rfl (ras rfl) ?_
 refine k_nc ?_
 refine k_seq ?_
 obtain ⟨WB, rfl⟩ : ∃ X, X = W1 := ⟨W1, rfl⟩
 have hO0 := H0.only
 have hD : Ents (devL g (Nv.load ws (64 * B))) WB := H0.grp_ents 0 rfl
 have hS := hdrSees H0 1 rfl
 have hw2 : Ob.W64 (Nv.load ws (64 * B)).cache := hw
 have hl2 : (Nv.load ws (64 * B)).cache.length ≤ 1000000000 := by show ws.length ≤ _; omega
 have hok2 : Nv.Ok (Nv.load ws (64 * B)) (64 * B) := load_ok (by omega)
 have hlast : (Nv.load ws (64 * B)).last = ws := rfl
 have hF1 := hF.later hO0 (by simp)
 have hDl := fun {W : World} (h : Only [] WB W) => (H0.same h).grp_ents 0 rfl
 have hk := Md.mkH_len B
 have hW := mkH_w B
 have hab : ∀ a ∈ l.map Md.adr, i64ok a := fun a ha => by
  obtain ⟨y, hy, rfl⟩ := List.mem_map.1 ha
  have := Md.adr_bd (hlb y hy)
  exact ⟨by omega, by omega⟩
 have hRt := fun {W : World} (h : Only [] WB W) => lRoots FA fn fc l W (hF1.later h (by simp)) hfl (by omega) hlb
 have hCl := fun {W : World} {RA : Option Addr} {rc : Nat} (h : Only [] WB W) (hF : Sees (Value.int .i64) W [] RA (l.map Md.adr)) => clU (n := B) (c := lc) (hDl h) hw2 hl2 (hS.later h (by simp)) hk (by omega) hW (by omega) RA fn rc (l.map Md.adr) hF (by rw [List.length_map]; exact hfl) (by omega) hab
 have hc2 : (Nv.load ws (64 * B)).cache = ws := rfl
 rw [hc2] at hCl
 refine k_cut (fun f W => ∃ A' m c' q, f 2 = .slice FA fn fc ∧ f 7 = ptr g.p ∧ f 10 = .slice A' m c' ∧ f 11 = .int .i64 q ∧ (q ≠ 0 ∨ q = 0 ∧ ClGood ws B (Md.mkH B) (l.map Md.adr) W A' m) ∧ Heap WB [] [] W) ?_ ?_
 ·refine k_trF mixed ?_; have H' := H.drew; clear H; have H := H'; clear H'
  refine tqn 0 rfl rfl rfl (fun _ hS => r_mv (v := .pointer _) rfl) trivial ?_
  refine tqn 2 rfl rfl rfl (fun _ hS => r_mv (v := .slice _ _ _) rfl) trivial ?_
  refine tqn 3 rfl rfl rfl (fun _ hS => r_mv (v := .slice _ _ _) rfl) trivial ?_
  refine t_up2 1 4 (by kernel_rfl) ?_ ?_
  ·refine up_mk rfl ?_
   refine s_run rfl rfl (r_la H 0 rfl rfl rfl ag48 sz48) ?_
   refine k_nil ?_
   refine t_on trivial ?_
   refine t_up1 4 (by kernel_rfl) ?_
   refine up_mk rfl ?_
   refine s_call rfl (hRt H.only) (ca28 rfl) ?_
   rintro e W1 ⟨RA, rc, rfl, H'⟩
   refine ⟨_, rfl, ?_⟩
   have H := H.more H'; clear H'; simp only [List.cons_append, List.nil_append] at H
   refine k_nil ?_
   refine t_on trivial ?_
   refine t_up1 5 (by kernel_rfl) ?_
   refine up_mk rfl ?_
   refine s_call rfl (hCl H.only (own_seesC H 0 rfl)) (ca27 rfl) ?_
   rintro e W1 ⟨A', m, c', q, rfl, hq, H'⟩
   refine ⟨_, rfl, ?_⟩
   have H := H.same H'; clear H'
   refine k_nil ?_
   refine t_on trivial ?_
   refine tqn 6 rfl rfl rfl (fun _ hS => r_mv (v := .tuple _) rfl) trivial ?_
   refine tqn 7 rfl rfl rfl (fun _ hS => r_ext (v := .slice _ _ _) rfl rfl) trivial ?_
   refine tqn 8 rfl rfl rfl (fun _ hS => r_ext (v := .int _ _) rfl rfl) trivial ?_
   refine tqn 9 rfl rfl rfl (fun _ hS => r_as (v := .slice _ _ _) rfl) trivial ?_
   refine tqn 10 rfl rfl rfl (fun _ hS => r_as (v := .int _ _) rfl) trivial ?_
   refine t_done (by kernel_rfl) ?_
   refine k_met ?_
   exact ⟨A', m, c', q, rfl, rfl, rfl, rfl, hq, H.clear⟩
  ·refine up_mk rfl ?_
   refine s_call rfl (hRt H.only) (ca28 rfl) ?_
   rintro e W1 ⟨RA, rc, rfl, H'⟩
   refine ⟨_, rfl, ?_⟩
   have H := H.more H'; clear H'; simp only [List.cons_append, List.nil_append] at H
   refine k_nil ?_
   refine t_on trivial ?_
   refine t_up1 1 (by kernel_rfl) ?_
   refine up_mk rfl ?_
   refine s_run rfl rfl (r_la H 1 rfl rfl rfl ag48 sz48) ?_
   refine k_nil ?_
   refine t_on trivial ?_
   refine t_up1 5 (by kernel_rfl) ?_
   refine up_mk rfl ?_
   refine s_call rfl (hCl H.only (own_seesC H 0 rfl)) (ca27 rfl) ?_
   rintro e W1 ⟨A', m, c', q, rfl, hq, H'⟩
   refine ⟨_, rfl, ?_⟩
   have H := H.same H'; clear H'
   refine k_nil ?_
   refine t_on trivial ?_
   refine tqn 6 rfl rfl rfl (fun _ hS => r_mv (v := .tuple _) rfl) trivial ?_
   refine tqn 7 rfl rfl rfl (fun _ hS => r_ext (v := .slice _ _ _) rfl rfl) trivial ?_
   refine tqn 8 rfl rfl rfl (fun _ hS => r_ext (v := .int _ _) rfl rfl) trivial ?_
   refine tqn 9 rfl rfl rfl (fun _ hS => r_as (v := .slice _ _ _) rfl) trivial ?_
   refine tqn 10 rfl rfl rfl (fun _ hS => r_as (v := .int _ _) rfl) trivial ?_
   refine t_done (by kernel_rfl) ?_
   refine k_met ?_
   exact ⟨A', m, c', q, rfl, rfl, rfl, rfl, hq, H.clear⟩
 clear H hCl
 rintro f W ⟨A', m, c', q, f2, f7, f10, f11, hq, H⟩
 obtain ⟨f, rfl⟩ := live4 f2 f7 f10 f11
 clear f2 f7 f10 f11
 by_cases hq0 : q ≠ 0
 ·refine c_norm ?_
  refine k_seq ?_
  refine k_sg ?_
  refine s_run rfl rfl (rmi rfl) ?_
  refine s_run rfl rfl (r_neqT rfl rfl (by omega)) ?_
  refine k_nc ?_
  refine k_t rfl ?_
  refine k_sg ?_
  refine s_run rfl rfl (rab rfl) ?_
  refine k_nc ?_
  refine k_ret ?_
  refine c_ret ?_
  refine fin1r (v := .bool _) rfl rfl ?_
  exact ⟨rfl, (hO0.trans H.only).below⟩
 obtain ⟨rfl, N, s, hs, hN1, hop, hbad, rfl, hSA⟩ := hq.resolve_left hq0
 have hokN := ((Tr.ok0 (Ob.pl B ws (Md.mkH B))).rootsTo (l.map Md.adr) (l.map Md.adr).length).steps (pt := Ob.ptrs ws) N
 have hroots := Tr.roots_all (Ob.pl B ws (Md.mkH B)) Tr.s0 (l.map Md.adr) (l.map Md.adr).length (Tr.steps_badE _ (Ob.ptrs ws) _ N (by rw [← hs]; exact hbad))
 have hcl := Tr.steps_closed (Ob.pl B ws (Md.mkH B)) (Ob.ptrs ws) _ (Tr.roots_open (Ob.pl B ws (Md.mkH B)) (l.map Md.adr) (l.map Md.adr).length) N hN1 (by rw [← hs]; exact hbad)
 have hled := Tr.steps_led (pt := Ob.ptrs ws) (l := l.map Md.adr) ((Tr.ok0 (Ob.pl B ws (Md.mkH B))).rootsTo (l.map Md.adr) (l.map Md.adr).length) (fun x hx => .inl (Tr.roots_led (Ob.pl B ws (Md.mkH B)) (Ob.ptrs ws) (l.map Md.adr) _ (Nat.le_refl _) x hx)) N hN1
 have hsub := Tr.steps_sub (Ob.pl B ws (Md.mkH B)) (Ob.ptrs ws) (Tr.rootsTo (Ob.pl B ws (Md.mkH B)) Tr.s0 (l.map Md.adr) (l.map Md.adr).length) 0 N
 rw [Nat.zero_add] at hsub
 rw [← hs] at hokN hcl hled hsub
 have hln := trLen hokN
 obtain ⟨ALL, hALL⟩ : ∃ ALL, srt s.seen = ALL := ⟨_, rfl⟩
 have hAl : ALL.length = s.seen.length := by rw [← hALL, srt_len]
 have hAs : ALL.Pairwise (· < ·) := by rw [← hALL]; exact srt_strict hokN.nd
 have hAm : ∀ y, y ∈ ALL ↔ y ∈ s.seen := fun y => by rw [← hALL]; exact (srt_perm _).mem_iff
 rw [hALL] at hSA
 have hplA : ∀ y ∈ ALL, 512 ≤ y ∧ y < 512 * (B : Int) ∧ Ob.hd ws y = true := fun y hy => Ob.pl_yes (hokN.pl y ((hAm y).1 hy))
 have hR1 : ∀ a ∈ l.map Md.adr, a = 0 ∨ a ∈ ALL := fun a ha => by
  obtain ⟨j, hj, rfl⟩ := List.mem_iff_getElem.1 ha
  have h1 := hroots j hj
  rw [List.getD_eq_getElem?_getD, List.getElem?_eq_getElem hj] at h1
  exact h1.imp id fun h2 => (hAm _).2 (hsub _ h2)
 have hR2 : ∀ y ∈ ALL, ∀ x ∈ Ob.ptrs ws y, x = 0 ∨ x ∈ ALL := fun y hy x hx => (hcl y ((hAm y).1 hy) (by rw [hop]; simp) x hx).imp id fun h2 => (hAm _).2 h2
 have hR3 : ∀ y ∈ ALL, y ∈ l.map Md.adr ∨ ∃ z ∈ ALL, y ∈ Ob.ptrs ws z := fun y hy => (hled y ((hAm y).1 hy)).imp id fun ⟨z, h1, h2⟩ => ⟨z, (hAm z).2 h1, h2⟩
 clear hroots hcl hled hsub hokN hN1
 generalize s.seen.length = M at *
 have hRt := fun {W : World} (h : Only [] WB W) => lRoots FA fn fc l W (hF1.later h (by simp)) hfl (by omega) hlb
 have hAll := fun {W : World} (h : Only [] WB W) => nAll g (Nv.load ws (64 * B)) (64 * B) W (hDl h) hok2 (by omega)
 rw [hlast] at hAll
 have hwl8 : ws.length = 8 * (64 * B) := by omega
 have hRL := fun {W : World} {A : Option Addr} {c : Nat} (hz : Sees (Value.int .u64) W [] A ws) => rLoad A (8 * (64 * B)) c ws [] W hz hwl8 (by omega) (by simp)
 have e1 : 8 * ((8 * (64 * B) + 7) / 8) - 8 * (64 * B) = 0 := by omega
 have e2 : (8 * (64 * B) + 7) / 8 = 64 * B := by omega
 rw [e1, e2, List.replicate_zero, List.append_nil] at hRL
 have hOW := H.only
 obtain ⟨WC, rfl⟩ : ∃ X, X = W := ⟨W, rfl⟩
 clear H
 have H := Heap.nil WC
 refine c_norm ?_
 refine k_seq ?_
 refine k_sg ?_
 refine s_run rfl rfl (rmi rfl) ?_
 refine s_run rfl rfl (r_neqF rfl rfl (by omega)) ?_
 refine k_nc ?_
 refine k_f rfl ?_
 refine k_skip ?_
 refine c_norm ?_
 refine k_sg ?_
 refine s_run rfl rfl (rmp rfl) ?_
 refine s_call rfl (hAll (hOW.trans H.only)) (ca30 rfl) ?_
 rintro e W1 ⟨ab, ac, rfl, hac, H'⟩
 refine ⟨_, rfl, ?_⟩
 have H := H.more H'; clear H'; simp only [List.cons_append, List.nil_append] at H
 refine s_call rfl (hRL (H.sees 0 rfl (by simp) (m := 1) (fun _ => rfl) (fun _ => by omega))) (ca29 rfl) ?_
 rintro e W1 ⟨rs, rfl, H', hRef⟩
 refine ⟨_, rfl, ?_⟩
 have hOD := (H.same H'.only).only; clear H' H; obtain ⟨WD, rfl⟩ : ∃ X, X = W1 := ⟨W1, rfl⟩; have H := Heap.nil WD
 refine s_al H rfl inf64 ?_
 intro p12 _ H'; clear H; have H := H'; clear H'
 refine s_sw H 0 rfl rfl rfl rfl rfl rfl rfl sz64 ?_
 clear H; intro _ H; simp only [jA, jB, jC, jD, jE, jF, jG, jH, jI, jJ, jK, Nat.reduceAdd] at H
 refine k_nc ?_
 refine k_seq ?_
 have hSA2 := hSA.later hOD (by simp)
 have hPt := fun (y : Int) (hy : y ∈ ALL) {W : World} (h : Only [] WD W) => d15Ptrs (hRef.later h (by simp)) (by omega) hw2 y (hplA y hy).2.2
 rw [hc2] at hPt
 have hOA := (hO0.trans hOW).trans hOD
 refine k_rg ?_
 refine s_run rfl rfl (rms rfl) ?_
 refine s_call rfl (hRt ((hOW.trans hOD).trans H.only)) (ca28 rfl) ?_
 rintro e W1 ⟨EA, ec, rfl, H'⟩
 refine ⟨_, rfl, ?_⟩
 have H := H.more H'; clear H'; simp only [List.cons_append, List.nil_append] at H
 refine s_run rfl rfl (ras rfl) ?_
 refine k_nc ?_
 refine k_seq ?_
 refine k_sg ?_
 refine s_run rfl rfl (rai rfl) ?_
 refine k_nc ?_
 refine k_b ?_
 have hl0 : (l.map Md.adr).length = fn := by rw [List.length_map]; exact hfl
 refine k_loop (fun z f W => ∃ (i : Nat) (EA : Option Addr) (ec : Nat) (led : List Int), i ≤ M ∧ z = M - i ∧ led = l.map Md.adr ++ (ALL.take i).flatMap (Ob.ptrs ws) ∧ led.length ≤ 20 + 64 * i ∧ f 10 = .slice A' M c' ∧ f 12 = ptr p12 ∧ f 13 = .slice EA led.length ec ∧ f 14 = .int .i64 i ∧ Heap WD [] [ownN 1 (.slice EA led.length ec) led.length (led.map (Value.int .i64)) 3, blk p12 (refCells rs (Nv.load ws (64 * B)) (64 * B)) 64] W) M ⟨0, EA, ec, l.map Md.adr, by omega, rfl, by simp, by omega, rfl, rfl, by rw [hl0]; rfl, rfl, by rw [hl0]; exact H⟩ ?_
 clear H
 rintro z f W ⟨i, EA, ec, led, hi, rfl, hle, hll, f10, f12, f13, f14, H⟩
 obtain ⟨f, rfl⟩ := live4 f10 f12 f13 f14
 clear f10 f12 f13 f14
 by_cases hlt : i < M
 ·obtain ⟨y, hy⟩ : ∃ y, ALL[i]? = some y := ⟨_, List.getElem?_eq_getElem (by omega)⟩
  obtain ⟨b, o, rfl, _, hrd⟩ := hSA2 (by omega)
  have cy := hrd i y hy
  have hP := fun {W : World} (h : Only [] WD W) => hPt y (List.mem_of_getElem? hy) h
  have hpl63 : (Ob.ptrs ws y).length ≤ 63 := by
   unfold Ob.ptrs; rw [Ob.ptrsTo_len]; have := Ob.hp_bd hw y; omega
  have hst : led ++ Ob.ptrs ws y = l.map Md.adr ++ (ALL.take (i + 1)).flatMap (Ob.ptrs ws) := by
   rw [hle, ← tk_snoc hy, List.flatMap_append, List.append_assoc]; simp
  generalize Ob.ptrs ws y = PL at *
  refine k_seq ?_
  refine k_sg ?_
  refine s_run rfl rfl (rmi rfl) ?_
  refine s_run rfl rfl (rms rfl) ?_
  refine s_run rfl rfl (r_len rfl Try.underlying25) ?_
  refine s_run rfl rfl (r_lssT rfl rfl (by omega)) ?_
  refine k_nc ?_
  refine k_t rfl ?_
  refine k_skip ?_
  refine c_norm ?_
  refine k_seq ?_
  refine k_b ?_
  refine k_trF mixed ?_; have H' := H.drew; clear H; have H := H'; clear H'
  refine tqh 0 rfl rfl rfl (fun _ hS => r_mv (v := .slice _ _ _) rfl) trivial ?_
  refine tqh 2 rfl rfl rfl (fun _ hS => r_mv (v := .slice _ _ _) rfl) trivial ?_
  refine tqh 3 rfl rfl rfl (fun _ hS => r_mv (v := .int _ _) rfl) trivial ?_
  refine tqh 4 rfl rfl rfl (fun _ hS => r_ix1o (i := i) rfl rfl (by omega) (by omega) Try.underlying25 sz3) trivial ?_
  refine t_up2 1 5 (by kernel_rfl) ?_ ?_
  ·refine up_mk rfl ?_
   refine s_run rfl rfl (r_la H 1 rfl rfl rfl ag64 sz64) ?_
   refine k_nil ?_
   refine t_on trivial ?_
   refine t_up1 5 (by kernel_rfl) ?_
   refine up_mk rfl ?_
   refine s_run rfl rfl (r_lr H rfl cy (by simp) ag3) ?_
   refine k_nil ?_
   refine t_on trivial ?_
   refine t_up1 6 (by kernel_rfl) ?_
   refine up_mk rfl ?_
   refine s_call rfl (hP H.only) (ca31 rfl) ?_
   rintro e W1 ⟨PA, pc, rfl, H'⟩
   refine ⟨_, rfl, ?_⟩
   have H := H.more H'; clear H'; simp only [List.cons_append, List.nil_append] at H
   refine k_nil ?_
   refine t_on trivial ?_
   refine t_up1 7 (by kernel_rfl) ?_
   refine up_mk rfl ?_
   refine s_apW (enc := (Value.int .i64)) H 1 rfl rfl rfl rfl ((own_seesC H 0 rfl)) (rfl) (fun _ => rfl) (by omega) Try.underlying25 inf3 rfl ?_
   intro A7 c7 _ H'; simp only [List.set_cons_zero, List.set_cons_succ, List.take_succ_cons, List.take_zero, List.drop_succ_cons, List.drop_zero, List.cons_append, List.nil_append, List.append_nil, List.length_cons, List.length_nil, Nat.reduceAdd] at H'; clear H; have H := H'; clear H'
   refine k_nil ?_
   refine t_on trivial ?_
   refine tqh 8 rfl rfl rfl (fun _ hS => r_as (v := .slice _ _ _) rfl) trivial ?_
   refine t_done (by kernel_rfl) ?_
   refine b_norm ?_
   refine c_norm ?_
   refine k_rg ?_
   refine s_run rfl rfl (rmi rfl) ?_
   refine s_run rfl rfl (r_add rfl rfl (wI (by omega))) ?_
   refine s_run rfl rfl (rai rfl) ?_
   refine k_nil ?_
   refine c_round ?_
   exact ⟨_, _, by omega, rfl, i + 1, A7, c7, led ++ PL, by omega, rfl, hst, by rw [List.length_append]; omega, rfl, rfl, by rw [List.length_append]; rfl, rfl, by rw [List.length_append]; exact H.drop⟩
  ·refine up_mk rfl ?_
   refine s_run rfl rfl (r_lr H rfl cy (by simp) ag3) ?_
   refine k_nil ?_
   refine t_on trivial ?_
   refine t_up1 1 (by kernel_rfl) ?_
   refine up_mk rfl ?_
   refine s_run rfl rfl (r_la H 1 rfl rfl rfl ag64 sz64) ?_
   refine k_nil ?_
   refine t_on trivial ?_
   refine t_up1 6 (by kernel_rfl) ?_
   refine up_mk rfl ?_
   refine s_call rfl (hP H.only) (ca31 rfl) ?_
   rintro e W1 ⟨PA, pc, rfl, H'⟩
   refine ⟨_, rfl, ?_⟩
   have H := H.more H'; clear H'; simp only [List.cons_append, List.nil_append] at H
   refine k_nil ?_
   refine t_on trivial ?_
   refine t_up1 7 (by kernel_rfl) ?_
   refine up_mk rfl ?_
   refine s_apW (enc := (Value.int .i64)) H 1 rfl rfl rfl rfl ((own_seesC H 0 rfl)) (rfl) (fun _ => rfl) (by omega) Try.underlying25 inf3 rfl ?_
   intro A7 c7 _ H'; simp only [List.set_cons_zero, List.set_cons_succ, List.take_succ_cons, List.take_zero, List.drop_succ_cons, List.drop_zero, List.cons_append, List.nil_append, List.append_nil, List.length_cons, List.length_nil, Nat.reduceAdd] at H'; clear H; have H := H'; clear H'
   refine k_nil ?_
   refine t_on trivial ?_
   refine tqh 8 rfl rfl rfl (fun _ hS => r_as (v := .slice _ _ _) rfl) trivial ?_
   refine t_done (by kernel_rfl) ?_
   refine b_norm ?_
   refine c_norm ?_
   refine k_rg ?_
   refine s_run rfl rfl (rmi rfl) ?_
   refine s_run rfl rfl (r_add rfl rfl (wI (by omega))) ?_
   refine s_run rfl rfl (rai rfl) ?_
   refine k_nil ?_
   refine c_round ?_
   exact ⟨_, _, by omega, rfl, i + 1, A7, c7, led ++ PL, by omega, rfl, hst, by rw [List.length_append]; omega, rfl, rfl, by rw [List.length_append]; rfl, rfl, by rw [List.length_append]; exact H.drop⟩
 obtain rfl : i = M := by omega
 rw [show ALL.take i = ALL by rw [← hAl]; exact List.take_length] at hle
 have hSo := fun {W : World} (hS : Sees (Value.int .i64) W [] EA led) => d19Sorted EA led.length ec led W hS rfl (by omega)
 refine k_seq ?_
 refine k_sg ?_
 refine s_run rfl rfl (rmi rfl) ?_
 refine s_run rfl rfl (rms rfl) ?_
 refine s_run rfl rfl (r_len rfl Try.underlying25) ?_
 refine s_run rfl rfl (r_lssF rfl rfl (by omega)) ?_
 refine k_nc ?_
 refine k_f rfl ?_
 refine k_exit ?_
 refine c_exit ?_
 refine c_exit ?_
 refine b_hit ?_
 refine c_norm ?_
 refine k_sg ?_
 refine s_run rfl rfl (rms rfl) ?_
 refine s_call rfl (hSo (own_seesC H 0 rfl)) (ca32 rfl) ?_
 rintro e W1 ⟨TA, tc, rfl, hST, H'⟩
 refine ⟨_, rfl, ?_⟩
 have hOE := (H.same H').only; clear H' H; obtain ⟨WE, rfl⟩ : ∃ X, X = W1 := ⟨W1, rfl⟩; have H := Heap.nil WE
 refine s_run rfl rfl (ras rfl) ?_
 refine k_nc ?_
 refine k_sg ?_
 refine s_run rfl rfl (rai rfl) ?_
 refine k_nc ?_
 refine k_seq ?_
 refine k_sg ?_
 refine s_run rfl rfl (rai rfl) ?_
 refine k_nc ?_
 refine k_b ?_
 have hSA3 := hSA2.later hOE (by simp)
 have hL1 : ∀ y ∈ srt led, y = 0 ∨ y ∈ ALL := fun y hy => by
  have h1 := (srt_perm led).mem_iff.1 hy
  rw [hle] at h1
  rcases List.mem_append.1 h1 with h2 | h2
  ·exact hR1 y h2
  ·obtain ⟨q, h3, h4⟩ := List.mem_flatMap.1 h2
   exact hR2 q h3 y h4
 have hL2 : ∀ y ∈ ALL, y ∈ srt led ∧ y ≠ 0 := fun y hy => ⟨(srt_perm led).mem_iff.2 (by
  rw [hle]
  rcases hR3 y hy with h1 | ⟨q, h1, h2⟩
  ·exact List.mem_append_left _ h1
  ·exact List.mem_append_right _ (List.mem_flatMap.2 ⟨q, h1, h2⟩)), by have := hplA y hy; omega⟩
 have hLs := srt_sorted led
 have hLm : (srt led).length ≤ 200000 := by rw [srt_len]; omega
 generalize srt led = LED at *
 refine k_loop (fun z f W => ∃ (j k : Nat), j ≤ LED.length ∧ k ≤ i ∧ z = LED.length - j ∧ Tr.Two LED ALL j k ∧ f 10 = .slice A' i c' ∧ f 13 = .slice TA LED.length tc ∧ f 15 = .int .i64 k ∧ f 16 = .int .i64 j ∧ Heap WE [] [] W) LED.length ⟨0, 0, by omega, by omega, rfl, Tr.Two.zero, rfl, rfl, rfl, rfl, H⟩ ?_
 clear H
 rintro z f W ⟨j, k, hj, hki, rfl, hT, f10, f13, f15, f16, H⟩
 obtain ⟨f, rfl⟩ := live4 f10 f13 f15 f16
 clear f10 f13 f15 f16
 by_cases hjl : j < LED.length
 ·obtain ⟨x, hx⟩ : ∃ x, LED[j]? = some x := ⟨_, List.getElem?_eq_getElem hjl⟩
  obtain ⟨tb, to, rfl, _, hrt⟩ := hST (by omega)
  have cx := hrt j x hx
  by_cases hx0 : x = 0
  ·subst hx0
   refine k_seq ?_
   refine k_sg ?_
   refine s_run rfl rfl (rmi rfl) ?_
   refine s_run rfl rfl (rms rfl) ?_
   refine s_run rfl rfl (r_len rfl Try.underlying25) ?_
   refine s_run rfl rfl (r_lssT rfl rfl (by omega)) ?_
   refine k_nc ?_
   refine k_t rfl ?_
   refine k_skip ?_
   refine c_norm ?_
   refine k_seq ?_
   refine k_b ?_
   refine k_seq ?_
   refine k_sg ?_
   refine s_run rfl rfl (rms rfl) ?_
   refine s_run rfl rfl (rmi rfl) ?_
   refine s_run rfl rfl (r_ix1o (i := j) rfl rfl (by omega) (by omega) Try.underlying25 sz3) ?_
   refine s_run rfl rfl (r_lr H rfl cx (by simp) ag3) ?_
   refine s_run rfl rfl (r_eqlT rfl rfl (by omega)) ?_
   refine k_nc ?_
   refine k_t rfl ?_
   refine k_exit ?_
   refine c_exit ?_
   refine b_hit ?_
   refine c_norm ?_
   refine k_rg ?_
   refine s_run rfl rfl (rmi rfl) ?_
   refine s_run rfl rfl (r_add rfl rfl (wI (by omega))) ?_
   refine s_run rfl rfl (rai rfl) ?_
   refine k_nil ?_
   refine c_round ?_
   exact ⟨_, _, by omega, rfl, j + 1, k, by omega, by omega, rfl, hT.skip hx (.inl rfl), rfl, rfl, rfl, rfl, H⟩
  ·have hi0 : i ≠ 0 := by
    have h1 := (hL1 x (List.mem_of_getElem? hx)).resolve_left hx0
    have h2 := List.length_pos_of_mem h1
    omega
   obtain ⟨ab2, ao, rfl, _, hra⟩ := hSA3 (by omega)
   by_cases hk0 : k = 0
   ·subst hk0
    have hka := hT.take hLs hAs hL1 hL2 hx hx0 (fun z h => by omega) (by omega)
    have hk2 : 0 < i := by omega
    have ca := hra 0 x hka
    refine k_seq ?_
    refine k_sg ?_
    refine s_run rfl rfl (rmi rfl) ?_
    refine s_run rfl rfl (rms rfl) ?_
    refine s_run rfl rfl (r_len rfl Try.underlying25) ?_
    refine s_run rfl rfl (r_lssT rfl rfl (by omega)) ?_
    refine k_nc ?_
    refine k_t rfl ?_
    refine k_skip ?_
    refine c_norm ?_
    refine k_seq ?_
    refine k_b ?_
    refine k_seq ?_
    refine k_sg ?_
    refine s_run rfl rfl (rms rfl) ?_
    refine s_run rfl rfl (rmi rfl) ?_
    refine s_run rfl rfl (r_ix1o (i := j) rfl rfl (by omega) (by omega) Try.underlying25 sz3) ?_
    refine s_run rfl rfl (r_lr H rfl cx (by simp) ag3) ?_
    refine s_run rfl rfl (r_eqlF rfl rfl (by omega)) ?_
    refine k_nc ?_
    refine k_f rfl ?_
    refine k_skip ?_
    refine c_norm ?_
    refine k_seq ?_
    refine k_seq ?_
    refine k_q mixed (by kernel_rfl) H ?_
    refine q_run rfl rfl (fun _ H => r_mv (v := .int _ _) rfl) ?_
    refine q_run rfl rfl (fun _ H => r_gtrF rfl rfl (by omega)) ?_
    refine q_run rfl rfl (fun _ H => r_mv (v := .bool _) rfl) ?_
    refine q_off rfl (g_off 75 (by kernel_rfl) rfl rfl) ?_
    refine q_off rfl (g_off 75 (by kernel_rfl) rfl rfl) ?_
    refine q_off rfl (g_off 75 (by kernel_rfl) rfl rfl) ?_
    refine q_off rfl (g_off 75 (by kernel_rfl) rfl rfl) ?_
    refine q_off rfl (g_off 75 (by kernel_rfl) rfl rfl) ?_
    refine q_off rfl (g_off 75 (by kernel_rfl) rfl rfl) ?_
    refine q_off rfl (g_off 75 (by kernel_rfl) rfl rfl) ?_
    refine q_off rfl (g_off 75 (by kernel_rfl) rfl rfl) ?_
    refine q_off rfl (g_off 75 (by kernel_rfl) rfl rfl) ?_
    refine q_off rfl (g_off 75 (by kernel_rfl) rfl rfl) ?_
    refine q_run rfl rfl (fun _ H => r_pkF (v := .bool _) rfl rfl) ?_
    refine q_nil ?_
    intro _ H'; clear H; have H := H'; clear H'
    refine c_norm ?_
    refine k_f rfl ?_
    refine k_skip ?_
    refine c_norm ?_
    refine k_seq ?_
    refine k_seq ?_
    refine k_q mixed (by kernel_rfl) H ?_
    refine q_run rfl rfl (fun _ H => r_mv (v := .int _ _) rfl) ?_
    refine q_run rfl rfl (fun _ H => r_mv (v := .slice _ _ _) rfl) ?_
    refine q_run rfl rfl (fun _ H => r_len rfl Try.underlying25) ?_
    refine q_run rfl rfl (fun _ H => r_geqF rfl rfl (by omega)) ?_
    refine q_run rfl rfl (fun _ H => r_mv (v := .bool _) rfl) ?_
    refine q_run rfl (g_on 91 (by kernel_rfl) rfl) (fun _ H => r_mv (v := .slice _ _ _) rfl) ?_
    refine q_run rfl (g_on 91 (by kernel_rfl) rfl) (fun _ H => r_mv (v := .int _ _) rfl) ?_
    refine q_run rfl (g_on 91 (by kernel_rfl) rfl) (fun _ H => r_ix1o (i := 0) rfl rfl (by omega) (by omega) Try.underlying25 sz3) ?_
    refine q_run rfl (g_on 91 (by kernel_rfl) rfl) (fun _ H => r_lr H rfl ca (by simp) ag3) ?_
    refine q_run rfl (g_on 91 (by kernel_rfl) rfl) (fun _ H => r_mv (v := .slice _ _ _) rfl) ?_
    refine q_run rfl (g_on 91 (by kernel_rfl) rfl) (fun _ H => r_mv (v := .int _ _) rfl) ?_
    refine q_run rfl (g_on 91 (by kernel_rfl) rfl) (fun _ H => r_ix1o (i := j) rfl rfl (by omega) (by omega) Try.underlying25 sz3) ?_
    refine q_run rfl (g_on 91 (by kernel_rfl) rfl) (fun _ H => r_lr H rfl cx (by simp) ag3) ?_
    refine q_run rfl (g_on 91 (by kernel_rfl) rfl) (fun _ H => r_neqF rfl rfl (by omega)) ?_
    refine q_run rfl rfl (fun _ H => r_pkF (v := .bool _) rfl rfl) ?_
    refine q_nil ?_
    intro _ H'; clear H; have H := H'; clear H'
    refine c_norm ?_
    refine k_f rfl ?_
    refine k_skip ?_
    refine c_norm ?_
    refine k_rg ?_
    refine s_run rfl rfl (rmi rfl) ?_
    refine s_run rfl rfl (r_add rfl rfl (wI (by omega))) ?_
    refine s_run rfl rfl (rai rfl) ?_
    refine k_nil ?_
    refine b_norm ?_
    refine c_norm ?_
    refine k_rg ?_
    refine s_run rfl rfl (rmi rfl) ?_
    refine s_run rfl rfl (r_add rfl rfl (wI (by omega))) ?_
    refine s_run rfl rfl (rai rfl) ?_
    refine k_nil ?_
    refine c_round ?_
    exact ⟨_, _, by omega, rfl, j + 1, 0 + 1, by omega, by omega, rfl, hT.next hx hka, rfl, rfl, rfl, rfl, H⟩
   ·obtain ⟨y, hy⟩ : ∃ y, ALL[k - 1]? = some y := ⟨_, List.getElem?_eq_getElem (by omega)⟩
    have cy := hra (k - 1) y hy
    by_cases hyx : y = x
    ·subst hyx
     refine k_seq ?_
     refine k_sg ?_
     refine s_run rfl rfl (rmi rfl) ?_
     refine s_run rfl rfl (rms rfl) ?_
     refine s_run rfl rfl (r_len rfl Try.underlying25) ?_
     refine s_run rfl rfl (r_lssT rfl rfl (by omega)) ?_
     refine k_nc ?_
     refine k_t rfl ?_
     refine k_skip ?_
     refine c_norm ?_
     refine k_seq ?_
     refine k_b ?_
     refine k_seq ?_
     refine k_sg ?_
     refine s_run rfl rfl (rms rfl) ?_
     refine s_run rfl rfl (rmi rfl) ?_
     refine s_run rfl rfl (r_ix1o (i := j) rfl rfl (by omega) (by omega) Try.underlying25 sz3) ?_
     refine s_run rfl rfl (r_lr H rfl cx (by simp) ag3) ?_
     refine s_run rfl rfl (r_eqlF rfl rfl (by omega)) ?_
     refine k_nc ?_
     refine k_f rfl ?_
     refine k_skip ?_
     refine c_norm ?_
     refine k_seq ?_
     refine k_seq ?_
     refine k_q mixed (by kernel_rfl) H ?_
     refine q_run rfl rfl (fun _ H => r_mv (v := .int _ _) rfl) ?_
     refine q_run rfl rfl (fun _ H => r_gtrT rfl rfl (by omega)) ?_
     refine q_run rfl rfl (fun _ H => r_mv (v := .bool _) rfl) ?_
     refine q_run rfl (g_on 75 (by kernel_rfl) rfl) (fun _ H => r_mv (v := .slice _ _ _) rfl) ?_
     refine q_run rfl (g_on 75 (by kernel_rfl) rfl) (fun _ H => r_mv (v := .int _ _) rfl) ?_
     refine q_run rfl (g_on 75 (by kernel_rfl) rfl) (fun _ H => r_sub rfl rfl (wI (by omega))) ?_
     refine q_run rfl (g_on 75 (by kernel_rfl) rfl) (fun _ H => r_ix1o (i := (k - 1)) rfl rfl (by omega) (by omega) Try.underlying25 sz3) ?_
     refine q_run rfl (g_on 75 (by kernel_rfl) rfl) (fun _ H => r_lr H rfl cy (by simp) ag3) ?_
     refine q_run rfl (g_on 75 (by kernel_rfl) rfl) (fun _ H => r_mv (v := .slice _ _ _) rfl) ?_
     refine q_run rfl (g_on 75 (by kernel_rfl) rfl) (fun _ H => r_mv (v := .int _ _) rfl) ?_
     refine q_run rfl (g_on 75 (by kernel_rfl) rfl) (fun _ H => r_ix1o (i := j) rfl rfl (by omega) (by omega) Try.underlying25 sz3) ?_
     refine q_run rfl (g_on 75 (by kernel_rfl) rfl) (fun _ H => r_lr H rfl cx (by simp) ag3) ?_
     refine q_run rfl (g_on 75 (by kernel_rfl) rfl) (fun _ H => r_eqlT rfl rfl (by omega)) ?_
     refine q_run rfl rfl (fun _ H => r_pkT (v := .bool _) rfl rfl) ?_
     refine q_nil ?_
     intro _ H'; clear H; have H := H'; clear H'
     refine c_norm ?_
     refine k_t rfl ?_
     refine k_exit ?_
     refine c_exit ?_
     refine b_hit ?_
     refine c_norm ?_
     refine k_rg ?_
     refine s_run rfl rfl (rmi rfl) ?_
     refine s_run rfl rfl (r_add rfl rfl (wI (by omega))) ?_
     refine s_run rfl rfl (rai rfl) ?_
     refine k_nil ?_
     refine c_round ?_
     exact ⟨_, _, by omega, rfl, j + 1, k, by omega, by omega, rfl, hT.skip hx (.inr ⟨k - 1, by omega, hy⟩), rfl, rfl, rfl, rfl, H⟩
    ·have hka := hT.take hLs hAs hL1 hL2 hx hx0 (fun z h h2 e => hyx (by rw [hy] at h2; injection h2 with h2; rw [h2, e])) (by omega)
     have hk2 : k < i := by have := (List.getElem?_eq_some_iff.1 hka).1; omega
     have ca := hra k x hka
     refine k_seq ?_
     refine k_sg ?_
     refine s_run rfl rfl (rmi rfl) ?_
     refine s_run rfl rfl (rms rfl) ?_
     refine s_run rfl rfl (r_len rfl Try.underlying25) ?_
     refine s_run rfl rfl (r_lssT rfl rfl (by omega)) ?_
     refine k_nc ?_
     refine k_t rfl ?_
     refine k_skip ?_
     refine c_norm ?_
     refine k_seq ?_
     refine k_b ?_
     refine k_seq ?_
     refine k_sg ?_
     refine s_run rfl rfl (rms rfl) ?_
     refine s_run rfl rfl (rmi rfl) ?_
     refine s_run rfl rfl (r_ix1o (i := j) rfl rfl (by omega) (by omega) Try.underlying25 sz3) ?_
     refine s_run rfl rfl (r_lr H rfl cx (by simp) ag3) ?_
     refine s_run rfl rfl (r_eqlF rfl rfl (by omega)) ?_
     refine k_nc ?_
     refine k_f rfl ?_
     refine k_skip ?_
     refine c_norm ?_
     refine k_seq ?_
     refine k_seq ?_
     refine k_q mixed (by kernel_rfl) H ?_
     refine q_run rfl rfl (fun _ H => r_mv (v := .int _ _) rfl) ?_
     refine q_run rfl rfl (fun _ H => r_gtrT rfl rfl (by omega)) ?_
     refine q_run rfl rfl (fun _ H => r_mv (v := .bool _) rfl) ?_
     refine q_run rfl (g_on 75 (by kernel_rfl) rfl) (fun _ H => r_mv (v := .slice _ _ _) rfl) ?_
     refine q_run rfl (g_on 75 (by kernel_rfl) rfl) (fun _ H => r_mv (v := .int _ _) rfl) ?_
     refine q_run rfl (g_on 75 (by kernel_rfl) rfl) (fun _ H => r_sub rfl rfl (wI (by omega))) ?_
     refine q_run rfl (g_on 75 (by kernel_rfl) rfl) (fun _ H => r_ix1o (i := (k - 1)) rfl rfl (by omega) (by omega) Try.underlying25 sz3) ?_
     refine q_run rfl (g_on 75 (by kernel_rfl) rfl) (fun _ H => r_lr H rfl cy (by simp) ag3) ?_
     refine q_run rfl (g_on 75 (by kernel_rfl) rfl) (fun _ H => r_mv (v := .slice _ _ _) rfl) ?_
     refine q_run rfl (g_on 75 (by kernel_rfl) rfl) (fun _ H => r_mv (v := .int _ _) rfl) ?_
     refine q_run rfl (g_on 75 (by kernel_rfl) rfl) (fun _ H => r_ix1o (i := j) rfl rfl (by omega) (by omega) Try.underlying25 sz3) ?_
     refine q_run rfl (g_on 75 (by kernel_rfl) rfl) (fun _ H => r_lr H rfl cx (by simp) ag3) ?_
     refine q_run rfl (g_on 75 (by kernel_rfl) rfl) (fun _ H => r_eqlF rfl rfl (by omega)) ?_
     refine q_run rfl rfl (fun _ H => r_pkT (v := .bool _) rfl rfl) ?_
     refine q_nil ?_
     intro _ H'; clear H; have H := H'; clear H'
     refine c_norm ?_
     refine k_f rfl ?_
     refine k_skip ?_
     refine c_norm ?_
     refine k_seq ?_
     refine k_seq ?_
     refine k_q mixed (by kernel_rfl) H ?_
     refine q_run rfl rfl (fun _ H => r_mv (v := .int _ _) rfl) ?_
     refine q_run rfl rfl (fun _ H => r_mv (v := .slice _ _ _) rfl) ?_
     refine q_run rfl rfl (fun _ H => r_len rfl Try.underlying25) ?_
     refine q_run rfl rfl (fun _ H => r_geqF rfl rfl (by omega)) ?_
     refine q_run rfl rfl (fun _ H => r_mv (v := .bool _) rfl) ?_
     refine q_run rfl (g_on 91 (by kernel_rfl) rfl) (fun _ H => r_mv (v := .slice _ _ _) rfl) ?_
     refine q_run rfl (g_on 91 (by kernel_rfl) rfl) (fun _ H => r_mv (v := .int _ _) rfl) ?_
     refine q_run rfl (g_on 91 (by kernel_rfl) rfl) (fun _ H => r_ix1o (i := k) rfl rfl (by omega) (by omega) Try.underlying25 sz3) ?_
     refine q_run rfl (g_on 91 (by kernel_rfl) rfl) (fun _ H => r_lr H rfl ca (by simp) ag3) ?_
     refine q_run rfl (g_on 91 (by kernel_rfl) rfl) (fun _ H => r_mv (v := .slice _ _ _) rfl) ?_
     refine q_run rfl (g_on 91 (by kernel_rfl) rfl) (fun _ H => r_mv (v := .int _ _) rfl) ?_
     refine q_run rfl (g_on 91 (by kernel_rfl) rfl) (fun _ H => r_ix1o (i := j) rfl rfl (by omega) (by omega) Try.underlying25 sz3) ?_
     refine q_run rfl (g_on 91 (by kernel_rfl) rfl) (fun _ H => r_lr H rfl cx (by simp) ag3) ?_
     refine q_run rfl (g_on 91 (by kernel_rfl) rfl) (fun _ H => r_neqF rfl rfl (by omega)) ?_
     refine q_run rfl rfl (fun _ H => r_pkF (v := .bool _) rfl rfl) ?_
     refine q_nil ?_
     intro _ H'; clear H; have H := H'; clear H'
     refine c_norm ?_
     refine k_f rfl ?_
     refine k_skip ?_
     refine c_norm ?_
     refine k_rg ?_
     refine s_run rfl rfl (rmi rfl) ?_
     refine s_run rfl rfl (r_add rfl rfl (wI (by omega))) ?_
     refine s_run rfl rfl (rai rfl) ?_
     refine k_nil ?_
     refine b_norm ?_
     refine c_norm ?_
     refine k_rg ?_
     refine s_run rfl rfl (rmi rfl) ?_
     refine s_run rfl rfl (r_add rfl rfl (wI (by omega))) ?_
     refine s_run rfl rfl (rai rfl) ?_
     refine k_nil ?_
     refine c_round ?_
     exact ⟨_, _, by omega, rfl, j + 1, k + 1, by omega, by omega, rfl, hT.next hx hka, rfl, rfl, rfl, rfl, H⟩
 ·obtain rfl : j = LED.length := by omega
  have hkf := hT.fin hAs hL2 (by omega)
  refine k_seq ?_
  refine k_sg ?_
  refine s_run rfl rfl (rmi rfl) ?_
  refine s_run rfl rfl (rms rfl) ?_
  refine s_run rfl rfl (r_len rfl Try.underlying25) ?_
  refine s_run rfl rfl (r_lssF rfl rfl (by omega)) ?_
  refine k_nc ?_
  refine k_f rfl ?_
  refine k_exit ?_
  refine c_exit ?_
  refine c_exit ?_
  refine b_hit ?_
  refine c_norm ?_
  refine k_sg ?_
  refine s_run rfl rfl (rmi rfl) ?_
  refine s_run rfl rfl (rms rfl) ?_
  refine s_run rfl rfl (r_len rfl Try.underlying25) ?_
  refine s_run rfl rfl (r_eqlT rfl rfl (by omega)) ?_
  refine s_run rfl rfl (rab rfl) ?_
  refine k_nc ?_
  refine k_ret ?_
  refine fin1r (v := .bool _) rfl rfl ?_
  exact ⟨rfl, (hOA.trans (hOE.trans H.only)).below⟩
end Go.Proofs.Ytlakbclnilakbaa
end

section
namespace Go.Proofs.Ytlakbclnilakbaa.lTraceClosed
open Go.ChangeShapes Go.WideShapes Go.ChangeAt Go.RowKit
theorem own : ownKnob Try.prog.godebug = none := by kernel_rfl
theorem laidOut : laidOutB Try.prog = true := by kernel_rfl
set_option maxRecDepth 100000 in
theorem lifted (os : Os) (started : os.Started) (H : Type) (enc : TypeId × Value → H) :
  ReturnsInHanded {} Try.checked os 6 .any (Rows.traceClosedSpec.pre6 enc Try.prog Try.f6 Rows.traceClosedRow.domain false) (Rows.traceClosedSpec.post enc Try.prog Try.f6 false true false false) := by
 refine returnsInHanded_of_change (C := Try.checked) own started (by kernel_rfl) Try.func6
  (ChangeSpec.witness6 (enc := enc) (C := Try.checked) false ⟨#[], #[.int .u8 0, .slice none 0 0, .slice none 0 0], []⟩ 8 (by kernel_rfl) (by kernel_rfl) (by kernel_rfl) (by kernel_rfl)) ?_
 intro W base args ds gs before hval0 hW hcnd _
 have hval : ∀ (j : Nat) t v, Try.f6.params[j]? = some t → args[j]? = some v → Value.okWide Try.prog W .any base t v := hval0
 have hW' := hW
 obtain ⟨p, q, hA0, hV, rfl, hfz, hnd⟩ := hW
 have hA : DataW.TrodAll enc Try.prog W 0 (fun _ => true) true Try.f6.params.toList args.toList ds p := hA0
 rw [Try.params6] at hA hval
 obtain ⟨v0, vs0, d0, ds0, p0, q0, hargs, rfl, rfl, h0, r0⟩ := trodAll_cons hA
 obtain ⟨v1, vs1, d1, ds1, p1, q1, rfl, rfl, rfl, h1, r1⟩ := trodAll_cons r0
 obtain ⟨v2, vs2, d2, ds2, p2, q2, rfl, rfl, rfl, h2, r2⟩ := trodAll_cons r1
 obtain ⟨rfl, rfl, rfl⟩ := trodAll_nil r2
 obtain rfl : args = #[v0, v1, v2] := by cases args; simp_all
 obtain ⟨rfl, rfl⟩ := trodVars_none hV
 have k0 := h0
 have lt0 : ∀ x ∈ p0, x.block < W.heap.size := by obtain ⟨m, hm⟩ := k0; exact DataW.trod_lt m _ _ _ hm
 have k1 := h1
 have lt1 : ∀ x ∈ p1, x.block < W.heap.size := by obtain ⟨m, hm⟩ := k1; exact DataW.trod_lt m _ _ _ hm
 have k2 := h2
 have lt2 : ∀ x ∈ p2, x.block < W.heap.size := by obtain ⟨m, hm⟩ := k2; exact DataW.trod_lt m _ _ _ hm
 obtain ⟨a0, rfl, rfl, rfl, w0⟩ := open_int Try.underlying5 (hval 0 5 v0 rfl rfl) h0
 obtain ⟨x1, rfl, w1⟩ := opens_TNode W base v1 d1 p1 (hval 1 44 v1 rfl rfl) h1
 obtain ⟨a2, len2, cap2, rfl⟩ := okWide_slice Try.underlying25 (hval 2 25 v2 rfl rfl)
 obtain ⟨z2, w2⟩ := open_row Try.underlying25 Try.underlying3 (by kernel_rfl) h2
 clear hA0 hval0
 refine (walk_TraceClosed a0 x1 a2 len2 cap2 z2 W w0 w1 w2).mono fun e W' ⟨he, bel⟩ => ?_
 subst he
 exact ⟨_, rfl, _, _, _, [], _, [], hW', trodAll_mk1 (shut_bool Try.underlying4 _), (trodAll_cons_mk (Below.trod laidOut (by kernel_rfl) (of_decide_eq_true (by kernel_rfl)) k0 bel lt0) (trodAll_cons_mk (Below.trod laidOut (by kernel_rfl) (of_decide_eq_true (by kernel_rfl)) k1 bel lt1) (trodAll_cons_mk (Below.trod laidOut (by kernel_rfl) (of_decide_eq_true (by kernel_rfl)) k2 bel lt2) trodAll_mk0))), rfl, bel.frame _, fun h => by cases h⟩
theorem over : Rows.traceClosedRow.holds Try.pinned (OpenSpec.ofChange Rows.traceClosedSpec) :=
 OpenClaim.holds_of_wide 6 Try.f6 rfl rfl rfl rfl rfl rfl rfl ⟨rfl, rfl, rfl, rfl, rfl⟩ rfl rfl rfl rfl rfl (by kernel_rfl) Try.func6 (by kernel_rfl)
  (of_decide_eq_true (by kernel_rfl)) (by unfold Func.isWrapper; first | (rw [if_pos (by decide +kernel)]; kernel_rfl) | (rw [if_neg (by decide +kernel)]; exact ⟨rfl, rfl⟩))
  (fun os started H enc _ => lifted os started H enc)
theorem proved : Rows.TraceClosedSaid := over
#print axioms proved
end Go.Proofs.Ytlakbclnilakbaa.lTraceClosed
end
