/-
  FreeOnce: for every input the Go function answers true, and its arguments read afterwards as they read before. No condition.
-/
import Derived.Test.YtlakbclnilakbaaKFreeOnced
set_option linter.unusedSimpArgs false
set_option linter.unusedVariables false
set_option linter.unusedSectionVars false
section
namespace Go.Proofs.Ytlakbclnilakbaa
open Go.RowKit
set_option maxRecDepth 100000
set_option maxHeartbeats 4000000
theorem liveF9 {f : Nat → Value} {k1 k2 k3 k4 k5 k6 k7 k8 k9 : Nat} {v1 v2 v3 v4 v5 v6 v7 v8 v9 : Value} (h1 : f k1 = v1) (h2 : f k2 = v2) (h3 : f k3 = v3) (h4 : f k4 = v4) (h5 : f k5 = v5) (h6 : f k6 = v6) (h7 : f k7 = v7) (h8 : f k8 = v8) (h9 : f k9 = v9) : ∃ g, f = upd (upd (upd (upd (upd (upd (upd (upd (upd g k1 v1) k2 v2) k3 v3) k4 v4) k5 v5) k6 v6) k7 v7) k8 v8) k9 v9 := ⟨f, by rw [upd_same h1, upd_same h2, upd_same h3, upd_same h4, upd_same h5, upd_same h6, upd_same h7, upd_same h8, upd_same h9]⟩
theorem fRem5 (S : FrS) (k : Nat) (fr to : Int) {M : Nat} (hM : M < 5) : fRemN S k fr to 5 (k * 5 + M) = stay fr to (S (k * 5 + M)) := by
 unfold fRemN; rw [if_pos ⟨by omega, by omega⟩]
theorem preTo_stay (S : FrS) (k : Nat) (fr to : Int) : ∀ M, M ≤ 5 → (preTo (fRemN S k fr to 5) k M).length ≤ (preTo S k M).length
 | 0, _ => Nat.le_refl _
 | M + 1, h => by
  have h1 := preTo_stay S k fr to M (by omega)
  have h2 := stay_len fr to (S (k * 5 + M))
  rw [preTo, preTo, List.length_append, List.length_append, fRem5 _ _ _ _ (by omega)]
  omega
theorem dsM {k M : Nat} (hk : k < 32) (hm : M < 5) (E : Nat → RowS) (r : RowS) : (fC E).set (0 + k * 5 + M) (.slice r.A r.n r.c) = fC (updR E (k * 5 + M) r) := fC_set (D := E) hk hm
theorem dRemove {K : List Nat} {D : Nat → RowS} {N : Nat} {w : World} (hD : DOk K w D N) (hN : N ≤ 9000) (hK : ∀ i ∈ K, i < w.heap.size) (k fr to : Int) :
  Calls Try.prog 80 [fV D, .int .i64 k, .int .i64 fr, .int .i64 to].toArray w fun e w' => ∃ D', e = .returned (.tuple [fV D', .int .i64 (fRemove (xsOf D) k fr to).2].toArray) ∧ xsOf D' = (fRemove (xsOf D) k fr to).1 ∧ DOk K w' D' N ∧ Only [] w w' := by
 have H := Heap.nil w
 have hC := fun W => dClass k W
 unfold fRemove fV at *
 cases hk : isC k with
 | false =>
  simp only [hk] at hC
  rw [if_pos rfl]
  refine k_in (N := 65) Try.func80 rfl rfl rfl ?_
  refine k_sg ?_
  refine s_box H rfl rfl ?_
  intro p4 _ H'; clear H; have H := H'; clear H'
  refine s_al H rfl inf29 ?_
  intro p8 _ H'; clear H; have H := H'; clear H'
  refine s_run rfl rfl (rai rfl) ?_
  refine k_nc ?_
  refine k_sg ?_
  refine s_run rfl rfl (rai rfl) ?_
  refine k_nc ?_
  refine k_seq ?_
  refine k_sg ?_
  refine s_run rfl rfl (rai rfl) ?_
  refine k_nc ?_
  refine k_b ?_
  refine k_loop (fun z f W => f 1 = .int .i64 k ∧ f 4 = ptrF p4 ∧ f 8 = ptrF p8 ∧ f 10 = .int .i64 0 ∧ f 11 = .int .i64 0 ∧ Heap w [] [blk p8 (fC fun _ => RowS.nil) 29, blk p4 (fC D) 29] W) 0 ⟨rfl, rfl, rfl, rfl, rfl, H⟩ ?_
  clear H
  rintro z f W ⟨f1, f4, f8, f10, f11, H⟩
  obtain ⟨f, rfl⟩ := live5 f1 f4 f8 f10 f11
  clear f1 f4 f8 f10 f11
  refine k_seq ?_
  refine k_sg ?_
  refine s_run rfl rfl (rmi rfl) ?_
  refine s_call rfl (hC _) (ca56 rfl) ?_
  rintro e W1 ⟨rfl, H'⟩
  refine ⟨_, rfl, ?_⟩
  have H := H.same H'; clear H'
  refine s_run rfl rfl (rmb rfl) ?_
  refine s_off rfl (g_off 17 (by kernel_rfl) rfl rfl) ?_
  refine s_off rfl (g_off 17 (by kernel_rfl) rfl rfl) ?_
  refine s_run rfl rfl (r_pkF (v := .bool _) rfl rfl) ?_
  refine k_nc ?_
  refine k_f rfl ?_
  refine k_exit ?_
  refine c_exit ?_
  refine c_exit ?_
  refine b_hit ?_
  refine c_norm ?_
  refine k_sg ?_
  refine s_run rfl rfl (r_la H 1 rfl rfl (fC_len _) ag29 sz29) ?_
  refine s_run rfl rfl (rmi rfl) ?_
  refine s_sw H 0 rfl rfl rfl rfl rfl rfl rfl sz29 ?_
  clear H; intro _ H; simp only [jA, jB, jC, jD, jE, jF, jG, jH, jI, jJ, jK, Nat.reduceAdd] at H
  refine s_run rfl rfl (rai rfl) ?_
  refine k_nc ?_
  refine k_ret ?_
  refine fx2r rfl (rv_a H 0 rfl rfl rfl ag29 sz29) (rv_t (v := .int _ _) rfl) ?_
  exact ⟨D, rfl, rfl, hD.later H.only (by simp), H.only⟩
 | true =>
 simp only [hk] at hC
 rw [if_neg (by simp)]
 obtain ⟨k, rfl, hk32⟩ := isC_nat hk
 rw [Int.toNat_natCast]
 have hle : ∀ i, i < 160 → (xsOf D i).length ≤ N := fun i hi => by
  have h1 := hD.len i hi
  have h2 := hD.num i hi
  show (D i).xs.length ≤ N
  omega
 have hpl : ∀ M, M ≤ 5 → (preTo (xsOf D) k M).length ≤ 5 * N := fun M hM => Nat.le_trans (preTo_len (xsOf D) k N hle hk32 M hM) (Nat.mul_le_mul_right _ hM)
 refine k_in (N := 65) Try.func80 rfl rfl rfl ?_
 refine k_sg ?_
 refine s_box H rfl rfl ?_
 intro p4 _ H'; clear H; have H := H'; clear H'
 refine s_al H rfl inf29 ?_
 intro p8 _ H'; clear H; have H := H'; clear H'
 refine s_run rfl rfl (rai rfl) ?_
 refine k_nc ?_
 refine k_sg ?_
 refine s_run rfl rfl (rai rfl) ?_
 refine k_nc ?_
 refine k_seq ?_
 refine k_sg ?_
 refine s_run rfl rfl (rai rfl) ?_
 refine k_nc ?_
 refine k_b ?_
 have hDon := hD.on H (by simp)
 have hKon := on_lt hK H
 change DOk (K ++ [p8, p4]) _ _ _ at hDon
 change ∀ i ∈ K ++ [p8, p4], _ at hKon
 have hI2 : ∀ i ∈ [p8, p4], i ∈ K ++ [p8, p4] := fun i hi => List.mem_append_right _ hi
 refine k_loop (fun z f W => ∃ (M : Nat) (D' : Nat → RowS) (cnt : Int), M ≤ 5 ∧ z = 5 - M ∧ xsOf D' = fRemN (xsOf D) k fr to M ∧ cnt = ((preTo (xsOf D) k M).length : Int) - (preTo (fRemN (xsOf D) k fr to 5) k M).length ∧ DOk (K ++ [p8, p4]) W D' N ∧ (∀ i ∈ K ++ [p8, p4], i < W.heap.size) ∧ f 1 = .int .i64 k ∧ f 2 = .int .i64 fr ∧ f 3 = .int .i64 to ∧ f 4 = ptrF p4 ∧ f 8 = ptrF p8 ∧ f 10 = .int .i64 cnt ∧ f 11 = .int .i64 M ∧ Heap w [] [blk p8 (fC fun _ => RowS.nil) 29, blk p4 (fC D') 29] W) 5 ⟨0, D, 0, by omega, rfl, (fRemN_zero _ _ _ _).symm, by simp [preTo], hDon, hKon, rfl, rfl, rfl, rfl, rfl, rfl, rfl, H⟩ ?_
 clear H hDon hKon
 rintro z f W ⟨M, D', cnt, hM, rfl, hx, hcnt, hD', hKW, f1, f2, f3, f4, f8, f10, f11, HB⟩
 obtain ⟨f, rfl⟩ := liveF7 f1 f2 f3 f4 f8 f10 f11
 clear f1 f2 f3 f4 f8 f10 f11
 have H := Heap.start HB.ents
 have hp1 := hpl M hM
 have hp2 := preTo_stay (xsOf D) k fr to M hM
 by_cases hlt : M < 5
 ·have hgD := dgt (D := D') hk32 hlt
  have rlen := hD'.len (k * 5 + M) (by omega)
  have rnum := hD'.num (k * 5 + M) (by omega)
  have rsee := hD'.sees (k * 5 + M) (by omega)
  have hset := dsM (k := k) hk32 hlt D'
  obtain ⟨RA, rn, rc, R, hr⟩ : ∃ A n c xs, D' (k * 5 + M) = ⟨A, n, c, xs⟩ := ⟨_, _, _, _, rfl⟩
  rw [hr] at hgD rlen rnum rsee
  simp only at hgD rlen rnum rsee
  have hR : xsOf D (k * 5 + M) = R := by
   rw [← fRemN_at (xsOf D) k fr to M M ⟨Nat.le_refl _, hlt⟩, ← hx]
   show (D' (k * 5 + M)).xs = R
   rw [hr]
  refine k_seq ?_
  refine k_sg ?_
  refine s_run rfl rfl (rmi rfl) ?_
  refine s_call rfl (hC _) (ca56 rfl) ?_
  rintro e W1 ⟨rfl, H'⟩
  refine ⟨_, rfl, ?_⟩
  have H := H.same H'; clear H'
  refine s_run rfl rfl (rmb rfl) ?_
  refine s_run rfl (g_on 17 (by kernel_rfl) rfl) (rmi rfl) ?_
  refine s_run rfl (g_on 17 (by kernel_rfl) rfl) (r_lssT rfl rfl (by omega)) ?_
  refine s_run rfl rfl (r_pkT (v := .bool _) rfl rfl) ?_
  refine k_nc ?_
  refine k_t rfl ?_
  refine k_skip ?_
  refine c_norm ?_
  refine k_seq ?_
  refine k_b ?_
  refine k_sg ?_
  refine s_run rfl rfl (ras rfl) ?_
  refine k_nc ?_
  refine k_seq ?_
  refine k_sg ?_
  refine s_run rfl rfl (rai rfl) ?_
  refine k_nc ?_
  refine k_b ?_
  have H0 := H.own_nil 1 3
  refine k_loop (fun z f W2 => ∃ (i : Nat) (LA : Option Addr) (ln lc : Nat), i ≤ rn ∧ z = rn - i ∧ ln = (stay fr to (R.take i)).length ∧ f 1 = .int .i64 k ∧ f 2 = .int .i64 fr ∧ f 3 = .int .i64 to ∧ f 4 = ptrF p4 ∧ f 8 = ptrF p8 ∧ f 10 = .int .i64 (cnt + ((i : Int) - ln)) ∧ f 11 = .int .i64 M ∧ f 12 = .slice LA ln lc ∧ f 13 = .int .i64 i ∧ Heap W [p8, p4] [ownN 1 (.slice LA ln lc) ln ((stay fr to (R.take i)).map (Value.int .i64)) 3, blk p8 (fC fun _ => RowS.nil) 29, blk p4 (fC D') 29] W2) rn ⟨0, none, 0, 0, by omega, rfl, by simp [stay], rfl, rfl, rfl, rfl, rfl, by show Value.int _ _ = _; simp, rfl, rfl, rfl, H0⟩ ?_
  clear H H0
  rintro z f W2 ⟨i, LA, ln, lc, hi, rfl, hln, f1, f2, f3, f4, f8, f10, f11, f12, f13, H⟩
  obtain ⟨f, rfl⟩ := liveF9 f1 f2 f3 f4 f8 f10 f11 f12 f13
  clear f1 f2 f3 f4 f8 f10 f11 f12 f13
  have hli : ln ≤ i := by
   have := stay_len fr to (R.take i)
   rw [List.length_take] at this; omega
  by_cases hil : i < rn
  ·obtain ⟨x, hxi⟩ : ∃ x, R[i]? = some x := ⟨_, List.getElem?_eq_getElem (by omega)⟩
   obtain ⟨b, o, rfl, hbK, hrd⟩ := rsee (by omega)
   have cx := hrd _ _ hxi
   have hbn : b ∉ [p8, p4] := fun h => hbK (hI2 _ h)
   have hst := stay_snoc fr to R i x hxi
   by_cases h1 : fr ≤ x
   ·by_cases h2 : x < to
    ·rw [show gone fr to x = true from decide_eq_true ⟨h1, h2⟩, if_pos rfl, List.append_nil] at hst
     refine k_seq ?_
     refine k_sg ?_
     refine s_run rfl rfl (rmi rfl) ?_
     refine s_run rfl rfl (rmi rfl) ?_
     refine s_run rfl rfl (rmi rfl) ?_
     refine s_run rfl rfl (r_fa0 rfl fo29_0) ?_
     refine s_run rfl rfl (r_ia (i := k) rfl rfl (by omega) (by omega) Try.underlying27 sz26) ?_
     refine s_run rfl rfl (r_ia1 (i := M) rfl rfl (by omega) (by omega) Try.underlying26 sz25) ?_
     refine s_run rfl rfl (r_lo H 2 rfl rfl hgD ag25) ?_
     refine s_run rfl rfl (r_len rfl Try.underlying25) ?_
     refine s_run rfl rfl (r_lssT rfl rfl (by omega)) ?_
     refine k_nc ?_
     refine k_t rfl ?_
     refine k_skip ?_
     refine c_norm ?_
     refine k_seq ?_
     refine k_b ?_
     refine k_sg ?_
     refine s_run rfl rfl (rmi rfl) ?_
     refine s_run rfl rfl (rmi rfl) ?_
     refine s_run rfl rfl (r_fa0 rfl fo29_0) ?_
     refine s_run rfl rfl (r_ia (i := k) rfl rfl (by omega) (by omega) Try.underlying27 sz26) ?_
     refine s_run rfl rfl (r_ia1 (i := M) rfl rfl (by omega) (by omega) Try.underlying26 sz25) ?_
     refine s_run rfl rfl (r_lo H 2 rfl rfl hgD ag25) ?_
     refine s_run rfl rfl (rmi rfl) ?_
     refine s_run rfl rfl (r_ix1o (i := i) rfl rfl (by omega) (by omega) Try.underlying25 sz3) ?_
     refine s_run rfl rfl (r_lr H rfl cx hbn ag3) ?_
     refine s_run rfl rfl (rai rfl) ?_
     refine k_nc ?_
     refine k_sg ?_
     refine s_run rfl rfl (rmi rfl) ?_
     refine s_run rfl rfl (rmi rfl) ?_
     refine s_run rfl rfl (r_geqT rfl rfl (by omega)) ?_
     refine s_run rfl rfl (rmb rfl) ?_
     refine s_run rfl (g_on 46 (by kernel_rfl) rfl) (rmi rfl) ?_
     refine s_run rfl (g_on 46 (by kernel_rfl) rfl) (rmi rfl) ?_
     refine s_run rfl (g_on 46 (by kernel_rfl) rfl) (r_lssT rfl rfl (by omega)) ?_
     refine s_run rfl rfl (r_pkT (v := .bool _) rfl rfl) ?_
     refine k_nc ?_
     refine k_t rfl ?_
     refine k_rg ?_
     refine s_run rfl rfl (rmi rfl) ?_
     refine s_run rfl rfl (r_add rfl rfl (wI (by omega))) ?_
     refine s_run rfl rfl (rai rfl) ?_
     refine k_nil ?_
     refine b_norm ?_
     refine c_norm ?_
     refine k_rg ?_
     refine s_run rfl rfl (rmi rfl) ?_
     refine s_run rfl rfl (r_add rfl rfl (wI (by omega))) ?_
     refine s_run rfl rfl (rai rfl) ?_
     refine k_nil ?_
     refine c_round ?_
     refine ⟨_, _, ?_, rfl, i + 1, LA, ln, lc, by omega, rfl, by rw [hst]; exact hln, rfl, rfl, rfl, rfl, rfl, ?_, rfl, rfl, rfl, by rw [hst]; exact H⟩
     ·omega
     ·show Value.int _ _ = _
      congr 1; omega
    ·rw [show gone fr to x = false from decide_eq_false (fun h => h2 h.2), if_neg (by simp)] at hst
     refine k_seq ?_
     refine k_sg ?_
     refine s_run rfl rfl (rmi rfl) ?_
     refine s_run rfl rfl (rmi rfl) ?_
     refine s_run rfl rfl (rmi rfl) ?_
     refine s_run rfl rfl (r_fa0 rfl fo29_0) ?_
     refine s_run rfl rfl (r_ia (i := k) rfl rfl (by omega) (by omega) Try.underlying27 sz26) ?_
     refine s_run rfl rfl (r_ia1 (i := M) rfl rfl (by omega) (by omega) Try.underlying26 sz25) ?_
     refine s_run rfl rfl (r_lo H 2 rfl rfl hgD ag25) ?_
     refine s_run rfl rfl (r_len rfl Try.underlying25) ?_
     refine s_run rfl rfl (r_lssT rfl rfl (by omega)) ?_
     refine k_nc ?_
     refine k_t rfl ?_
     refine k_skip ?_
     refine c_norm ?_
     refine k_seq ?_
     refine k_b ?_
     refine k_sg ?_
     refine s_run rfl rfl (rmi rfl) ?_
     refine s_run rfl rfl (rmi rfl) ?_
     refine s_run rfl rfl (r_fa0 rfl fo29_0) ?_
     refine s_run rfl rfl (r_ia (i := k) rfl rfl (by omega) (by omega) Try.underlying27 sz26) ?_
     refine s_run rfl rfl (r_ia1 (i := M) rfl rfl (by omega) (by omega) Try.underlying26 sz25) ?_
     refine s_run rfl rfl (r_lo H 2 rfl rfl hgD ag25) ?_
     refine s_run rfl rfl (rmi rfl) ?_
     refine s_run rfl rfl (r_ix1o (i := i) rfl rfl (by omega) (by omega) Try.underlying25 sz3) ?_
     refine s_run rfl rfl (r_lr H rfl cx hbn ag3) ?_
     refine s_run rfl rfl (rai rfl) ?_
     refine k_nc ?_
     refine k_sg ?_
     refine s_run rfl rfl (rmi rfl) ?_
     refine s_run rfl rfl (rmi rfl) ?_
     refine s_run rfl rfl (r_geqT rfl rfl (by omega)) ?_
     refine s_run rfl rfl (rmb rfl) ?_
     refine s_run rfl (g_on 46 (by kernel_rfl) rfl) (rmi rfl) ?_
     refine s_run rfl (g_on 46 (by kernel_rfl) rfl) (rmi rfl) ?_
     refine s_run rfl (g_on 46 (by kernel_rfl) rfl) (r_lssF rfl rfl (by omega)) ?_
     refine s_run rfl rfl (r_pkT (v := .bool _) rfl rfl) ?_
     refine k_nc ?_
     refine k_f rfl ?_
     refine k_rg ?_
     refine s_run rfl rfl (rms rfl) ?_
     refine s_run rfl rfl (rmi rfl) ?_
     refine s_app1 (enc := (Value.int .i64)) H 0 rfl rfl rfl rfl rfl rfl rfl (by omega) Try.underlying25 inf3 rfl ?_
     intro _ An cn _ H'; simp only [List.set_cons_zero, List.set_cons_succ, List.take_succ_cons, List.take_zero, List.drop_succ_cons, List.drop_zero, List.cons_append, List.nil_append, List.append_nil, List.length_cons, List.length_nil, Nat.reduceAdd] at H'; clear H; have H := H'; clear H'
     refine s_run rfl rfl (ras rfl) ?_
     refine k_nil ?_
     refine b_norm ?_
     refine c_norm ?_
     refine k_rg ?_
     refine s_run rfl rfl (rmi rfl) ?_
     refine s_run rfl rfl (r_add rfl rfl (wI (by omega))) ?_
     refine s_run rfl rfl (rai rfl) ?_
     refine k_nil ?_
     refine c_round ?_
     refine ⟨_, _, ?_, rfl, i + 1, An, ln + 1, cn, by omega, rfl, by rw [hst, List.length_append, ← hln]; rfl, rfl, rfl, rfl, rfl, rfl, ?_, rfl, rfl, rfl, by rw [hst]; exact H⟩
     ·omega
     ·show Value.int _ _ = _
      congr 1; omega
   ·rw [show gone fr to x = false from decide_eq_false (fun h => h1 h.1), if_neg (by simp)] at hst
    refine k_seq ?_
    refine k_sg ?_
    refine s_run rfl rfl (rmi rfl) ?_
    refine s_run rfl rfl (rmi rfl) ?_
    refine s_run rfl rfl (rmi rfl) ?_
    refine s_run rfl rfl (r_fa0 rfl fo29_0) ?_
    refine s_run rfl rfl (r_ia (i := k) rfl rfl (by omega) (by omega) Try.underlying27 sz26) ?_
    refine s_run rfl rfl (r_ia1 (i := M) rfl rfl (by omega) (by omega) Try.underlying26 sz25) ?_
    refine s_run rfl rfl (r_lo H 2 rfl rfl hgD ag25) ?_
    refine s_run rfl rfl (r_len rfl Try.underlying25) ?_
    refine s_run rfl rfl (r_lssT rfl rfl (by omega)) ?_
    refine k_nc ?_
    refine k_t rfl ?_
    refine k_skip ?_
    refine c_norm ?_
    refine k_seq ?_
    refine k_b ?_
    refine k_sg ?_
    refine s_run rfl rfl (rmi rfl) ?_
    refine s_run rfl rfl (rmi rfl) ?_
    refine s_run rfl rfl (r_fa0 rfl fo29_0) ?_
    refine s_run rfl rfl (r_ia (i := k) rfl rfl (by omega) (by omega) Try.underlying27 sz26) ?_
    refine s_run rfl rfl (r_ia1 (i := M) rfl rfl (by omega) (by omega) Try.underlying26 sz25) ?_
    refine s_run rfl rfl (r_lo H 2 rfl rfl hgD ag25) ?_
    refine s_run rfl rfl (rmi rfl) ?_
    refine s_run rfl rfl (r_ix1o (i := i) rfl rfl (by omega) (by omega) Try.underlying25 sz3) ?_
    refine s_run rfl rfl (r_lr H rfl cx hbn ag3) ?_
    refine s_run rfl rfl (rai rfl) ?_
    refine k_nc ?_
    refine k_sg ?_
    refine s_run rfl rfl (rmi rfl) ?_
    refine s_run rfl rfl (rmi rfl) ?_
    refine s_run rfl rfl (r_geqF rfl rfl (by omega)) ?_
    refine s_run rfl rfl (rmb rfl) ?_
    refine s_off rfl (g_off 46 (by kernel_rfl) rfl rfl) ?_
    refine s_off rfl (g_off 46 (by kernel_rfl) rfl rfl) ?_
    refine s_off rfl (g_off 46 (by kernel_rfl) rfl rfl) ?_
    refine s_run rfl rfl (r_pkF (v := .bool _) rfl rfl) ?_
    refine k_nc ?_
    refine k_f rfl ?_
    refine k_rg ?_
    refine s_run rfl rfl (rms rfl) ?_
    refine s_run rfl rfl (rmi rfl) ?_
    refine s_app1 (enc := (Value.int .i64)) H 0 rfl rfl rfl rfl rfl rfl rfl (by omega) Try.underlying25 inf3 rfl ?_
    intro _ An cn _ H'; simp only [List.set_cons_zero, List.set_cons_succ, List.take_succ_cons, List.take_zero, List.drop_succ_cons, List.drop_zero, List.cons_append, List.nil_append, List.append_nil, List.length_cons, List.length_nil, Nat.reduceAdd] at H'; clear H; have H := H'; clear H'
    refine s_run rfl rfl (ras rfl) ?_
    refine k_nil ?_
    refine b_norm ?_
    refine c_norm ?_
    refine k_rg ?_
    refine s_run rfl rfl (rmi rfl) ?_
    refine s_run rfl rfl (r_add rfl rfl (wI (by omega))) ?_
    refine s_run rfl rfl (rai rfl) ?_
    refine k_nil ?_
    refine c_round ?_
    refine ⟨_, _, ?_, rfl, i + 1, An, ln + 1, cn, by omega, rfl, by rw [hst, List.length_append, ← hln]; rfl, rfl, rfl, rfl, rfl, rfl, ?_, rfl, rfl, rfl, by rw [hst]; exact H⟩
    ·omega
    ·show Value.int _ _ = _
     congr 1; omega
  ·obtain rfl : i = rn := by omega
   rw [show R.take i = R by rw [← rlen]; exact List.take_length] at hln H
   have e1 := hset ⟨LA, ln, lc, stay fr to R⟩
   refine k_seq ?_
   refine k_sg ?_
   refine s_run rfl rfl (rmi rfl) ?_
   refine s_run rfl rfl (rmi rfl) ?_
   refine s_run rfl rfl (rmi rfl) ?_
   refine s_run rfl rfl (r_fa0 rfl fo29_0) ?_
   refine s_run rfl rfl (r_ia (i := k) rfl rfl (by omega) (by omega) Try.underlying27 sz26) ?_
   refine s_run rfl rfl (r_ia1 (i := M) rfl rfl (by omega) (by omega) Try.underlying26 sz25) ?_
   refine s_run rfl rfl (r_lo H 2 rfl rfl hgD ag25) ?_
   refine s_run rfl rfl (r_len rfl Try.underlying25) ?_
   refine s_run rfl rfl (r_lssF rfl rfl (by omega)) ?_
   refine k_nc ?_
   refine k_f rfl ?_
   refine k_exit ?_
   refine c_exit ?_
   refine c_exit ?_
   refine b_hit ?_
   refine c_norm ?_
   refine k_rg ?_
   refine s_run rfl rfl (rmi rfl) ?_
   refine s_run rfl rfl (rmi rfl) ?_
   refine s_run rfl rfl (rms rfl) ?_
   refine s_run rfl rfl (r_fa0 rfl fo29_0) ?_
   refine s_run rfl rfl (r_ia (i := k) rfl rfl (by omega) (by omega) Try.underlying27 sz26) ?_
   refine s_run rfl rfl (r_ia1 (i := M) rfl rfl (by omega) (by omega) Try.underlying26 sz25) ?_
   refine s_stC H 2 rfl rfl rfl rfl hgD e1 rfl sz25 ?_
   clear H; intro _ H; simp only [jA, jB, jC, jD, jE, jF, jG, jH, jI, jJ, jK, Nat.reduceAdd] at H
   refine k_nil ?_
   refine b_norm ?_
   refine c_norm ?_
   refine k_rg ?_
   refine s_run rfl rfl (rmi rfl) ?_
   refine s_run rfl rfl (r_add rfl rfl (wI (by omega))) ?_
   refine s_run rfl rfl (rai rfl) ?_
   refine k_nil ?_
   refine c_round ?_
   have hS1 := H.own_freshG (G := K ++ [p8, p4]) (fun _ h => h) hKW
   have hc1 := own_cap H 0 rfl
   refine ⟨_, _, ?_, rfl, M + 1, _, _, by omega, rfl, ?_, ?_, (hD'.later H.only hI2).upd (r := ⟨LA, ln, lc, stay fr to R⟩) hS1 hln.symm hc1 (by show ln ≤ _; omega), fun i hi => Nat.lt_of_lt_of_le (hKW i hi) H.only.size, rfl, rfl, rfl, rfl, rfl, rfl, rfl, (HB.whole H).drop⟩
   ·omega
   ·rw [xsOf_upd, hx, fRemN_succ _ _ _ _ _ hlt, hR]
   ·rw [preTo, preTo, List.length_append, List.length_append, fRem5 _ _ _ _ hlt, hR]
    omega
 ·obtain rfl : M = 5 := by omega
  rw [preTo_cls, preTo_cls] at hcnt
  refine k_seq ?_
  refine k_sg ?_
  refine s_run rfl rfl (rmi rfl) ?_
  refine s_call rfl (hC _) (ca56 rfl) ?_
  rintro e W1 ⟨rfl, H'⟩
  refine ⟨_, rfl, ?_⟩
  have H := H.same H'; clear H'
  refine s_run rfl rfl (rmb rfl) ?_
  refine s_run rfl (g_on 17 (by kernel_rfl) rfl) (rmi rfl) ?_
  refine s_run rfl (g_on 17 (by kernel_rfl) rfl) (r_lssF rfl rfl (by omega)) ?_
  refine s_run rfl rfl (r_pkT (v := .bool _) rfl rfl) ?_
  refine k_nc ?_
  refine k_f rfl ?_
  refine k_exit ?_
  refine c_exit ?_
  refine c_exit ?_
  refine b_hit ?_
  refine c_norm ?_
  refine k_sg ?_
  refine s_run rfl rfl (r_la H 1 rfl rfl (fC_len _) ag29 sz29) ?_
  refine s_run rfl rfl (rmi rfl) ?_
  refine s_sw H 0 rfl rfl rfl rfl rfl rfl rfl sz29 ?_
  clear H; intro _ H; simp only [jA, jB, jC, jD, jE, jF, jG, jH, jI, jJ, jK, Nat.reduceAdd] at H
  refine s_run rfl rfl (rai rfl) ?_
  refine k_nc ?_
  refine k_ret ?_
  refine fx2r rfl (rv_a H 0 rfl rfl rfl ag29 sz29) (rv_t (v := .int _ _) rfl) ?_
  exact ⟨D', by rw [hcnt], hx, (hD'.later H.only hI2).mono (fun i hi => List.mem_append_left _ hi) (Nat.le_refl _), (HB.whole H).only⟩
end Go.Proofs.Ytlakbclnilakbaa
end

section
namespace Go.Proofs.Ytlakbclnilakbaa
set_option maxHeartbeats 4000000
theorem cls_cnt (S : FrS) (k : Nat) (z : Int) : (cls S k).count z = (S (k * 5)).count z + (S (k * 5 + 1)).count z + (S (k * 5 + 2)).count z + (S (k * 5 + 3)).count z + (S (k * 5 + 4)).count z := by
 simp [cls, List.count_append]; omega
theorem updS_cnt (S : FrS) (i : Nat) (x : List Int) (j : Nat) (z : Int) : (updS S i x j).count z = if j = i then x.count z else (S j).count z := by unfold updS; split <;> rfl
theorem cls_off {S : FrS} {j k : Nat} {x : List Int} (h : j / 5 ≠ k) : cls (updS S j x) k = cls S k := by
 unfold cls
 rw [updS_off _ _ (by omega), updS_off _ _ (by omega), updS_off _ _ (by omega), updS_off _ _ (by omega), updS_off _ _ (by omega)]
theorem perm_cnt {a b : List Int} (h : ∀ z, a.count z = b.count z) : a.Perm b := List.perm_iff_count.2 h
theorem take_drop_cnt (l : List Int) (n : Nat) (z : Int) : (l.take n).count z + (l.drop n).count z = l.count z := by rw [← List.count_append, List.take_append_drop]
theorem own_cases {m : Nat} (h : m < 4) : m = 0 ∨ m = 1 ∨ m = 2 ∨ m = 3 := by omega
/-- the own list of a mutator with another one put in its place -/
theorem own_upd_cnt (S : FrS) (m k : Nat) (hm : m < 4) (x : List Int) (z : Int) : (cls (updS S (k * 5 + 1 + m) x) k).count z + (S (k * 5 + 1 + m)).count z = (cls S k).count z + x.count z := by
 rw [cls_cnt, cls_cnt]
 rw [updS_cnt, updS_cnt, updS_cnt, updS_cnt, updS_cnt]
 rcases own_cases hm with rfl | rfl | rfl | rfl
 ·rw [if_neg (by omega), if_pos (by omega), if_neg (by omega), if_neg (by omega), if_neg (by omega)]
  simp only [Nat.add_zero]; omega
 ·rw [if_neg (by omega), if_neg (by omega), if_pos (by omega), if_neg (by omega), if_neg (by omega)]
  rw [show k * 5 + 1 + 1 = k * 5 + 2 by omega]; omega
 ·rw [if_neg (by omega), if_neg (by omega), if_neg (by omega), if_pos (by omega), if_neg (by omega)]
  rw [show k * 5 + 1 + 2 = k * 5 + 3 by omega]; omega
 ·rw [if_neg (by omega), if_neg (by omega), if_neg (by omega), if_neg (by omega), if_pos (by omega)]
  rw [show k * 5 + 1 + 3 = k * 5 + 4 by omega]; omega
theorem glob_upd_cnt (S : FrS) (k : Nat) (x : List Int) (z : Int) : (cls (updS S (k * 5) x) k).count z + (S (k * 5)).count z = (cls S k).count z + x.count z := by
 rw [cls_cnt, cls_cnt]
 rw [updS_cnt, updS_cnt, updS_cnt, updS_cnt, updS_cnt, if_pos rfl, if_neg (by omega), if_neg (by omega), if_neg (by omega), if_neg (by omega)]
 omega
theorem fPush_perm (S : FrS) (k : Nat) (a : Int) : (cls (updS S (k * 5) (S (k * 5) ++ [a])) k).Perm (cls S k ++ [a]) := perm_cnt fun z => by
 have h := glob_upd_cnt S k (S (k * 5) ++ [a]) z
 rw [List.count_append] at h ⊢
 omega
theorem fFill_perm (S : FrS) (m k : Nat) (hm : m < 4) : (cls (fFill S m k) k).Perm (cls S k) := perm_cnt fun z => by
 unfold fFill
 split
 ·rename_i h
  have h1 := take_drop_cnt (S (k * 5)) ((S (k * 5)).length - 4) z
  have h2 : (S (k * 5 + 1 + m)).count z = 0 := by rw [h]; rfl
  have h3 := own_upd_cnt (updS S (k * 5) ((S (k * 5)).take ((S (k * 5)).length - 4))) m k hm ((S (k * 5)).drop ((S (k * 5)).length - 4)) z
  have h4 := glob_upd_cnt S k ((S (k * 5)).take ((S (k * 5)).length - 4)) z
  rw [updS_off _ _ (show k * 5 + 1 + m ≠ k * 5 by omega)] at h3
  omega
 ·rfl
theorem fPutN_perm (S : FrS) (m k : Nat) (a : Int) (hm : m < 4) : (cls (fPutN S m k a) k).Perm (cls S k ++ [a]) := perm_cnt fun z => by
 unfold fPutN
 rw [List.count_append]
 split
 ·have h1 := own_upd_cnt (updS S (k * 5) (S (k * 5) ++ (S (k * 5 + 1 + m) ++ [a]).take (((S (k * 5 + 1 + m)).length + 1) / 2))) m k hm ((S (k * 5 + 1 + m) ++ [a]).drop (((S (k * 5 + 1 + m)).length + 1) / 2)) z
  have h2 := glob_upd_cnt S k (S (k * 5) ++ (S (k * 5 + 1 + m) ++ [a]).take (((S (k * 5 + 1 + m)).length + 1) / 2)) z
  have h3 := take_drop_cnt (S (k * 5 + 1 + m) ++ [a]) (((S (k * 5 + 1 + m)).length + 1) / 2) z
  rw [updS_off _ _ (show k * 5 + 1 + m ≠ k * 5 by omega)] at h1
  rw [List.count_append] at h2 h3
  omega
 ·have h1 := own_upd_cnt S m k hm (S (k * 5 + 1 + m) ++ [a]) z
  rw [List.count_append] at h1
  omega
theorem fDrain_perm (S : FrS) (m K : Nat) (hm : m < 4) (k : Nat) : (cls (fDrainTo S m K) k).Perm (cls S k) := by
 induction K with
 | zero => rw [fDrainTo_zero]
 | succ K ih =>
  rw [fDrainTo_succ S m K hm]
  by_cases e : k = K
  ·subst e
   refine .trans (perm_cnt fun z => ?_) ih
   have h1 := own_upd_cnt (updS (fDrainTo S m k) (k * 5) (S (k * 5) ++ S (k * 5 + 1 + m))) m k hm [] z
   have h2 := glob_upd_cnt (fDrainTo S m k) k (S (k * 5) ++ S (k * 5 + 1 + m)) z
   rw [updS_off _ _ (show k * 5 + 1 + m ≠ k * 5 by omega), fDrainTo_at _ _ _ _ (show k * 5 ≤ k * 5 + 1 + m by omega)] at h1
   rw [List.count_append, fDrainTo_at _ _ _ _ (Nat.le_refl _)] at h2
   have h3 : ([] : List Int).count z = 0 := rfl
   omega
  ·rw [cls_off (by omega), cls_off (by omega)]; exact ih
theorem fRem_cls (S : FrS) (k : Nat) (f t : Int) : cls (fRemN S k f t 5) k = stay f t (cls S k) := by
 have h : ∀ j, j < 5 → fRemN S k f t 5 (k * 5 + j) = stay f t (S (k * 5 + j)) := fun j hj => by unfold fRemN; rw [if_pos ⟨by omega, by omega⟩]
 have h0 := h 0 (by omega)
 simp only [Nat.add_zero] at h0
 unfold cls
 rw [h0, h 1 (by omega), h 2 (by omega), h 3 (by omega), h 4 (by omega)]
 simp [stay, List.filter_append]
theorem fRem_off (S : FrS) (k j : Nat) (f t : Int) (h : j ≠ k) : cls (fRemN S k f t 5) j = cls S j := by
 unfold cls fRemN
 rw [if_neg (by omega), if_neg (by omega), if_neg (by omega), if_neg (by omega), if_neg (by omega)]
theorem snoc_last (l : List Int) (h : l ≠ []) : l = l.take (l.length - 1) ++ [l.getD (l.length - 1) 0] := by
 have hl : 0 < l.length := List.length_pos_iff.2 h
 obtain ⟨x, hx⟩ : ∃ x, l[l.length - 1]? = some x := ⟨_, List.getElem?_eq_getElem (by omega)⟩
 rw [List.getD_eq_getElem?_getD, hx]
 have := List.take_append_drop (l.length - 1) l
 rw [List.drop_eq_getElem_cons (by omega)] at this
 rw [List.getElem?_eq_getElem (by omega)] at hx
 injection hx with hx
 rw [show l.length - 1 + 1 = l.length by omega, List.drop_length, hx] at this
 exact this.symm
end Go.Proofs.Ytlakbclnilakbaa
end

section
namespace Go.Proofs.Ytlakbclnilakbaa
open Go.RowKit
set_option maxRecDepth 100000
set_option maxHeartbeats 4000000
/-- a call -/
def fDo (S : FrS) (kd m k a t : Int) : FrS :=
 if kd = 0 then (fPush S k a).1 else if kd = 1 then (fTake S m k).1 else if kd = 2 then (fPut S m k a).1 else if kd = 3 then fDrain S m else if kd = 4 then (fRemove S k a t).1 else S
abbrev opV (kd m k a t : Int) : Value := .agg [.int .i64 kd, .int .i64 m, .int .i64 k, .int .i64 a, .int .i64 t].toArray
theorem lDo {I K : List Nat} {p b N : Nat} {F D : Nat → RowS} {l : FrM} {w : World} (hE : Ents (frE p b F F l) w) (hI : ids (frE p b F F l) = I) (hIK : ∀ i ∈ I, i ∈ K) (hK : ∀ i ∈ K, i < w.heap.size) (hok : FrOk F l N) (hD : DOk K w D N) (hN : N ≤ 5000) (hx : xsOf D = xsOf F) (kd m k a t : Int) (hm : wf64 m) :
  Calls Try.prog 50 [ptrF p, fV D, opV kd m k a t].toArray w fun e w' => ∃ F' l' D', e = .returned (.tuple [fV D', .bool true].toArray) ∧ Heap w I (frE p b F' F' l') w' ∧ DOk (K ++ ids (frE p b F' F' l')) w' D' (N + N + 9) ∧ FrOk F' l' (N + N + 9) ∧ xsOf F' = fDo (xsOf F) kd m k a t ∧ xsOf D' = xsOf F' := by
 have H : Heap w I [grp (frE p b F F l)] w := by rw [← hI]; exact grp_start hE
 have hfin : ∀ {p4 p5 p6 : Nat} {c4 c5 c6 d4 d6 : List Value} {t4 t5 t6 : TypeId} {F' : Nat → RowS} {l' : FrM} {D' : Nat → RowS} {W1 W2 : World} {M : Nat}, Heap w I [blk p6 c6 t6, blk p5 c5 t5, blk p4 c4 t4, grp (frE p b F' F' l')] W1 → DOk (K ++ ids [blk p6 c6 t6, blk p5 c5 t5, blk p4 c4 t4, grp (frE p b F' F' l')]) W1 D' M → M ≤ N + N + 9 → Heap W1 (ids [blk p6 c6 t6, blk p5 c5 t5, blk p4 c4 t4, grp (frE p b F' F' l')]) [blk p6 d6 t6, blk p5 c5 t5, blk p4 d4 t4, grp (frE p b F' F' l')] W2 → Heap w I (frE p b F' F' l') W2 ∧ DOk (K ++ ids (frE p b F' F' l')) W2 D' (N + N + 9) := fun {p4 p5 p6 c4 c5 c6 d4 d6 t4 t5 t6 F' l' D' W1 W2 M} HB hD2 hM H => by
  refine ⟨grp_open (Heap.subl (HB.whole H) [3] rfl rfl), (hD2.later H.only (fun i hi => List.mem_append_right _ hi)).mono (fun i hi => ?_) hM⟩
  rcases List.mem_append.1 hi with h | h
  ·exact List.mem_append_left _ h
  ·refine List.mem_append_right _ ?_
   rw [ids_cons, ids_cons, ids_cons, ids_cons]
   exact List.mem_append_right _ (List.mem_append_right _ (List.mem_append_right _ (List.mem_append_left _ h)))
 have hD9 : DOk K w D (N + N + 9) := hD.mono (fun _ h => h) (by omega)
 unfold fDo opV
 by_cases k0 : kd = 0
 ·subst k0
  rw [if_pos rfl]
  have hB := fun {L} {W : World} (H : Heap w I L W) => dPush (hD.on H hIK) (by omega) (on_lt hK H) k a
  rw [hx] at hB
  unfold fV at *
  refine k_in (N := 114) Try.func50 rfl rfl rfl ?_
  refine k_sg ?_
  refine s_box H rfl rfl ?_
  intro p4 _ H'; clear H; have H := H'; clear H'
  refine s_box H rfl rfl ?_
  intro p5 _ H'; clear H; have H := H'; clear H'
  refine s_al H rfl inf29 ?_
  intro p6 _ H'; clear H; have H := H'; clear H'
  refine s_run rfl rfl (rab rfl) ?_
  refine k_nc ?_
  refine k_sg ?_
  refine s_run rfl rfl (rai rfl) ?_
  refine s_run rfl rfl (rai rfl) ?_
  refine s_run rfl rfl (rai rfl) ?_
  refine s_run rfl rfl (rai rfl) ?_
  refine k_nc ?_
  refine k_seq ?_
  refine k_sg ?_
  refine s_run rfl rfl (r_fa0 rfl fo88_0) ?_
  refine s_run rfl rfl (r_lo H 1 rfl rfl rfl ag3) ?_
  refine k_nc ?_
  refine k_b ?_
  refine k_sg ?_
  refine s_run rfl rfl (r_eqlT rfl rfl (by omega)) ?_
  refine s_run rfl rfl (rab rfl) ?_
  refine k_nc ?_
  refine k_t rfl ?_
  refine k_sg ?_
  refine s_run rfl rfl (rmp rfl) ?_
  refine s_run rfl rfl (r_fa0 rfl fo88_2) ?_
  refine s_run rfl rfl (r_lo H 1 rfl rfl rfl ag3) ?_
  refine s_run rfl rfl (r_fa0 rfl fo88_3) ?_
  refine s_run rfl rfl (r_lo H 1 rfl rfl rfl ag3) ?_
  refine s_call rfl (oPush (H.grp_ents 3 rfl) hok (by omega) k a) (ca48 rfl) ?_
  rintro e W1 ⟨rfl, F', l', H', hok', hx'⟩
  refine ⟨_, rfl, ?_⟩
  have H := H.grp_at 3 rfl H'; clear H'; simp only [List.set_cons_zero, List.set_cons_succ] at H
  refine s_run rfl rfl (rai rfl) ?_
  refine k_nc ?_
  refine k_rg ?_
  refine s_run rfl rfl (r_la H 2 rfl rfl (fC_len D) ag29 sz29) ?_
  refine s_run rfl rfl (r_fa0 rfl fo88_2) ?_
  refine s_run rfl rfl (r_lo H 1 rfl rfl rfl ag3) ?_
  refine s_run rfl rfl (r_fa0 rfl fo88_3) ?_
  refine s_run rfl rfl (r_lo H 1 rfl rfl rfl ag3) ?_
  refine s_call rfl (hB H) (ca74 rfl) ?_
  rintro e W1 ⟨D', rfl, hxd, hD', H'⟩
  refine ⟨_, rfl, ?_⟩
  have HB := H.same H'; clear H' H; have H := Heap.start HB.ents
  refine s_run rfl rfl (rmt rfl) ?_
  refine s_run rfl rfl (r_ext (v := .agg _) rfl rfl) ?_
  refine s_run rfl rfl (r_ext (v := .int _ _) rfl rfl) ?_
  refine s_sw H 2 rfl rfl rfl rfl rfl rfl rfl sz29 ?_
  clear H; intro _ H; simp only [jA, jB, jC, jD, jE, jF, jG, jH, jI, jJ, jK, Nat.reduceAdd] at H
  refine s_run rfl rfl (rai rfl) ?_
  refine k_nil ?_
  refine b_norm ?_
  refine c_norm ?_
  refine k_sg ?_
  refine s_run rfl rfl (r_la H 2 rfl rfl (fC_len _) ag29 sz29) ?_
  refine s_run rfl rfl (rmi rfl) ?_
  refine s_run rfl rfl (rmi rfl) ?_
  refine s_run rfl rfl (r_eqlT rfl rfl (by omega)) ?_
  refine s_run rfl rfl (rmb rfl) ?_
  refine s_run rfl (g_on 109 (by kernel_rfl) rfl) (rmi rfl) ?_
  refine s_run rfl (g_on 109 (by kernel_rfl) rfl) (rmi rfl) ?_
  refine s_run rfl (g_on 109 (by kernel_rfl) rfl) (r_eqlT rfl rfl (by omega)) ?_
  refine s_run rfl rfl (r_pkT (v := .bool _) rfl rfl) ?_
  refine s_sw H 0 rfl rfl rfl rfl rfl rfl rfl sz29 ?_
  clear H; intro _ H; simp only [jA, jB, jC, jD, jE, jF, jG, jH, jI, jJ, jK, Nat.reduceAdd] at H
  refine s_run rfl rfl (rab rfl) ?_
  refine k_nc ?_
  refine k_ret ?_
  refine fx2r rfl (rv_a H 0 rfl rfl rfl ag29 sz29) (rv_t (v := .bool _) rfl) ?_
  obtain ⟨h1, h2⟩ := hfin HB hD' (by omega) H
  exact ⟨F', l', D', rfl, h1, h2, hok'.mono (by omega), hx', by rw [hxd, hx']⟩
 by_cases k1 : kd = 1
 ·subst k1
  rw [if_neg (by omega), if_pos rfl]
  have hB := fun {L} {W : World} (H : Heap w I L W) => dTake (hD.on H hIK) (by omega) (on_lt hK H) m k
  rw [hx] at hB
  unfold fV at *
  refine k_in (N := 114) Try.func50 rfl rfl rfl ?_
  refine k_sg ?_
  refine s_box H rfl rfl ?_
  intro p4 _ H'; clear H; have H := H'; clear H'
  refine s_box H rfl rfl ?_
  intro p5 _ H'; clear H; have H := H'; clear H'
  refine s_al H rfl inf29 ?_
  intro p6 _ H'; clear H; have H := H'; clear H'
  refine s_run rfl rfl (rab rfl) ?_
  refine k_nc ?_
  refine k_sg ?_
  refine s_run rfl rfl (rai rfl) ?_
  refine s_run rfl rfl (rai rfl) ?_
  refine s_run rfl rfl (rai rfl) ?_
  refine s_run rfl rfl (rai rfl) ?_
  refine k_nc ?_
  refine k_seq ?_
  refine k_sg ?_
  refine s_run rfl rfl (r_fa0 rfl fo88_0) ?_
  refine s_run rfl rfl (r_lo H 1 rfl rfl rfl ag3) ?_
  refine k_nc ?_
  refine k_b ?_
  refine k_sg ?_
  refine s_run rfl rfl (r_eqlF rfl rfl (by omega)) ?_
  refine s_run rfl rfl (rab rfl) ?_
  refine k_nc ?_
  refine k_f rfl ?_
  refine k_sg ?_
  refine s_run rfl rfl (r_eqlT rfl rfl (by omega)) ?_
  refine s_run rfl rfl (rab rfl) ?_
  refine k_nc ?_
  refine k_t rfl ?_
  refine k_sg ?_
  refine s_run rfl rfl (rmp rfl) ?_
  refine s_run rfl rfl (r_fa0 rfl fo88_1) ?_
  refine s_run rfl rfl (r_lo H 1 rfl rfl rfl ag3) ?_
  refine s_run rfl rfl (r_fa0 rfl fo88_2) ?_
  refine s_run rfl rfl (r_lo H 1 rfl rfl rfl ag3) ?_
  refine s_call rfl (oTake (H.grp_ents 3 rfl) hok (by omega) m k) (ca16 rfl) ?_
  rintro e W1 ⟨rfl, F', l', H', hok', hx'⟩
  refine ⟨_, rfl, ?_⟩
  have H := H.grp_at 3 rfl H'; clear H'; simp only [List.set_cons_zero, List.set_cons_succ] at H
  refine s_run rfl rfl (rmt rfl) ?_
  refine s_run rfl rfl (r_ext (v := .int _ _) rfl rfl) ?_
  refine s_run rfl rfl (r_ext (v := .int _ _) rfl rfl) ?_
  refine s_run rfl rfl (rai rfl) ?_
  refine s_run rfl rfl (rai rfl) ?_
  refine k_nc ?_
  refine k_rg ?_
  refine s_run rfl rfl (r_la H 2 rfl rfl (fC_len D) ag29 sz29) ?_
  refine s_run rfl rfl (r_fa0 rfl fo88_1) ?_
  refine s_run rfl rfl (r_lo H 1 rfl rfl rfl ag3) ?_
  refine s_run rfl rfl (r_fa0 rfl fo88_2) ?_
  refine s_run rfl rfl (r_lo H 1 rfl rfl rfl ag3) ?_
  refine s_call rfl (hB H) (ca75 rfl) ?_
  rintro e W1 ⟨D', rfl, hxd, hD', H'⟩
  refine ⟨_, rfl, ?_⟩
  have HB := H.same H'; clear H' H; have H := Heap.start HB.ents
  refine s_run rfl rfl (rmt rfl) ?_
  refine s_run rfl rfl (r_ext (v := .agg _) rfl rfl) ?_
  refine s_run rfl rfl (r_ext (v := .int _ _) rfl rfl) ?_
  refine s_run rfl rfl (r_ext (v := .int _ _) rfl rfl) ?_
  refine s_sw H 2 rfl rfl rfl rfl rfl rfl rfl sz29 ?_
  clear H; intro _ H; simp only [jA, jB, jC, jD, jE, jF, jG, jH, jI, jJ, jK, Nat.reduceAdd] at H
  refine s_run rfl rfl (rai rfl) ?_
  refine s_run rfl rfl (rai rfl) ?_
  refine k_nil ?_
  refine b_norm ?_
  refine c_norm ?_
  refine k_sg ?_
  refine s_run rfl rfl (r_la H 2 rfl rfl (fC_len _) ag29 sz29) ?_
  refine s_run rfl rfl (rmi rfl) ?_
  refine s_run rfl rfl (rmi rfl) ?_
  refine s_run rfl rfl (r_eqlT rfl rfl (by omega)) ?_
  refine s_run rfl rfl (rmb rfl) ?_
  refine s_run rfl (g_on 109 (by kernel_rfl) rfl) (rmi rfl) ?_
  refine s_run rfl (g_on 109 (by kernel_rfl) rfl) (rmi rfl) ?_
  refine s_run rfl (g_on 109 (by kernel_rfl) rfl) (r_eqlT rfl rfl (by omega)) ?_
  refine s_run rfl rfl (r_pkT (v := .bool _) rfl rfl) ?_
  refine s_sw H 0 rfl rfl rfl rfl rfl rfl rfl sz29 ?_
  clear H; intro _ H; simp only [jA, jB, jC, jD, jE, jF, jG, jH, jI, jJ, jK, Nat.reduceAdd] at H
  refine s_run rfl rfl (rab rfl) ?_
  refine k_nc ?_
  refine k_ret ?_
  refine fx2r rfl (rv_a H 0 rfl rfl rfl ag29 sz29) (rv_t (v := .bool _) rfl) ?_
  obtain ⟨h1, h2⟩ := hfin HB hD' (by omega) H
  exact ⟨F', l', D', rfl, h1, h2, hok'.mono (by omega), hx', by rw [hxd, hx']⟩
 by_cases k2 : kd = 2
 ·subst k2
  rw [if_neg (by omega), if_neg (by omega), if_pos rfl]
  have hB := fun {L} {W : World} (H : Heap w I L W) => dPut (hD.on H hIK) (by omega) (on_lt hK H) m k a
  rw [hx] at hB
  unfold fV at *
  refine k_in (N := 114) Try.func50 rfl rfl rfl ?_
  refine k_sg ?_
  refine s_box H rfl rfl ?_
  intro p4 _ H'; clear H; have H := H'; clear H'
  refine s_box H rfl rfl ?_
  intro p5 _ H'; clear H; have H := H'; clear H'
  refine s_al H rfl inf29 ?_
  intro p6 _ H'; clear H; have H := H'; clear H'
  refine s_run rfl rfl (rab rfl) ?_
  refine k_nc ?_
  refine k_sg ?_
  refine s_run rfl rfl (rai rfl) ?_
  refine s_run rfl rfl (rai rfl) ?_
  refine s_run rfl rfl (rai rfl) ?_
  refine s_run rfl rfl (rai rfl) ?_
  refine k_nc ?_
  refine k_seq ?_
  refine k_sg ?_
  refine s_run rfl rfl (r_fa0 rfl fo88_0) ?_
  refine s_run rfl rfl (r_lo H 1 rfl rfl rfl ag3) ?_
  refine k_nc ?_
  refine k_b ?_
  refine k_sg ?_
  refine s_run rfl rfl (r_eqlF rfl rfl (by omega)) ?_
  refine s_run rfl rfl (rab rfl) ?_
  refine k_nc ?_
  refine k_f rfl ?_
  refine k_sg ?_
  refine s_run rfl rfl (r_eqlF rfl rfl (by omega)) ?_
  refine s_run rfl rfl (rab rfl) ?_
  refine k_nc ?_
  refine k_f rfl ?_
  refine k_sg ?_
  refine s_run rfl rfl (r_eqlT rfl rfl (by omega)) ?_
  refine s_run rfl rfl (rab rfl) ?_
  refine k_nc ?_
  refine k_t rfl ?_
  refine k_sg ?_
  refine s_run rfl rfl (rmp rfl) ?_
  refine s_run rfl rfl (r_fa0 rfl fo88_1) ?_
  refine s_run rfl rfl (r_lo H 1 rfl rfl rfl ag3) ?_
  refine s_run rfl rfl (r_fa0 rfl fo88_2) ?_
  refine s_run rfl rfl (r_lo H 1 rfl rfl rfl ag3) ?_
  refine s_run rfl rfl (r_fa0 rfl fo88_3) ?_
  refine s_run rfl rfl (r_lo H 1 rfl rfl rfl ag3) ?_
  refine s_call rfl (oPut (H.grp_ents 3 rfl) hok (by omega) m k a) (ca76 rfl) ?_
  rintro e W1 ⟨rfl, F', l', H', hok', hx'⟩
  refine ⟨_, rfl, ?_⟩
  have H := H.grp_at 3 rfl H'; clear H'; simp only [List.set_cons_zero, List.set_cons_succ] at H
  refine s_run rfl rfl (rai rfl) ?_
  refine k_nc ?_
  refine k_rg ?_
  refine s_run rfl rfl (r_la H 2 rfl rfl (fC_len D) ag29 sz29) ?_
  refine s_run rfl rfl (r_fa0 rfl fo88_1) ?_
  refine s_run rfl rfl (r_lo H 1 rfl rfl rfl ag3) ?_
  refine s_run rfl rfl (r_fa0 rfl fo88_2) ?_
  refine s_run rfl rfl (r_lo H 1 rfl rfl rfl ag3) ?_
  refine s_run rfl rfl (r_fa0 rfl fo88_3) ?_
  refine s_run rfl rfl (r_lo H 1 rfl rfl rfl ag3) ?_
  refine s_call rfl (hB H) (ca77 rfl) ?_
  rintro e W1 ⟨D', rfl, hxd, hD', H'⟩
  refine ⟨_, rfl, ?_⟩
  have HB := H.same H'; clear H' H; have H := Heap.start HB.ents
  refine s_run rfl rfl (rmt rfl) ?_
  refine s_run rfl rfl (r_ext (v := .agg _) rfl rfl) ?_
  refine s_run rfl rfl (r_ext (v := .int _ _) rfl rfl) ?_
  refine s_sw H 2 rfl rfl rfl rfl rfl rfl rfl sz29 ?_
  clear H; intro _ H; simp only [jA, jB, jC, jD, jE, jF, jG, jH, jI, jJ, jK, Nat.reduceAdd] at H
  refine s_run rfl rfl (rai rfl) ?_
  refine k_nil ?_
  refine b_norm ?_
  refine c_norm ?_
  refine k_sg ?_
  refine s_run rfl rfl (r_la H 2 rfl rfl (fC_len _) ag29 sz29) ?_
  refine s_run rfl rfl (rmi rfl) ?_
  refine s_run rfl rfl (rmi rfl) ?_
  refine s_run rfl rfl (r_eqlT rfl rfl (by omega)) ?_
  refine s_run rfl rfl (rmb rfl) ?_
  refine s_run rfl (g_on 109 (by kernel_rfl) rfl) (rmi rfl) ?_
  refine s_run rfl (g_on 109 (by kernel_rfl) rfl) (rmi rfl) ?_
  refine s_run rfl (g_on 109 (by kernel_rfl) rfl) (r_eqlT rfl rfl (by omega)) ?_
  refine s_run rfl rfl (r_pkT (v := .bool _) rfl rfl) ?_
  refine s_sw H 0 rfl rfl rfl rfl rfl rfl rfl sz29 ?_
  clear H; intro _ H; simp only [jA, jB, jC, jD, jE, jF, jG, jH, jI, jJ, jK, Nat.reduceAdd] at H
  refine s_run rfl rfl (rab rfl) ?_
  refine k_nc ?_
  refine k_ret ?_
  refine fx2r rfl (rv_a H 0 rfl rfl rfl ag29 sz29) (rv_t (v := .bool _) rfl) ?_
  obtain ⟨h1, h2⟩ := hfin HB hD' (by omega) H
  exact ⟨F', l', D', rfl, h1, h2, hok'.mono (by omega), hx', by rw [hxd, hx']⟩
 by_cases k3 : kd = 3
 ·subst k3
  rw [if_neg (by omega), if_neg (by omega), if_neg (by omega), if_pos rfl]
  have hB := fun {L} {W : World} (H : Heap w I L W) => dDrain (hD.on H hIK) (by omega) (on_lt hK H) m
  rw [hx] at hB
  unfold fV at *
  refine k_in (N := 114) Try.func50 rfl rfl rfl ?_
  refine k_sg ?_
  refine s_box H rfl rfl ?_
  intro p4 _ H'; clear H; have H := H'; clear H'
  refine s_box H rfl rfl ?_
  intro p5 _ H'; clear H; have H := H'; clear H'
  refine s_al H rfl inf29 ?_
  intro p6 _ H'; clear H; have H := H'; clear H'
  refine s_run rfl rfl (rab rfl) ?_
  refine k_nc ?_
  refine k_sg ?_
  refine s_run rfl rfl (rai rfl) ?_
  refine s_run rfl rfl (rai rfl) ?_
  refine s_run rfl rfl (rai rfl) ?_
  refine s_run rfl rfl (rai rfl) ?_
  refine k_nc ?_
  refine k_seq ?_
  refine k_sg ?_
  refine s_run rfl rfl (r_fa0 rfl fo88_0) ?_
  refine s_run rfl rfl (r_lo H 1 rfl rfl rfl ag3) ?_
  refine k_nc ?_
  refine k_b ?_
  refine k_sg ?_
  refine s_run rfl rfl (r_eqlF rfl rfl (by omega)) ?_
  refine s_run rfl rfl (rab rfl) ?_
  refine k_nc ?_
  refine k_f rfl ?_
  refine k_sg ?_
  refine s_run rfl rfl (r_eqlF rfl rfl (by omega)) ?_
  refine s_run rfl rfl (rab rfl) ?_
  refine k_nc ?_
  refine k_f rfl ?_
  refine k_sg ?_
  refine s_run rfl rfl (r_eqlF rfl rfl (by omega)) ?_
  refine s_run rfl rfl (rab rfl) ?_
  refine k_nc ?_
  refine k_f rfl ?_
  refine k_sg ?_
  refine s_run rfl rfl (r_eqlT rfl rfl (by omega)) ?_
  refine s_run rfl rfl (rab rfl) ?_
  refine k_nc ?_
  refine k_t rfl ?_
  refine k_sg ?_
  refine s_run rfl rfl (rmp rfl) ?_
  refine s_run rfl rfl (r_fa0 rfl fo88_1) ?_
  refine s_run rfl rfl (r_lo H 1 rfl rfl rfl ag3) ?_
  refine s_call rfl (oDrain (H.grp_ents 3 rfl) hok (by omega) m hm) (ca15 rfl) ?_
  rintro e W1 ⟨rfl, F', l', H', hok', hx'⟩
  refine ⟨_, rfl, ?_⟩
  have H := H.grp_at 3 rfl H'; clear H'; simp only [List.set_cons_zero, List.set_cons_succ] at H
  refine k_nc ?_
  refine k_rg ?_
  refine s_run rfl rfl (r_la H 2 rfl rfl (fC_len D) ag29 sz29) ?_
  refine s_run rfl rfl (r_fa0 rfl fo88_1) ?_
  refine s_run rfl rfl (r_lo H 1 rfl rfl rfl ag3) ?_
  refine s_call rfl (hB H) (ca78 rfl) ?_
  rintro e W1 ⟨D', rfl, hxd, hD', H'⟩
  refine ⟨_, rfl, ?_⟩
  have HB := H.same H'; clear H' H; have H := Heap.start HB.ents
  refine s_sw H 2 rfl rfl rfl rfl rfl rfl rfl sz29 ?_
  clear H; intro _ H; simp only [jA, jB, jC, jD, jE, jF, jG, jH, jI, jJ, jK, Nat.reduceAdd] at H
  refine k_nil ?_
  refine b_norm ?_
  refine c_norm ?_
  refine k_sg ?_
  refine s_run rfl rfl (r_la H 2 rfl rfl (fC_len _) ag29 sz29) ?_
  refine s_run rfl rfl (rmi rfl) ?_
  refine s_run rfl rfl (rmi rfl) ?_
  refine s_run rfl rfl (r_eqlT rfl rfl (by omega)) ?_
  refine s_run rfl rfl (rmb rfl) ?_
  refine s_run rfl (g_on 109 (by kernel_rfl) rfl) (rmi rfl) ?_
  refine s_run rfl (g_on 109 (by kernel_rfl) rfl) (rmi rfl) ?_
  refine s_run rfl (g_on 109 (by kernel_rfl) rfl) (r_eqlT rfl rfl (by omega)) ?_
  refine s_run rfl rfl (r_pkT (v := .bool _) rfl rfl) ?_
  refine s_sw H 0 rfl rfl rfl rfl rfl rfl rfl sz29 ?_
  clear H; intro _ H; simp only [jA, jB, jC, jD, jE, jF, jG, jH, jI, jJ, jK, Nat.reduceAdd] at H
  refine s_run rfl rfl (rab rfl) ?_
  refine k_nc ?_
  refine k_ret ?_
  refine fx2r rfl (rv_a H 0 rfl rfl rfl ag29 sz29) (rv_t (v := .bool _) rfl) ?_
  obtain ⟨h1, h2⟩ := hfin HB hD' (by omega) H
  exact ⟨F', l', D', rfl, h1, h2, hok'.mono (by omega), hx', by rw [hxd, hx']⟩
 by_cases k4 : kd = 4
 ·subst k4
  rw [if_neg (by omega), if_neg (by omega), if_neg (by omega), if_neg (by omega), if_pos rfl]
  have hB := fun {L} {W : World} (H : Heap w I L W) => dRemove (hD.on H hIK) (by omega) (on_lt hK H) k a t
  rw [hx] at hB
  unfold fV at *
  refine k_in (N := 114) Try.func50 rfl rfl rfl ?_
  refine k_sg ?_
  refine s_box H rfl rfl ?_
  intro p4 _ H'; clear H; have H := H'; clear H'
  refine s_box H rfl rfl ?_
  intro p5 _ H'; clear H; have H := H'; clear H'
  refine s_al H rfl inf29 ?_
  intro p6 _ H'; clear H; have H := H'; clear H'
  refine s_run rfl rfl (rab rfl) ?_
  refine k_nc ?_
  refine k_sg ?_
  refine s_run rfl rfl (rai rfl) ?_
  refine s_run rfl rfl (rai rfl) ?_
  refine s_run rfl rfl (rai rfl) ?_
  refine s_run rfl rfl (rai rfl) ?_
  refine k_nc ?_
  refine k_seq ?_
  refine k_sg ?_
  refine s_run rfl rfl (r_fa0 rfl fo88_0) ?_
  refine s_run rfl rfl (r_lo H 1 rfl rfl rfl ag3) ?_
  refine k_nc ?_
  refine k_b ?_
  refine k_sg ?_
  refine s_run rfl rfl (r_eqlF rfl rfl (by omega)) ?_
  refine s_run rfl rfl (rab rfl) ?_
  refine k_nc ?_
  refine k_f rfl ?_
  refine k_sg ?_
  refine s_run rfl rfl (r_eqlF rfl rfl (by omega)) ?_
  refine s_run rfl rfl (rab rfl) ?_
  refine k_nc ?_
  refine k_f rfl ?_
  refine k_sg ?_
  refine s_run rfl rfl (r_eqlF rfl rfl (by omega)) ?_
  refine s_run rfl rfl (rab rfl) ?_
  refine k_nc ?_
  refine k_f rfl ?_
  refine k_sg ?_
  refine s_run rfl rfl (r_eqlF rfl rfl (by omega)) ?_
  refine s_run rfl rfl (rab rfl) ?_
  refine k_nc ?_
  refine k_f rfl ?_
  refine k_sg ?_
  refine s_run rfl rfl (r_eqlT rfl rfl (by omega)) ?_
  refine s_run rfl rfl (rab rfl) ?_
  refine k_nc ?_
  refine k_t rfl ?_
  refine k_sg ?_
  refine s_run rfl rfl (rmp rfl) ?_
  refine s_run rfl rfl (r_fa0 rfl fo88_2) ?_
  refine s_run rfl rfl (r_lo H 1 rfl rfl rfl ag3) ?_
  refine s_run rfl rfl (r_fa0 rfl fo88_3) ?_
  refine s_run rfl rfl (r_lo H 1 rfl rfl rfl ag3) ?_
  refine s_run rfl rfl (r_fa0 rfl fo88_4) ?_
  refine s_run rfl rfl (r_lo H 1 rfl rfl rfl ag3) ?_
  refine s_call rfl (oRemove (H.grp_ents 3 rfl) hok (by omega) k a t) (ca79 rfl) ?_
  rintro e W1 ⟨rfl, F', l', H', hok', hx'⟩
  refine ⟨_, rfl, ?_⟩
  have H := H.grp_at 3 rfl H'; clear H'; simp only [List.set_cons_zero, List.set_cons_succ] at H
  refine s_run rfl rfl (rai rfl) ?_
  refine k_nc ?_
  refine k_rg ?_
  refine s_run rfl rfl (r_la H 2 rfl rfl (fC_len D) ag29 sz29) ?_
  refine s_run rfl rfl (r_fa0 rfl fo88_2) ?_
  refine s_run rfl rfl (r_lo H 1 rfl rfl rfl ag3) ?_
  refine s_run rfl rfl (r_fa0 rfl fo88_3) ?_
  refine s_run rfl rfl (r_lo H 1 rfl rfl rfl ag3) ?_
  refine s_run rfl rfl (r_fa0 rfl fo88_4) ?_
  refine s_run rfl rfl (r_lo H 1 rfl rfl rfl ag3) ?_
  refine s_call rfl (hB H) (ca80 rfl) ?_
  rintro e W1 ⟨D', rfl, hxd, hD', H'⟩
  refine ⟨_, rfl, ?_⟩
  have HB := H.same H'; clear H' H; have H := Heap.start HB.ents
  refine s_run rfl rfl (rmt rfl) ?_
  refine s_run rfl rfl (r_ext (v := .agg _) rfl rfl) ?_
  refine s_run rfl rfl (r_ext (v := .int _ _) rfl rfl) ?_
  refine s_sw H 2 rfl rfl rfl rfl rfl rfl rfl sz29 ?_
  clear H; intro _ H; simp only [jA, jB, jC, jD, jE, jF, jG, jH, jI, jJ, jK, Nat.reduceAdd] at H
  refine s_run rfl rfl (rai rfl) ?_
  refine k_nil ?_
  refine b_norm ?_
  refine c_norm ?_
  refine k_sg ?_
  refine s_run rfl rfl (r_la H 2 rfl rfl (fC_len _) ag29 sz29) ?_
  refine s_run rfl rfl (rmi rfl) ?_
  refine s_run rfl rfl (rmi rfl) ?_
  refine s_run rfl rfl (r_eqlT rfl rfl (by omega)) ?_
  refine s_run rfl rfl (rmb rfl) ?_
  refine s_run rfl (g_on 109 (by kernel_rfl) rfl) (rmi rfl) ?_
  refine s_run rfl (g_on 109 (by kernel_rfl) rfl) (rmi rfl) ?_
  refine s_run rfl (g_on 109 (by kernel_rfl) rfl) (r_eqlT rfl rfl (by omega)) ?_
  refine s_run rfl rfl (r_pkT (v := .bool _) rfl rfl) ?_
  refine s_sw H 0 rfl rfl rfl rfl rfl rfl rfl sz29 ?_
  clear H; intro _ H; simp only [jA, jB, jC, jD, jE, jF, jG, jH, jI, jJ, jK, Nat.reduceAdd] at H
  refine s_run rfl rfl (rab rfl) ?_
  refine k_nc ?_
  refine k_ret ?_
  refine fx2r rfl (rv_a H 0 rfl rfl rfl ag29 sz29) (rv_t (v := .bool _) rfl) ?_
  obtain ⟨h1, h2⟩ := hfin HB hD' (by omega) H
  exact ⟨F', l', D', rfl, h1, h2, hok'.mono (by omega), hx', by rw [hxd, hx']⟩
 ·rw [if_neg k0, if_neg k1, if_neg k2, if_neg k3, if_neg k4]
  unfold fV at *
  refine k_in (N := 114) Try.func50 rfl rfl rfl ?_
  refine k_sg ?_
  refine s_box H rfl rfl ?_
  intro p4 _ H'; clear H; have H := H'; clear H'
  refine s_box H rfl rfl ?_
  intro p5 _ H'; clear H; have H := H'; clear H'
  refine s_al H rfl inf29 ?_
  intro p6 _ H'; clear H; have H := H'; clear H'
  refine s_run rfl rfl (rab rfl) ?_
  refine k_nc ?_
  refine k_sg ?_
  refine s_run rfl rfl (rai rfl) ?_
  refine s_run rfl rfl (rai rfl) ?_
  refine s_run rfl rfl (rai rfl) ?_
  refine s_run rfl rfl (rai rfl) ?_
  refine k_nc ?_
  refine k_seq ?_
  refine k_sg ?_
  refine s_run rfl rfl (r_fa0 rfl fo88_0) ?_
  refine s_run rfl rfl (r_lo H 1 rfl rfl rfl ag3) ?_
  refine k_nc ?_
  refine k_b ?_
  refine k_sg ?_
  refine s_run rfl rfl (r_eqlF rfl rfl (by omega)) ?_
  refine s_run rfl rfl (rab rfl) ?_
  refine k_nc ?_
  refine k_f rfl ?_
  refine k_sg ?_
  refine s_run rfl rfl (r_eqlF rfl rfl (by omega)) ?_
  refine s_run rfl rfl (rab rfl) ?_
  refine k_nc ?_
  refine k_f rfl ?_
  refine k_sg ?_
  refine s_run rfl rfl (r_eqlF rfl rfl (by omega)) ?_
  refine s_run rfl rfl (rab rfl) ?_
  refine k_nc ?_
  refine k_f rfl ?_
  refine k_sg ?_
  refine s_run rfl rfl (r_eqlF rfl rfl (by omega)) ?_
  refine s_run rfl rfl (rab rfl) ?_
  refine k_nc ?_
  refine k_f rfl ?_
  refine k_sg ?_
  refine s_run rfl rfl (r_eqlF rfl rfl (by omega)) ?_
  refine s_run rfl rfl (rab rfl) ?_
  refine k_nc ?_
  refine k_f rfl ?_
  refine k_sg ?_
  refine s_run rfl rfl (r_la H 2 rfl rfl (fC_len D) ag29 sz29) ?_
  refine s_sw H 0 rfl rfl rfl rfl rfl rfl rfl sz29 ?_
  clear H; intro _ H; simp only [jA, jB, jC, jD, jE, jF, jG, jH, jI, jJ, jK, Nat.reduceAdd] at H
  refine s_run rfl rfl (rab rfl) ?_
  refine k_nc ?_
  refine k_ret ?_
  refine b_ret ?_
  refine c_ret ?_
  refine fx2r rfl (rv_a H 0 rfl rfl rfl ag29 sz29) (rv_t (v := .bool _) rfl) ?_
  have hD2 := hD9.on H hIK
  obtain ⟨h1, h2⟩ := hfin H hD2 (Nat.le_refl _) (Heap.start H.ents)
  exact ⟨F, l, D, rfl, h1, h2, hok.mono (by omega), rfl, hx⟩
end Go.Proofs.Ytlakbclnilakbaa
end

section
namespace Go.Proofs.Ytlakbclnilakbaa
set_option maxHeartbeats 4000000
def FInv (S : FrS) (n : Nat) : Prop := ∀ k, k < 32 → (cls S k).length ≤ n ∧ (cls S k).Nodup
theorem FInv.up {S : FrS} {n m : Nat} (h : FInv S n) (hm : n ≤ m) : FInv S m := fun k hk => ⟨Nat.le_trans (h k hk).1 hm, (h k hk).2⟩
theorem fHas_no {S : FrS} {k : Nat} {a : Int} (hk : isC (k : Int) = true) (h : fHas S (k : Int) a ≠ true) : a ∉ cls S k := fun hm => h (by
 unfold fHas; rw [hk, Int.toNat_natCast, decide_eq_true hm]; rfl)
theorem snoc_inv {A B : List Int} {a : Int} {n : Nat} (h : A.Perm (B ++ [a])) (hn : B.length ≤ n) (hd : B.Nodup) (ha : a ∉ B) : A.length ≤ n + 1 ∧ A.Nodup := by
 refine ⟨by rw [h.length_eq, List.length_append, List.length_singleton]; omega, ?_⟩
 rw [h.nodup_iff, List.nodup_append]
 exact ⟨hd, by simp, fun x hx y hy e => ha (by rw [List.mem_singleton.1 hy] at e; rw [← e]; exact hx)⟩
/-- behind a take: the class is what it was, but for the cell taken -/
theorem fTake_perm (S : FrS) {m k : Nat} (hm : m < 4) (hne : fFill S m k (k * 5 + 1 + m) ≠ []) :
  (cls (updS (fFill S m k) (k * 5 + 1 + m) ((fFill S m k (k * 5 + 1 + m)).take ((fFill S m k (k * 5 + 1 + m)).length - 1))) k ++ [(fFill S m k (k * 5 + 1 + m)).getD ((fFill S m k (k * 5 + 1 + m)).length - 1) 0]).Perm (cls S k) := by
 refine .trans (perm_cnt fun z => ?_) (fFill_perm S m k hm)
 have h1 := own_upd_cnt (fFill S m k) m k hm ((fFill S m k (k * 5 + 1 + m)).take ((fFill S m k (k * 5 + 1 + m)).length - 1)) z
 have h2 := congrArg (List.count z) (snoc_last _ hne)
 rw [List.count_append] at h2 ⊢
 omega
theorem fFill_off (S : FrS) {m k j : Nat} (hm : m < 4) (h : j ≠ k) : cls (fFill S m k) j = cls S j := by
 unfold fFill
 split
 ·rw [cls_off (by omega), cls_off (by omega)]
 ·rfl
theorem fDo_inv {S : FrS} {n : Nat} (h : FInv S n) (kd m k a t : Int) : FInv (fDo S kd m k a t) (n + 1) := by
 have h1 := h.up (show n ≤ n + 1 by omega)
 unfold fDo
 split
 ·unfold fPush
  split
  ·exact h1
  ·rename_i hk
   split
   ·exact h1
   ·rename_i hh
    have hk2 : isC k = true := by simpa using hk
    obtain ⟨k, rfl, hk32⟩ := isC_nat hk2
    rw [Int.toNat_natCast]
    intro j hj
    by_cases e : j = k
    ·subst e
     exact snoc_inv (fPush_perm S j a) (h j hj).1 (h j hj).2 (fHas_no hk2 hh)
    ·show (cls (updS S (k * 5) _) j).length ≤ _ ∧ (cls (updS S (k * 5) _) j).Nodup
     rw [cls_off (by omega)]; exact h1 j hj
 split
 ·unfold fTake
  split
  ·exact h1
  ·rename_i hb
   have hm2 : isM m = true := by cases h : isM m <;> simp [h] at hb ⊢
   have hk2 : isC k = true := by cases h : isC k <;> simp [h] at hb ⊢
   obtain ⟨m, rfl, hm4⟩ := isM_nat hm2
   obtain ⟨k, rfl, hk32⟩ := isC_nat hk2
   rw [Int.toNat_natCast, Int.toNat_natCast]
   have hf : FInv (fFill S m k) (n + 1) := fun j hj => by
    by_cases e : j = k
    ·subst e
     have hp := fFill_perm S m j hm4
     exact ⟨by rw [hp.length_eq]; exact (h1 j hj).1, hp.nodup_iff.2 (h j hj).2⟩
    ·rw [fFill_off S hm4 e]; exact h1 j hj
   split
   ·exact hf
   ·rename_i hne
    intro j hj
    by_cases e : j = k
    ·subst e
     have hp := fTake_perm S hm4 hne
     have h2 := hp.length_eq
     have h3 := hp.nodup_iff.2 (h j hj).2
     have h4 := (h j hj).1
     rw [List.length_append, List.length_singleton] at h2
     rw [List.nodup_append] at h3
     exact ⟨by show (cls (updS _ _ _) j).length ≤ _; omega, h3.1⟩
    ·show (cls (updS (fFill S m k) (k * 5 + 1 + m) _) j).length ≤ _ ∧ (cls (updS (fFill S m k) (k * 5 + 1 + m) _) j).Nodup
     rw [cls_off (by omega)]; exact hf j hj
 split
 ·unfold fPut
  split
  ·exact h1
  ·rename_i hb
   have hm2 : isM m = true := by cases h : isM m <;> simp [h] at hb ⊢
   have hk2 : isC k = true := by cases h : isC k <;> simp [h] at hb ⊢
   split
   ·exact h1
   ·rename_i hh
    obtain ⟨m, rfl, hm4⟩ := isM_nat hm2
    obtain ⟨k, rfl, hk32⟩ := isC_nat hk2
    rw [Int.toNat_natCast, Int.toNat_natCast]
    intro j hj
    by_cases e : j = k
    ·subst e
     exact snoc_inv (fPutN_perm S m j a hm4) (h j hj).1 (h j hj).2 (fHas_no hk2 hh)
    ·have e2 : cls (fPutN S m k a) j = cls S j := by
      unfold fPutN
      split
      ·rw [cls_off (by omega), cls_off (by omega)]
      ·rw [cls_off (by omega)]
     show (cls (fPutN S m k a) j).length ≤ _ ∧ (cls (fPutN S m k a) j).Nodup
     rw [e2]; exact h1 j hj
 split
 ·unfold fDrain
  split
  ·rename_i hm2
   obtain ⟨m, rfl, hm4⟩ := isM_nat hm2
   rw [Int.toNat_natCast]
   intro j hj
   have hp := fDrain_perm S m 32 hm4 j
   exact ⟨by rw [hp.length_eq]; exact (h1 j hj).1, hp.nodup_iff.2 (h j hj).2⟩
  ·exact h1
 split
 ·unfold fRemove
  split
  ·exact h1
  ·rename_i hk
   have hk2 : isC k = true := by simpa using hk
   obtain ⟨k, rfl, hk32⟩ := isC_nat hk2
   rw [Int.toNat_natCast]
   intro j hj
   show (cls (fRemN S k a t 5) j).length ≤ _ ∧ (cls (fRemN S k a t 5) j).Nodup
   by_cases e : j = k
   ·subst e
    rw [fRem_cls]
    exact ⟨Nat.le_trans (stay_len _ _ _) (h1 j hj).1, (h j hj).2.filter _⟩
   ·rw [fRem_off _ _ _ _ _ e]; exact h1 j hj
 ·exact h1
theorem row_cls (S : FrS) {i : Nat} : (S i).length ≤ (cls S (i / 5)).length := by
 unfold cls
 simp only [List.length_append]
 rcases (by omega : i = i / 5 * 5 ∨ i = i / 5 * 5 + 1 ∨ i = i / 5 * 5 + 2 ∨ i = i / 5 * 5 + 3 ∨ i = i / 5 * 5 + 4) with e | e | e | e | e
 all_goals
  have h := congrArg (fun x => (S x).length) e
  omega
theorem FInv.row {S : FrS} {n : Nat} (h : FInv S n) {i : Nat} (hi : i < 160) : (S i).length ≤ n := Nat.le_trans (row_cls S) (h (i / 5) (by omega)).1
theorem FrOk.tight {F : Nat → RowS} {l : FrM} {M n : Nat} (h : FrOk F l M) (hl : ∀ i, i < 160 → (F i).xs.length = (F i).n) (hi : FInv (xsOf F) n) : FrOk F l n :=
 ⟨h.keys, h.got, fun i hi2 => by rw [← hl i hi2]; exact hi.row hi2⟩
theorem DOk.tight {K : List Nat} {w : World} {D : Nat → RowS} {M n : Nat} (h : DOk K w D M) (hi : FInv (xsOf D) n) : DOk K w D n :=
 ⟨h.sees, h.len, h.cap, fun i hi2 => by rw [← h.len i hi2]; exact hi.row hi2⟩
end Go.Proofs.Ytlakbclnilakbaa
end

section
namespace Go.Proofs.Ytlakbclnilakbaa
open Go.RowKit
structure FOp where
 f0 : Int
 f1 : Int
 f2 : Int
 f3 : Int
 f4 : Int
def FOp.cells (u : FOp) : List Value := [.int .i64 u.f0, .int .i64 u.f1, .int .i64 u.f2, .int .i64 u.f3, .int .i64 u.f4]
structure FOpOk (w : World) (u : FOp) : Prop where
 w0 : (Lit.int .i64 u.f0).wf = true
 w1 : (Lit.int .i64 u.f1).wf = true
 w2 : (Lit.int .i64 u.f2).wf = true
 w3 : (Lit.int .i64 u.f3).wf = true
 w4 : (Lit.int .i64 u.f4).wf = true
def ScriptFOp (w : World) (A : Option Addr) (ops : List FOp) : Prop := (ops.length ≠ 0 → ∃ b o, A = some ⟨b, o, none⟩ ∧ ∀ i op, ops[i]? = some op → Reads (fun v : Value => v) w b (o + i * 5) op.cells) ∧ ∀ op ∈ ops, FOpOk w op
theorem FOpOk.later {w W : World} {u : FOp} (h : FOpOk w u) (hO : Only [] w W) : FOpOk W u := ⟨h.w0, h.w1, h.w2, h.w3, h.w4⟩
theorem ScriptFOp.later {w W : World} {A : Option Addr} {ops : List FOp} (h : ScriptFOp w A ops) (hO : Only [] w W) : ScriptFOp W A ops :=
 ⟨fun h0 => by
  obtain ⟨b, o, e, hr⟩ := h.1 h0
  exact ⟨b, o, e, fun i op hi => (hr i op hi).later hO (by simp)⟩, fun op hop => (h.2 op hop).later hO⟩
section
open Go.ChangeShapes Go.WideShapes Go.Deep
variable {H : Type} {enc : TypeId × Value → H} {w : World} {base : Nat} {spare : Nat → Bool} {held : Bool}
set_option maxRecDepth 100000 in
theorem open_FOp {fuel : Nat} {cs : List Value} {y : DataW H × List MemPlace} (h : DataW.trod enc Try.prog w base spare held fuel 88 cs = some y) : ∃ op : FOp, cs = op.cells ∧ FOpOk w op := by
 obtain ⟨xs, n, _, _, hl, hlen, hg⟩ := DataW.trod_struct Try.underlying88 h
 have hone := o_one Try.underlying88 (by kernel_rfl)
 have hcl : cs.length = 5 := hl.trans (by kernel_rfl)
 replace hlen : xs.length = 5 := hlen
 match cs, hcl, xs, hlen with
 | [c0, c1, c2, c3, c4], _, [y0, y1, y2, y3, y4], _ =>
  obtain ⟨o0, k0⟩ := hone_of hone 0 _ rfl
  obtain ⟨o1, k1⟩ := hone_of hone 1 _ rfl
  obtain ⟨o2, k2⟩ := hone_of hone 2 _ rfl
  obtain ⟨o3, k3⟩ := hone_of hone 3 _ rfl
  obtain ⟨o4, k4⟩ := hone_of hone 4 _ rfl
  have g0 := hg 0 _ rfl
  have g1 := hg 1 _ rfl
  have g2 := hg 2 _ rfl
  have g3 := hg 3 _ rfl
  have g4 := hg 4 _ rfl
  rw [o0, k0] at g0
  rw [o1, k1] at g1
  rw [o2, k2] at g2
  rw [o3, k3] at g3
  rw [o4, k4] at g4
  replace g0 := g0.trans (show _ = some y0 from rfl)
  replace g1 := g1.trans (show _ = some y1 from rfl)
  replace g2 := g2.trans (show _ = some y2 from rfl)
  replace g3 := g3.trans (show _ = some y3 from rfl)
  replace g4 := g4.trans (show _ = some y4 from rfl)
  obtain ⟨z0, e0, _, w0⟩ := DataW.trod_int Try.underlying3 g0
  obtain ⟨z1, e1, _, w1⟩ := DataW.trod_int Try.underlying3 g1
  obtain ⟨z2, e2, _, w2⟩ := DataW.trod_int Try.underlying3 g2
  obtain ⟨z3, e3, _, w3⟩ := DataW.trod_int Try.underlying3 g3
  obtain ⟨z4, e4, _, w4⟩ := DataW.trod_int Try.underlying3 g4
  obtain rfl : c0 = .int .i64 z0 := by simpa using e0
  obtain rfl : c1 = .int .i64 z1 := by simpa using e1
  obtain rfl : c2 = .int .i64 z2 := by simpa using e2
  obtain rfl : c3 = .int .i64 z3 := by simpa using e3
  obtain rfl : c4 = .int .i64 z4 := by simpa using e4
  exact ⟨⟨z0, z1, z2, z3, z4⟩, rfl, w0, w1, w2, w3, w4⟩
set_option maxRecDepth 100000 in
theorem opens_FOp (W : World) {r : Reach} (b0 : Nat) (v : Value) (d : DataW H) (p : List MemPlace)
  (hv : Value.okWide Try.prog W r b0 22 v) (h : DataW.Trod enc Try.prog W base spare held 22 v d p) :
  ∃ x : Option Addr × Nat × Nat × List FOp, v = .slice x.1 x.2.1 x.2.2.1 ∧ (ScriptFOp W x.1 x.2.2.2 ∧ x.2.2.2.length = x.2.1 ∧ x.2.1 ≤ 9223372036854775807 ∧ x.2.1 ≤ x.2.2.1) := by
 obtain ⟨a, len, cap, rfl⟩ := okWide_slice Try.underlying22 hv
 obtain ⟨fuel, hf⟩ := h
 have c5 : Try.prog.cellsOf 88 = 5 := by kernel_rfl
 rcases open_slice Try.underlying22 hf with ⟨hcs, _⟩ | ⟨x, l, c, m, n, D, Pl, hcs, _, hl, hm, hmm, _, hx⟩
 ·simp [Value.cells] at hcs
  obtain ⟨rfl, rfl, rfl⟩ := hcs
  exact ⟨(none, 0, 0, []), rfl, ⟨fun h => absurd rfl h, by simp⟩, rfl, by show (0 : Nat) ≤ _; omega, by show (0 : Nat) ≤ _; omega⟩
 ·simp [Value.cells] at hcs
  obtain ⟨rfl, rfl, rfl⟩ := hcs
  rw [c5] at hx
  have hlm : len ≤ m := by rw [hmm]; split <;> omega
  obtain ⟨ops, hol, hq⟩ := o_list (Q := fun i (op : FOp) => FOpOk W op ∧ ∀ j u, op.cells[j]? = some u → W.cell? (x.add (i * 5 + j)) = some u) len (fun i hi => by
   obtain ⟨cs', hc, ht⟩ := hx i (by omega)
   obtain ⟨op, rfl, hok⟩ := open_FOp ht
   obtain ⟨_, hcl, hat⟩ := World.cells?_some hc
   refine ⟨op, hok, fun j u hj => ?_⟩
   have hj5 : j < 5 := by have := (List.getElem?_eq_some_iff.1 hj).1; rw [hcl] at this; exact this
   rw [← Go.Deep.add_add, hat j hj5, hj])
  refine ⟨(some x, len, cap, ops), rfl, ⟨fun h0 => ?_, fun op hop => ?_⟩, hol, by simp only [maxLen] at hm; show len ≤ _; omega, by show len ≤ cap; omega⟩
  ·have h00 : ops.length ≠ 0 := h0
   obtain ⟨op0, hop0⟩ : ∃ op, ops[0]? = some op := ⟨_, List.getElem?_eq_getElem (by omega)⟩
   obtain ⟨b, off, spot⟩ := x
   have hc0 := (hq 0 op0 hop0).2 0 _ rfl
   have hspot : spot = none := by simpa [Addr.add] using World.cell?_spot hc0
   subst hspot
   refine ⟨b, off, rfl, fun i op hi j u hu => ?_⟩
   have := (hq i op hi).2 j u hu
   rw [o_add] at this
   rw [Nat.add_assoc]; exact this
  ·obtain ⟨i, hi, rfl⟩ := List.mem_iff_getElem.1 hop
   exact (hq i _ (List.getElem?_eq_getElem hi)).1
end
theorem wf64_of {z : Int} (h : (Lit.int .i64 z).wf = true) : wf64 z := by
 simp [Lit.wf, IntKind.min, IntKind.max, IntKind.signed, IntKind.bits] at h; exact h
end Go.Proofs.Ytlakbclnilakbaa
end

section
namespace Go.Proofs.Ytlakbclnilakbaa
open Go.RowKit
set_option maxRecDepth 100000
set_option maxHeartbeats 8000000
theorem frNil_inv : FInv (xsOf frNil) 0 := fun k hk => ⟨Nat.le_refl _, List.nodup_nil⟩
theorem awake14 (w : World) : Calls Try.prog 8 [].toArray w fun e w' => e = .returned (.bool true) ∧ Only [] w w' := by
 have H := Heap.nil w
 have e4 : (fTake (fPush (fPush (xsOf frNil) 0 512).1 0 514).1 1 0).2.1 = 514 := by kernel_rfl
 have e5 : (fTake (fPush (fPush (xsOf frNil) 0 512).1 0 514).1 1 0).2.2 = 0 := by kernel_rfl
 have e6 : fOwn (fTake (fPush (fPush (xsOf frNil) 0 512).1 0 514).1 1 0).1 1 0 = 1 := by kernel_rfl
 refine k_in (N := 29) Try.func8 rfl rfl rfl ?_
 refine k_sg ?_
 refine s_run rfl rfl (rab rfl) ?_
 refine k_nc ?_
 refine k_sg ?_
 refine s_call rfl (oNewF _) (ca47 rfl) ?_
 rintro e W1 ⟨p, b, rfl, H'⟩
 refine ⟨_, rfl, ?_⟩
 have H := H.more (A := [grp _]) (grp_heap H'); clear H'; simp only [List.cons_append, List.nil_append] at H
 refine s_run rfl rfl (rap rfl) ?_
 refine k_nc ?_
 refine k_seq ?_
 refine k_sg ?_
 refine s_run rfl rfl (rmp rfl) ?_
 refine s_run rfl rfl (r_ptnilF rfl rfl Try.underlying24) ?_
 refine k_nc ?_
 refine k_f rfl ?_
 refine k_skip ?_
 refine c_norm ?_
 refine k_sg ?_
 refine s_run rfl rfl (rmp rfl) ?_
 refine s_call rfl (oPush (H.grp_ents 0 rfl) frOk_nil (by omega) 0 512) (ca48 rfl) ?_
 rintro e W1 ⟨rfl, F1, l1, H', hok1, hx1⟩
 refine ⟨_, rfl, ?_⟩
 have H := H.grp_at 0 rfl H'; clear H'; simp only [List.set_cons_zero] at H
 refine k_nc ?_
 refine k_sg ?_
 refine s_run rfl rfl (rmp rfl) ?_
 refine s_call rfl (oPush (H.grp_ents 0 rfl) hok1 (by omega) 0 514) (ca48 rfl) ?_
 rintro e W1 ⟨rfl, F2, l2, H', hok2, hx2⟩
 refine ⟨_, rfl, ?_⟩
 have H := H.grp_at 0 rfl H'; clear H'; simp only [List.set_cons_zero] at H
 refine k_nc ?_
 refine k_sg ?_
 refine s_run rfl rfl (rmp rfl) ?_
 refine s_call rfl ((by have h := oTake (H.grp_ents 0 rfl) hok2 (by omega) 1 0; rw [hx2, hx1, e4, e5] at h; exact h)) (ca16 rfl) ?_
 rintro e W1 ⟨rfl, F3, l3, H', hok3, hx3⟩
 refine ⟨_, rfl, ?_⟩
 have H := H.grp_at 0 rfl H'; clear H'; simp only [List.set_cons_zero] at H
 refine s_run rfl rfl (rmt rfl) ?_
 refine s_run rfl rfl (r_ext (v := .int _ _) rfl rfl) ?_
 refine s_run rfl rfl (r_ext (v := .int _ _) rfl rfl) ?_
 refine s_run rfl rfl (rai rfl) ?_
 refine s_run rfl rfl (rai rfl) ?_
 refine k_nc ?_
 refine k_sg ?_
 refine s_run rfl rfl (rmi rfl) ?_
 refine s_run rfl rfl (r_eqlT rfl rfl (by omega)) ?_
 refine s_run rfl rfl (rmb rfl) ?_
 refine s_run rfl (g_on 18 (by kernel_rfl) rfl) (rmi rfl) ?_
 refine s_run rfl (g_on 18 (by kernel_rfl) rfl) (r_eqlT rfl rfl (by omega)) ?_
 refine s_run rfl rfl (r_pkT (v := .bool _) rfl rfl) ?_
 refine s_run rfl rfl (rmb rfl) ?_
 refine s_run rfl (g_on 22 (by kernel_rfl) rfl) (rmp rfl) ?_
 refine s_call (g_on 22 (by kernel_rfl) rfl) ((by have h := oOwn (H.grp_ents 0 rfl) hok3 1 0 ⟨by omega, by omega⟩ ⟨by omega, by omega⟩; rw [hx3, e6] at h; exact h)) (ca49 rfl) ?_
 rintro e W1 ⟨rfl, H'⟩
 refine ⟨_, rfl, ?_⟩
 have H := H.same H'; clear H'
 refine s_run rfl (g_on 22 (by kernel_rfl) rfl) (r_eqlT rfl rfl (by omega)) ?_
 refine s_run rfl rfl (r_pkT (v := .bool _) rfl rfl) ?_
 refine s_run rfl rfl (rmb rfl) ?_
 refine s_run rfl rfl (r_pkT (v := .bool _) rfl rfl) ?_
 refine s_run rfl rfl (rab rfl) ?_
 refine k_nc ?_
 refine k_ret ?_
 refine fin1r (v := .bool _) rfl rfl ?_
 exact ⟨rfl, H.only⟩
end Go.Proofs.Ytlakbclnilakbaa
end

section
namespace Go.Proofs.Ytlakbclnilakbaa
open Go.RowKit
set_option maxRecDepth 100000
set_option maxHeartbeats 8000000
theorem lDoH {p b n : Nat} {F D : Nat → RowS} {l : FrM} {W W2 : World} {L0 L : List Ent} {k : Nat} (hE0 : ∀ j ∈ ids (frE p b F F l), j ∈ ids L0) (hK : ∀ i ∈ ids L0, i < W.heap.size) (hD : DOk (ids L0) W D n) (hok : FrOk F l n) (hn : n ≤ 5000) (hx : xsOf D = xsOf F) (hi : FInv (xsOf F) n)
  (H : Heap W (ids L0) L W2) (hk : L[k]? = some (grp (frE p b F F l))) (kd m c a t : Int) (hm : wf64 m) :
  Calls Try.prog 50 [ptrF p, fV D, opV kd m c a t].toArray W2 fun e w' => ∃ F' l' D', e = .returned (.tuple [fV D', .bool true].toArray) ∧ Heap W (ids L0) (L.set k (grp (frE p b F' F' l'))) w' ∧ DOk (ids (L.set k (grp (frE p b F' F' l')))) w' D' (n + 1) ∧ FrOk F' l' (n + 1) ∧ xsOf D' = xsOf F' ∧ FInv (xsOf F') (n + 1) :=
 (lDo (I := ids (frE p b F F l)) (K := ids L0 ++ ids L) (H.grp_ents k hk) rfl (fun j hj => List.mem_append_left _ (hE0 j hj)) (on_lt hK H) hok (hD.on H (fun _ h => h)) hn hx kd m c a t hm).mono fun e w' ⟨F', l', D', he, H', hD', hok', hx', hxd⟩ => by
  have hinv := fDo_inv hi kd m c a t
  rw [← hx'] at hinv
  refine ⟨F', l', D', he, H.grp_at k hk H', (hD'.mono (fun j hj => ?_) (Nat.le_refl _)).tight (by rw [hxd]; exact hinv), hok'.tight (fun i hi => fam_len H' 2 rfl hi) hinv, hxd, hinv⟩
  obtain ⟨E, hE, hj2⟩ := mem_ids.1 hj
  rcases List.mem_or_eq_of_mem_set hE with h | h
  ·exact List.mem_append_left _ (List.mem_append_right _ (mem_ids.2 ⟨E, h, hj2⟩))
  ·subst h; exact List.mem_append_right _ hj2
theorem lPlayed (B : Option Addr) (ln d : Nat) (ops : List FOp) (w : World) (hs : ScriptFOp w B ops) (hl : ops.length = ln) (hn : ln ≤ 9223372036854775807) :
  Calls Try.prog 9 [.slice B ln d].toArray w fun e w' => ∃ p b F l D, e = .returned (.tuple [ptrF p, fV D, .bool true].toArray) ∧ Heap w [] (frE p b F F l) w' ∧ DOk (ids (frE p b F F l)) w' D 120 ∧ FrOk F l 120 ∧ xsOf D = xsOf F ∧ FInv (xsOf F) 120 := by
 have H := Heap.nil w
 refine k_in (N := 79) Try.func9 rfl rfl rfl ?_
 refine k_sg ?_
 refine s_run rfl rfl (rap rfl) ?_
 refine s_al H rfl inf29 ?_
 intro p3 _ H'; clear H; have H := H'; clear H'
 refine s_run rfl rfl (rab rfl) ?_
 refine k_nc ?_
 refine k_sg ?_
 refine s_call rfl (oNewF _) (ca47 rfl) ?_
 rintro e W1 ⟨p, b, rfl, H'⟩
 refine ⟨_, rfl, ?_⟩
 have H := H.more (A := [grp _]) (grp_heap H'); clear H'; simp only [List.cons_append, List.nil_append] at H
 refine s_run rfl rfl (rap rfl) ?_
 refine k_nc ?_
 refine k_sg ?_
 refine s_al H rfl inf29 ?_
 intro p6 _ H'; clear H; have H := H'; clear H'
 refine k_nc ?_
 refine k_seq ?_
 refine k_sg ?_
 refine s_run rfl rfl (rai rfl) ?_
 refine k_nc ?_
 refine k_cut (fun f W => ∃ (F D : Nat → RowS) (l : FrM), FrOk F l 120 ∧ DOk (ids [blk p6 (fC D) 29, grp (frE p b F F l), blk p3 (fC fun _ => RowS.nil) 29]) W D 120 ∧ xsOf D = xsOf F ∧ FInv (xsOf F) 120 ∧ f 3 = ptrF p3 ∧ f 5 = ptrF p ∧ f 6 = ptrF p6 ∧ Heap w [] [blk p6 (fC D) 29, grp (frE p b F F l), blk p3 (fC fun _ => RowS.nil) 29] W) ?_ ?_
 rotate_left
 ·clear H
  rintro f W ⟨F, D, l, hok, hD, hx, hinv, f3, f5, f6, HB⟩
  obtain ⟨f, rfl⟩ := live3 f3 f5 f6
  clear f3 f5 f6
  have hD0 : DOk [] W D 120 := hD.mono (by simp) (Nat.le_refl _)
  have hEl := fun {W2 : World} (h : Only [] W W2) => (HB.same h).grp_ents 1 rfl
  have oL := fun {W2 : World} (h : Only [] W W2) k => oList (hEl h) hok (by omega) k
  have oLn := fun {W2 : World} (h : Only [] W W2) k => oLen (hEl h) hok (by omega) k
  have oO := fun {W2 : World} (h : Only [] W W2) m k hm hk => oOwn (hEl h) hok m k hm hk
  have dL := fun {W2 : World} (h : Only [] W W2) k => dList (K := []) (hD0.later h (by simp)) (by omega) (by simp) k
  have dO := fun {W2 : World} (h : Only [] W W2) m k => dOwn (hD0.later h (by simp)) m k
  have hLl := fun k => fList_len hD0 k
  rw [hx] at dL dO hLl
  generalize hSS : xsOf F = S at *
  unfold fV at dL dO
  have H := Heap.nil W
  refine c_norm ?_
  refine k_seq ?_
  refine k_sg ?_
  refine s_run rfl rfl (rai rfl) ?_
  refine k_nc ?_
  refine k_b ?_
  refine k_loop (fun z f W2 => ∃ (k : Nat), k ≤ 32 ∧ z = 32 - k ∧ f 3 = ptrF p3 ∧ f 5 = ptrF p ∧ f 6 = ptrF p6 ∧ f 10 = .int .i64 k ∧ Heap W [] [] W2) 32 ⟨0, by omega, rfl, rfl, rfl, rfl, rfl, H⟩ ?_
  clear H
  rintro z f W2 ⟨k, hk, rfl, f3, f5, f6, f10, H⟩
  obtain ⟨f, rfl⟩ := live4 f3 f5 f6 f10
  clear f3 f5 f6 f10
  by_cases hlt : k < 32
  ·have oL := fun {W2 : World} (h : Only [] W W2) => oL h k
   have oLn := fun {W2 : World} (h : Only [] W W2) => oLn h k
   have dL := fun {W2 : World} (h : Only [] W W2) => dL h k
   have hLl := hLl k
   generalize fList S k = R at *
   refine k_seq ?_
   refine k_sg ?_
   refine s_run rfl rfl (rmi rfl) ?_
   refine s_run rfl rfl (r_lssT rfl rfl (by omega)) ?_
   refine k_nc ?_
   refine k_t rfl ?_
   refine k_skip ?_
   refine c_norm ?_
   refine k_seq ?_
   refine k_b ?_
   refine k_seq ?_
   refine k_seq ?_
   refine k_cut (fun f W2 => f 3 = ptrF p3 ∧ f 5 = ptrF p ∧ f 6 = ptrF p6 ∧ f 10 = .int .i64 k ∧ f 59 = .bool false ∧ Heap W [] [] W2) ?_ ?_
   ·refine k_trF mixed ?_; have H' := H.drew; clear H; have H := H'; clear H'
    refine tqn 0 rfl rfl rfl (fun _ hS => r_mv (v := .pointer _) rfl) trivial ?_
    refine tqn 1 rfl rfl rfl (fun _ hS => r_mv (v := .int _ _) rfl) trivial ?_
    refine tqn 4 rfl rfl rfl (fun _ hS => r_mv (v := .int _ _) rfl) trivial ?_
    refine t_up2 2 3 (by kernel_rfl) ?_ ?_
    ·refine up_mk rfl ?_
     refine s_call rfl (oL H.only) (ca13 rfl) ?_
     rintro e W1 ⟨A1, c1, rfl, H'⟩
     refine ⟨_, rfl, ?_⟩
     have H := H.more H'; clear H'; simp only [List.cons_append, List.nil_append] at H
     refine k_nil ?_
     refine t_on trivial ?_
     refine t_up1 3 (by kernel_rfl) ?_
     refine up_mk rfl ?_
     refine s_run rfl rfl (r_la (HB.same H.only) 0 rfl rfl (fC_len D) ag29 sz29) ?_
     refine k_nil ?_
     refine t_on trivial ?_
     refine t_up1 5 (by kernel_rfl) ?_
     refine up_mk rfl ?_
     refine s_call rfl (dL H.only) (ca14 rfl) ?_
     rintro e W1 ⟨A2, c2, rfl, hS2, H'⟩
     refine ⟨_, rfl, ?_⟩
     have H := H.same H'; clear H'
     refine k_nil ?_
     refine t_on trivial ?_
     refine t_up1 6 (by kernel_rfl) ?_
     refine up_mk rfl ?_
     refine s_call rfl (rIntsT _ _ _ _ _ R _ (own_seesC H 0 rfl) hS2 rfl (by omega)) (ca12 rfl) ?_
     rintro e W1 ⟨rfl, H'⟩
     refine ⟨_, rfl, ?_⟩
     have H := H.same H'; clear H'
     refine k_nil ?_
     refine t_on trivial ?_
     refine tqn 7 rfl rfl rfl (fun _ hS => r_notT rfl) trivial ?_
     refine tqn 8 rfl rfl rfl (fun _ hS => r_mv (v := .bool _) rfl) trivial ?_
     refine tqn 9 rfl rfl (g_on 50 (by kernel_rfl) rfl) (fun _ hS => r_mv (v := .pointer _) rfl) trivial ?_
     refine tqn 10 rfl rfl (g_on 50 (by kernel_rfl) rfl) (fun _ hS => r_mv (v := .int _ _) rfl) trivial ?_
     refine tqn 13 rfl rfl (g_on 50 (by kernel_rfl) rfl) (fun _ hS => r_mv (v := .int _ _) rfl) trivial ?_
     refine t_up2 11 12 (by kernel_rfl) ?_ ?_
     ·refine up_mk rfl ?_
      refine s_call (g_on 50 (by kernel_rfl) rfl) (oLn H.only) (ca17 rfl) ?_
      rintro e W1 ⟨rfl, H'⟩
      refine ⟨_, rfl, ?_⟩
      have H := H.same H'; clear H'
      refine k_nil ?_
      refine t_on trivial ?_
      refine t_up1 12 (by kernel_rfl) ?_
      refine up_mk rfl ?_
      refine s_run rfl (g_on 50 (by kernel_rfl) rfl) (r_la (HB.same H.only) 0 rfl rfl (fC_len D) ag29 sz29) ?_
      refine k_nil ?_
      refine t_on trivial ?_
      refine t_up1 14 (by kernel_rfl) ?_
      refine up_mk rfl ?_
      refine s_call (g_on 50 (by kernel_rfl) rfl) (dL H.only) (ca14 rfl) ?_
      rintro e W1 ⟨A3, c3, rfl, hS3, H'⟩
      refine ⟨_, rfl, ?_⟩
      have H := H.same H'; clear H'
      refine k_nil ?_
      refine t_on trivial ?_
      refine tqn 15 rfl rfl (g_on 50 (by kernel_rfl) rfl) (fun _ hS => r_len rfl Try.underlying25) trivial ?_
      refine tqn 16 rfl rfl (g_on 50 (by kernel_rfl) rfl) (fun _ hS => r_neqF rfl rfl (by omega)) trivial ?_
      refine tqn 17 rfl rfl rfl (fun _ hS => r_pkF (v := .bool _) rfl rfl) trivial ?_
      refine t_done (by kernel_rfl) ?_
      refine k_met ?_
      exact ⟨rfl, rfl, rfl, rfl, rfl, H.clear⟩
     ·refine up_mk rfl ?_
      refine s_run rfl (g_on 50 (by kernel_rfl) rfl) (r_la (HB.same H.only) 0 rfl rfl (fC_len D) ag29 sz29) ?_
      refine k_nil ?_
      refine t_on trivial ?_
      refine t_up1 11 (by kernel_rfl) ?_
      refine up_mk rfl ?_
      refine s_call (g_on 50 (by kernel_rfl) rfl) (oLn H.only) (ca17 rfl) ?_
      rintro e W1 ⟨rfl, H'⟩
      refine ⟨_, rfl, ?_⟩
      have H := H.same H'; clear H'
      refine k_nil ?_
      refine t_on trivial ?_
      refine t_up1 14 (by kernel_rfl) ?_
      refine up_mk rfl ?_
      refine s_call (g_on 50 (by kernel_rfl) rfl) (dL H.only) (ca14 rfl) ?_
      rintro e W1 ⟨A3, c3, rfl, hS3, H'⟩
      refine ⟨_, rfl, ?_⟩
      have H := H.same H'; clear H'
      refine k_nil ?_
      refine t_on trivial ?_
      refine tqn 15 rfl rfl (g_on 50 (by kernel_rfl) rfl) (fun _ hS => r_len rfl Try.underlying25) trivial ?_
      refine tqn 16 rfl rfl (g_on 50 (by kernel_rfl) rfl) (fun _ hS => r_neqF rfl rfl (by omega)) trivial ?_
      refine tqn 17 rfl rfl rfl (fun _ hS => r_pkF (v := .bool _) rfl rfl) trivial ?_
      refine t_done (by kernel_rfl) ?_
      refine k_met ?_
      exact ⟨rfl, rfl, rfl, rfl, rfl, H.clear⟩
    ·refine up_mk rfl ?_
     refine s_run rfl rfl (r_la (HB.same H.only) 0 rfl rfl (fC_len D) ag29 sz29) ?_
     refine k_nil ?_
     refine t_on trivial ?_
     refine t_up1 2 (by kernel_rfl) ?_
     refine up_mk rfl ?_
     refine s_call rfl (oL H.only) (ca13 rfl) ?_
     rintro e W1 ⟨A1, c1, rfl, H'⟩
     refine ⟨_, rfl, ?_⟩
     have H := H.more H'; clear H'; simp only [List.cons_append, List.nil_append] at H
     refine k_nil ?_
     refine t_on trivial ?_
     refine t_up1 5 (by kernel_rfl) ?_
     refine up_mk rfl ?_
     refine s_call rfl (dL H.only) (ca14 rfl) ?_
     rintro e W1 ⟨A2, c2, rfl, hS2, H'⟩
     refine ⟨_, rfl, ?_⟩
     have H := H.same H'; clear H'
     refine k_nil ?_
     refine t_on trivial ?_
     refine t_up1 6 (by kernel_rfl) ?_
     refine up_mk rfl ?_
     refine s_call rfl (rIntsT _ _ _ _ _ R _ (own_seesC H 0 rfl) hS2 rfl (by omega)) (ca12 rfl) ?_
     rintro e W1 ⟨rfl, H'⟩
     refine ⟨_, rfl, ?_⟩
     have H := H.same H'; clear H'
     refine k_nil ?_
     refine t_on trivial ?_
     refine tqn 7 rfl rfl rfl (fun _ hS => r_notT rfl) trivial ?_
     refine tqn 8 rfl rfl rfl (fun _ hS => r_mv (v := .bool _) rfl) trivial ?_
     refine tqn 9 rfl rfl (g_on 50 (by kernel_rfl) rfl) (fun _ hS => r_mv (v := .pointer _) rfl) trivial ?_
     refine tqn 10 rfl rfl (g_on 50 (by kernel_rfl) rfl) (fun _ hS => r_mv (v := .int _ _) rfl) trivial ?_
     refine tqn 13 rfl rfl (g_on 50 (by kernel_rfl) rfl) (fun _ hS => r_mv (v := .int _ _) rfl) trivial ?_
     refine t_up2 11 12 (by kernel_rfl) ?_ ?_
     ·refine up_mk rfl ?_
      refine s_call (g_on 50 (by kernel_rfl) rfl) (oLn H.only) (ca17 rfl) ?_
      rintro e W1 ⟨rfl, H'⟩
      refine ⟨_, rfl, ?_⟩
      have H := H.same H'; clear H'
      refine k_nil ?_
      refine t_on trivial ?_
      refine t_up1 12 (by kernel_rfl) ?_
      refine up_mk rfl ?_
      refine s_run rfl (g_on 50 (by kernel_rfl) rfl) (r_la (HB.same H.only) 0 rfl rfl (fC_len D) ag29 sz29) ?_
      refine k_nil ?_
      refine t_on trivial ?_
      refine t_up1 14 (by kernel_rfl) ?_
      refine up_mk rfl ?_
      refine s_call (g_on 50 (by kernel_rfl) rfl) (dL H.only) (ca14 rfl) ?_
      rintro e W1 ⟨A3, c3, rfl, hS3, H'⟩
      refine ⟨_, rfl, ?_⟩
      have H := H.same H'; clear H'
      refine k_nil ?_
      refine t_on trivial ?_
      refine tqn 15 rfl rfl (g_on 50 (by kernel_rfl) rfl) (fun _ hS => r_len rfl Try.underlying25) trivial ?_
      refine tqn 16 rfl rfl (g_on 50 (by kernel_rfl) rfl) (fun _ hS => r_neqF rfl rfl (by omega)) trivial ?_
      refine tqn 17 rfl rfl rfl (fun _ hS => r_pkF (v := .bool _) rfl rfl) trivial ?_
      refine t_done (by kernel_rfl) ?_
      refine k_met ?_
      exact ⟨rfl, rfl, rfl, rfl, rfl, H.clear⟩
     ·refine up_mk rfl ?_
      refine s_run rfl (g_on 50 (by kernel_rfl) rfl) (r_la (HB.same H.only) 0 rfl rfl (fC_len D) ag29 sz29) ?_
      refine k_nil ?_
      refine t_on trivial ?_
      refine t_up1 11 (by kernel_rfl) ?_
      refine up_mk rfl ?_
      refine s_call (g_on 50 (by kernel_rfl) rfl) (oLn H.only) (ca17 rfl) ?_
      rintro e W1 ⟨rfl, H'⟩
      refine ⟨_, rfl, ?_⟩
      have H := H.same H'; clear H'
      refine k_nil ?_
      refine t_on trivial ?_
      refine t_up1 14 (by kernel_rfl) ?_
      refine up_mk rfl ?_
      refine s_call (g_on 50 (by kernel_rfl) rfl) (dL H.only) (ca14 rfl) ?_
      rintro e W1 ⟨A3, c3, rfl, hS3, H'⟩
      refine ⟨_, rfl, ?_⟩
      have H := H.same H'; clear H'
      refine k_nil ?_
      refine t_on trivial ?_
      refine tqn 15 rfl rfl (g_on 50 (by kernel_rfl) rfl) (fun _ hS => r_len rfl Try.underlying25) trivial ?_
      refine tqn 16 rfl rfl (g_on 50 (by kernel_rfl) rfl) (fun _ hS => r_neqF rfl rfl (by omega)) trivial ?_
      refine tqn 17 rfl rfl rfl (fun _ hS => r_pkF (v := .bool _) rfl rfl) trivial ?_
      refine t_done (by kernel_rfl) ?_
      refine k_met ?_
      exact ⟨rfl, rfl, rfl, rfl, rfl, H.clear⟩
   ·rintro f W2 ⟨f3, f5, f6, f10, f59, H⟩
    obtain ⟨f, rfl⟩ := live5 f3 f5 f6 f10 f59
    clear f3 f5 f6 f10 f59
    refine c_norm ?_
    refine k_f rfl ?_
    refine k_skip ?_
    refine c_norm ?_
    refine k_sg ?_
    refine s_run rfl rfl (rai rfl) ?_
    refine k_nc ?_
    refine k_b ?_
    refine k_loop (fun z f W2 => ∃ (m : Nat), m ≤ 4 ∧ z = 4 - m ∧ f 3 = ptrF p3 ∧ f 5 = ptrF p ∧ f 6 = ptrF p6 ∧ f 10 = .int .i64 k ∧ f 11 = .int .i64 m ∧ Heap W [] [] W2) 4 ⟨0, by omega, rfl, rfl, rfl, rfl, rfl, rfl, H⟩ ?_
    clear H
    rintro z f W2 ⟨m, hm, rfl, f3, f5, f6, f10, f11, H⟩
    obtain ⟨f, rfl⟩ := live5 f3 f5 f6 f10 f11
    clear f3 f5 f6 f10 f11
    by_cases hm4 : m < 4
    ·have oO := fun {W2 : World} (h : Only [] W W2) => oO h (m : Int) (k : Int) ⟨by omega, by omega⟩ ⟨by omega, by omega⟩
     have dO := fun {W2 : World} (h : Only [] W W2) => dO h (m : Int) (k : Int)
     refine k_seq ?_
     refine k_sg ?_
     refine s_run rfl rfl (rmi rfl) ?_
     refine s_run rfl rfl (r_lssT rfl rfl (by omega)) ?_
     refine k_nc ?_
     refine k_t rfl ?_
     refine k_skip ?_
     refine c_norm ?_
     refine k_seq ?_
     refine k_b ?_
     refine k_seq ?_
     refine k_trF mixed ?_; have H' := H.drew; clear H; have H := H'; clear H'
     refine tqh 0 rfl rfl rfl (fun _ hS => r_mv (v := .pointer _) rfl) trivial ?_
     refine tqh 1 rfl rfl rfl (fun _ hS => r_mv (v := .int _ _) rfl) trivial ?_
     refine tqh 2 rfl rfl rfl (fun _ hS => r_mv (v := .int _ _) rfl) trivial ?_
     refine tqh 5 rfl rfl rfl (fun _ hS => r_mv (v := .int _ _) rfl) trivial ?_
     refine tqh 6 rfl rfl rfl (fun _ hS => r_mv (v := .int _ _) rfl) trivial ?_
     refine t_up2 3 4 (by kernel_rfl) ?_ ?_
     ·refine up_mk rfl ?_
      refine s_call rfl (oO H.only) (ca49 rfl) ?_
      rintro e W1 ⟨rfl, H'⟩
      refine ⟨_, rfl, ?_⟩
      have H := H.same H'; clear H'
      refine k_nil ?_
      refine t_on trivial ?_
      refine t_up1 4 (by kernel_rfl) ?_
      refine up_mk rfl ?_
      refine s_run rfl rfl (r_la (HB.same H.only) 0 rfl rfl (fC_len D) ag29 sz29) ?_
      refine k_nil ?_
      refine t_on trivial ?_
      refine t_up1 7 (by kernel_rfl) ?_
      refine up_mk rfl ?_
      refine s_call rfl (dO H.only) (ca51 rfl) ?_
      rintro e W1 ⟨rfl, H'⟩
      refine ⟨_, rfl, ?_⟩
      have H := H.same H'; clear H'
      refine k_nil ?_
      refine t_on trivial ?_
      refine tqh 8 rfl rfl rfl (fun _ hS => r_neqF rfl rfl (by omega)) trivial ?_
      refine t_done (by kernel_rfl) ?_
      refine c_norm ?_
      refine k_f rfl ?_
      refine k_skip ?_
      refine b_norm ?_
      refine c_norm ?_
      refine k_rg ?_
      refine s_run rfl rfl (rmi rfl) ?_
      refine s_run rfl rfl (r_add rfl rfl (wI (by omega))) ?_
      refine s_run rfl rfl (rai rfl) ?_
      refine k_nil ?_
      refine c_round ?_
      exact ⟨_, _, by omega, rfl, m + 1, by omega, rfl, rfl, rfl, rfl, rfl, rfl, H⟩
     ·refine up_mk rfl ?_
      refine s_run rfl rfl (r_la (HB.same H.only) 0 rfl rfl (fC_len D) ag29 sz29) ?_
      refine k_nil ?_
      refine t_on trivial ?_
      refine t_up1 3 (by kernel_rfl) ?_
      refine up_mk rfl ?_
      refine s_call rfl (oO H.only) (ca49 rfl) ?_
      rintro e W1 ⟨rfl, H'⟩
      refine ⟨_, rfl, ?_⟩
      have H := H.same H'; clear H'
      refine k_nil ?_
      refine t_on trivial ?_
      refine t_up1 7 (by kernel_rfl) ?_
      refine up_mk rfl ?_
      refine s_call rfl (dO H.only) (ca51 rfl) ?_
      rintro e W1 ⟨rfl, H'⟩
      refine ⟨_, rfl, ?_⟩
      have H := H.same H'; clear H'
      refine k_nil ?_
      refine t_on trivial ?_
      refine tqh 8 rfl rfl rfl (fun _ hS => r_neqF rfl rfl (by omega)) trivial ?_
      refine t_done (by kernel_rfl) ?_
      refine c_norm ?_
      refine k_f rfl ?_
      refine k_skip ?_
      refine b_norm ?_
      refine c_norm ?_
      refine k_rg ?_
      refine s_run rfl rfl (rmi rfl) ?_
      refine s_run rfl rfl (r_add rfl rfl (wI (by omega))) ?_
      refine s_run rfl rfl (rai rfl) ?_
      refine k_nil ?_
      refine c_round ?_
      exact ⟨_, _, by omega, rfl, m + 1, by omega, rfl, rfl, rfl, rfl, rfl, rfl, H⟩
    ·refine k_seq ?_
     refine k_sg ?_
     refine s_run rfl rfl (rmi rfl) ?_
     refine s_run rfl rfl (r_lssF rfl rfl (by omega)) ?_
     refine k_nc ?_
     refine k_f rfl ?_
     refine k_exit ?_
     refine c_exit ?_
     refine c_exit ?_
     refine b_hit ?_
     refine b_norm ?_
     refine c_norm ?_
     refine k_rg ?_
     refine s_run rfl rfl (rmi rfl) ?_
     refine s_run rfl rfl (r_add rfl rfl (wI (by omega))) ?_
     refine s_run rfl rfl (rai rfl) ?_
     refine k_nil ?_
     refine c_round ?_
     refine ⟨_, _, ?_, rfl, k + 1, by omega, rfl, rfl, rfl, rfl, rfl, H⟩
     omega
  ·obtain rfl : k = 32 := by omega
   have HB2 := HB.same H.only
   have hOn := H.only
   clear H
   have H := Heap.start HB2.ents
   refine k_seq ?_
   refine k_sg ?_
   refine s_run rfl rfl (rmi rfl) ?_
   refine s_run rfl rfl (r_lssF rfl rfl (by omega)) ?_
   refine k_nc ?_
   refine k_f rfl ?_
   refine k_exit ?_
   refine c_exit ?_
   refine c_exit ?_
   refine b_hit ?_
   refine c_norm ?_
   refine k_seq ?_
   refine k_trF mixed ?_; have H' := H.drew; clear H; have H := H'; clear H'
   refine tqh 0 rfl rfl rfl (fun _ hS => r_mv (v := .pointer _) rfl) trivial ?_
   refine tqh 2 rfl rfl rfl (fun _ hS => r_as (v := .pointer _) rfl) trivial ?_
   refine t_up1 1 (by kernel_rfl) ?_
   refine up_mk rfl ?_
   refine s_run rfl rfl (r_la H 0 rfl rfl (fC_len D) ag29 sz29) ?_
   refine k_nil ?_
   refine t_on trivial ?_
   refine t_up1 3 (by kernel_rfl) ?_
   refine up_mk rfl ?_
   refine s_sw H 2 rfl rfl rfl rfl rfl rfl rfl sz29 ?_
   clear H; intro _ H; simp only [jA, jB, jC, jD, jE, jF, jG, jH, jI, jJ, jK, Nat.reduceAdd] at H
   refine k_nil ?_
   refine t_on trivial ?_
   refine tqh 4 rfl rfl rfl (fun _ hS => r_as (v := .bool _) rfl) trivial ?_
   refine t_done (by kernel_rfl) ?_
   refine c_norm ?_
   refine k_ret ?_
   refine fx3r rfl (rv_t (v := .pointer _) rfl) (rv_a H 2 rfl rfl rfl ag29 sz29) (rv_t (v := .bool _) rfl) ?_
   exact ⟨p, b, F, l, D, rfl, grp_open (Heap.subl (HB2.whole H) [1] rfl rfl), (((hD.later hOn (by simp)).later H.only (fun _ h => h)).mono (fun j hj => by rw [ids_cons, ids_cons]; exact List.mem_append_right _ (List.mem_append_left _ hj)) (Nat.le_refl _)), hok, by rw [hx, hSS], by rw [hSS]; exact hinv⟩
 ·have hD0 : ∀ W, DOk (ids [blk p6 (fC frNil) 29, grp (frE p b frNil frNil []), blk p3 (fC frNil) 29]) W frNil 0 := fun W => ⟨fun i _ => Sees.nil, fun _ _ => rfl, fun _ _ => Nat.le_refl _, fun _ _ => Nat.le_refl _⟩
  refine k_b ?_
  refine k_loop (fun z f W => ∃ (i : Nat) (F D : Nat → RowS) (l : FrM), i ≤ ln ∧ i ≤ 120 ∧ z = 120 - i ∧ FrOk F l i ∧ DOk (ids [blk p6 (fC D) 29, grp (frE p b F F l), blk p3 (fC frNil) 29]) W D i ∧ xsOf D = xsOf F ∧ FInv (xsOf F) i ∧ f 0 = .slice B ln d ∧ f 3 = ptrF p3 ∧ f 5 = ptrF p ∧ f 6 = ptrF p6 ∧ f 7 = .int .i64 i ∧ Heap w [] [blk p6 (fC D) 29, grp (frE p b F F l), blk p3 (fC frNil) 29] W) 120 ⟨0, frNil, frNil, [], by omega, by omega, rfl, frOk_nil, hD0 _, rfl, frNil_inv, rfl, rfl, rfl, rfl, rfl, H⟩ ?_
  clear H hD0
  rintro z f W ⟨i, F, D, l, hil, hi120, rfl, hok, hD, hx, hinv, f0, f3, f5, f6, f7, HB0⟩
  by_cases hlt : i < ln ∧ i < 120
  ·obtain ⟨hlt, hlt2⟩ := hlt
   obtain ⟨u, hu⟩ : ∃ u, ops[i]? = some u := ⟨_, List.getElem?_eq_getElem (by omega)⟩
   obtain ⟨bo, oo, hB, hrd⟩ := hs.1 (by omega)
   have hre : Reads (fun v : Value => v) w bo (oo + i * 5) [.int .i64 u.f0, .int .i64 u.f1, .int .i64 u.f2, .int .i64 u.f3, .int .i64 u.f4] := hrd i u hu
   have hu2 := hs.2 u (List.mem_of_getElem? hu)
   have hDo := fun {L : List Ent} {W2 : World} (H : Heap W (ids [blk p6 (fC D) 29, grp (frE p b F F l), blk p3 (fC frNil) 29]) L W2) (k : Nat) (hk : L[k]? = some (grp (frE p b F F l))) => lDoH (fun j hj => by rw [ids_cons, ids_cons]; exact List.mem_append_right _ (List.mem_append_left _ hj)) HB0.idlt hD hok (by omega) hx hinv H hk u.f0 u.f1 u.f2 u.f3 u.f4 (wf64_of hu2.w1)
   rw [hB] at f0
   obtain ⟨f, rfl⟩ := live5 f0 f3 f5 f6 f7
   clear f0 f3 f5 f6 f7
   unfold fV opV at hDo
   have hre1 := hre.later HB0.only (by simp)
   have H := Heap.start HB0.ents
   have hsub : ∀ {b0 : Nat} {c0 : List Value} {t0 : TypeId} (j : Nat), j ∈ ids [blk p6 (fC D) 29, grp (frE p b F F l), blk p3 (fC frNil) 29] → j < W.heap.size := fun {b0 c0 t0} j hj => HB0.idlt j hj
   refine k_seq ?_
   refine k_sg ?_
   refine s_run rfl rfl (rmi rfl) ?_
   refine s_run rfl rfl (rms rfl) ?_
   refine s_run rfl rfl (r_len rfl Try.underlying22) ?_
   refine s_run rfl rfl (r_lssT rfl rfl (by omega)) ?_
   refine s_run rfl rfl (rmb rfl) ?_
   refine s_run rfl (g_on 17 (by kernel_rfl) rfl) (rmi rfl) ?_
   refine s_run rfl (g_on 17 (by kernel_rfl) rfl) (r_lssT rfl rfl (by omega)) ?_
   refine s_run rfl rfl (r_pkT (v := .bool _) rfl rfl) ?_
   refine k_nc ?_
   refine k_t rfl ?_
   refine k_skip ?_
   refine c_norm ?_
   refine k_seq ?_
   refine k_b ?_
   refine k_seq ?_
   refine k_trF mixed ?_; have H' := H.drew; clear H; have H := H'; clear H'
   refine tqn 0 rfl rfl rfl (fun _ hS => r_mv (v := .pointer _) rfl) trivial ?_
   refine tqn 2 rfl rfl rfl (fun _ hS => r_mv (v := .slice _ _ _) rfl) trivial ?_
   refine tqn 3 rfl rfl rfl (fun _ hS => r_mv (v := .int _ _) rfl) trivial ?_
   refine tqn 4 rfl rfl rfl (fun _ hS => r_ix (i := i) rfl rfl (by omega) (by omega) Try.underlying22 sz88) trivial ?_
   refine t_up3 1 5 10 (by kernel_rfl) ?_ ?_ ?_
   ·refine up_mk rfl ?_
    refine s_run rfl rfl (r_la H 0 rfl rfl (fC_len D) ag29 sz29) ?_
    refine k_nil ?_
    refine t_on trivial ?_
    refine t_up2 5 10 (by kernel_rfl) ?_ ?_
    ·refine up_mk rfl ?_
     refine s_run rfl rfl (r_lA (enc := fun v : Value => v) (zs := [.int .i64 u.f0, .int .i64 u.f1, .int .i64 u.f2, .int .i64 u.f3, .int .i64 u.f4]) (hre.later (HB0.whole H).only (by simp)) rfl rfl ag88 sz88) ?_
     refine k_nil ?_
     refine t_on trivial ?_
     refine t_up2 6 10 (by kernel_rfl) ?_ ?_
     ·refine up_mk rfl ?_
      refine s_call rfl (hDo H 1 rfl) (ca50 rfl) ?_
      rintro e W1 ⟨F', l', D', rfl, H', hD', hok', hx', hinv'⟩
      refine ⟨_, rfl, ?_⟩
      have HB := HB0.whole H'; clear H' H; simp only [List.set_cons_zero, List.set_cons_succ] at HB hD'; have H := Heap.start HB.ents
      refine k_nil ?_
      refine t_on trivial ?_
      refine tqn 7 rfl rfl rfl (fun _ hS => r_mv (v := .tuple _) rfl) trivial ?_
      refine tqn 8 rfl rfl rfl (fun _ hS => r_ext (v := .agg _) rfl rfl) trivial ?_
      refine tqn 9 rfl rfl rfl (fun _ hS => r_ext (v := .bool _) rfl rfl) trivial ?_
      refine t_up1 10 (by kernel_rfl) ?_
      refine up_mk rfl ?_
      refine s_al H rfl inf29 ?_
      intro p8 _ H'; clear H; have H := H'; clear H'
      refine k_nil ?_
      refine t_on trivial ?_
      refine t_up1 11 (by kernel_rfl) ?_
      refine up_mk rfl ?_
      refine s_sw H 0 rfl rfl rfl rfl rfl rfl rfl sz29 ?_
      clear H; intro _ H; simp only [jA, jB, jC, jD, jE, jF, jG, jH, jI, jJ, jK, Nat.reduceAdd] at H
      refine k_nil ?_
      refine t_on trivial ?_
      refine tqn 12 rfl rfl rfl (fun _ hS => r_as (v := .bool _) rfl) trivial ?_
      refine t_done (by kernel_rfl) ?_
      refine c_norm ?_
      refine k_seq ?_
      refine k_sg ?_
      refine s_run rfl rfl (rmb rfl) ?_
      refine s_run rfl rfl (r_notT rfl) ?_
      refine k_nc ?_
      refine k_f rfl ?_
      refine k_skip ?_
      refine c_norm ?_
      refine k_rg ?_
      refine s_run rfl rfl (r_la H 0 rfl rfl (fC_len _) ag29 sz29) ?_
      refine s_sw H 1 rfl rfl rfl rfl rfl rfl rfl sz29 ?_
      clear H; intro _ H; simp only [jA, jB, jC, jD, jE, jF, jG, jH, jI, jJ, jK, Nat.reduceAdd] at H
      refine k_nil ?_
      refine b_norm ?_
      refine c_norm ?_
      refine k_rg ?_
      refine s_run rfl rfl (rmi rfl) ?_
      refine s_run rfl rfl (r_add rfl rfl (wI (by omega))) ?_
      refine s_run rfl rfl (rai rfl) ?_
      refine k_nil ?_
      refine c_round ?_
      exact ⟨_, _, by omega, rfl, i + 1, F', D', l', by omega, by omega, rfl, hok', (hD'.later H.only (fun _ h => h)).mono (fun j hj => by first | exact hj | (rw [ids_cons]; exact List.mem_append_right _ hj)) (Nat.le_refl _), hx', hinv', by rw [hB]; rfl, rfl, rfl, rfl, rfl, Heap.subl (HB.whole H) [1, 2, 3] rfl rfl⟩
     ·refine up_mk rfl ?_
      refine s_al H rfl inf29 ?_
      intro p8 _ H'; clear H; have H := H'; clear H'
      refine k_nil ?_
      refine t_on trivial ?_
      refine t_up1 6 (by kernel_rfl) ?_
      refine up_mk rfl ?_
      refine s_call rfl (hDo H 2 rfl) (ca50 rfl) ?_
      rintro e W1 ⟨F', l', D', rfl, H', hD', hok', hx', hinv'⟩
      refine ⟨_, rfl, ?_⟩
      have HB := HB0.whole H'; clear H' H; simp only [List.set_cons_zero, List.set_cons_succ] at HB hD'; have H := Heap.start HB.ents
      refine k_nil ?_
      refine t_on trivial ?_
      refine tqn 7 rfl rfl rfl (fun _ hS => r_mv (v := .tuple _) rfl) trivial ?_
      refine tqn 8 rfl rfl rfl (fun _ hS => r_ext (v := .agg _) rfl rfl) trivial ?_
      refine tqn 9 rfl rfl rfl (fun _ hS => r_ext (v := .bool _) rfl rfl) trivial ?_
      refine t_up1 11 (by kernel_rfl) ?_
      refine up_mk rfl ?_
      refine s_sw H 0 rfl rfl rfl rfl rfl rfl rfl sz29 ?_
      clear H; intro _ H; simp only [jA, jB, jC, jD, jE, jF, jG, jH, jI, jJ, jK, Nat.reduceAdd] at H
      refine k_nil ?_
      refine t_on trivial ?_
      refine tqn 12 rfl rfl rfl (fun _ hS => r_as (v := .bool _) rfl) trivial ?_
      refine t_done (by kernel_rfl) ?_
      refine c_norm ?_
      refine k_seq ?_
      refine k_sg ?_
      refine s_run rfl rfl (rmb rfl) ?_
      refine s_run rfl rfl (r_notT rfl) ?_
      refine k_nc ?_
      refine k_f rfl ?_
      refine k_skip ?_
      refine c_norm ?_
      refine k_rg ?_
      refine s_run rfl rfl (r_la H 0 rfl rfl (fC_len _) ag29 sz29) ?_
      refine s_sw H 1 rfl rfl rfl rfl rfl rfl rfl sz29 ?_
      clear H; intro _ H; simp only [jA, jB, jC, jD, jE, jF, jG, jH, jI, jJ, jK, Nat.reduceAdd] at H
      refine k_nil ?_
      refine b_norm ?_
      refine c_norm ?_
      refine k_rg ?_
      refine s_run rfl rfl (rmi rfl) ?_
      refine s_run rfl rfl (r_add rfl rfl (wI (by omega))) ?_
      refine s_run rfl rfl (rai rfl) ?_
      refine k_nil ?_
      refine c_round ?_
      exact ⟨_, _, by omega, rfl, i + 1, F', D', l', by omega, by omega, rfl, hok', (hD'.later H.only (fun _ h => h)).mono (fun j hj => by first | exact hj | (rw [ids_cons]; exact List.mem_append_right _ hj)) (Nat.le_refl _), hx', hinv', by rw [hB]; rfl, rfl, rfl, rfl, rfl, Heap.subl (HB.whole H) [1, 2, 3] rfl rfl⟩
    ·refine up_mk rfl ?_
     refine s_al H rfl inf29 ?_
     intro p8 _ H'; clear H; have H := H'; clear H'
     refine k_nil ?_
     refine t_on trivial ?_
     refine t_up1 5 (by kernel_rfl) ?_
     refine up_mk rfl ?_
     refine s_run rfl rfl (r_lA (enc := fun v : Value => v) (zs := [.int .i64 u.f0, .int .i64 u.f1, .int .i64 u.f2, .int .i64 u.f3, .int .i64 u.f4]) (hre.later (HB0.whole H).only (by simp)) rfl rfl ag88 sz88) ?_
     refine k_nil ?_
     refine t_on trivial ?_
     refine t_up1 6 (by kernel_rfl) ?_
     refine up_mk rfl ?_
     refine s_call rfl (hDo H 2 rfl) (ca50 rfl) ?_
     rintro e W1 ⟨F', l', D', rfl, H', hD', hok', hx', hinv'⟩
     refine ⟨_, rfl, ?_⟩
     have HB := HB0.whole H'; clear H' H; simp only [List.set_cons_zero, List.set_cons_succ] at HB hD'; have H := Heap.start HB.ents
     refine k_nil ?_
     refine t_on trivial ?_
     refine tqn 7 rfl rfl rfl (fun _ hS => r_mv (v := .tuple _) rfl) trivial ?_
     refine tqn 8 rfl rfl rfl (fun _ hS => r_ext (v := .agg _) rfl rfl) trivial ?_
     refine tqn 9 rfl rfl rfl (fun _ hS => r_ext (v := .bool _) rfl rfl) trivial ?_
     refine t_up1 11 (by kernel_rfl) ?_
     refine up_mk rfl ?_
     refine s_sw H 0 rfl rfl rfl rfl rfl rfl rfl sz29 ?_
     clear H; intro _ H; simp only [jA, jB, jC, jD, jE, jF, jG, jH, jI, jJ, jK, Nat.reduceAdd] at H
     refine k_nil ?_
     refine t_on trivial ?_
     refine tqn 12 rfl rfl rfl (fun _ hS => r_as (v := .bool _) rfl) trivial ?_
     refine t_done (by kernel_rfl) ?_
     refine c_norm ?_
     refine k_seq ?_
     refine k_sg ?_
     refine s_run rfl rfl (rmb rfl) ?_
     refine s_run rfl rfl (r_notT rfl) ?_
     refine k_nc ?_
     refine k_f rfl ?_
     refine k_skip ?_
     refine c_norm ?_
     refine k_rg ?_
     refine s_run rfl rfl (r_la H 0 rfl rfl (fC_len _) ag29 sz29) ?_
     refine s_sw H 1 rfl rfl rfl rfl rfl rfl rfl sz29 ?_
     clear H; intro _ H; simp only [jA, jB, jC, jD, jE, jF, jG, jH, jI, jJ, jK, Nat.reduceAdd] at H
     refine k_nil ?_
     refine b_norm ?_
     refine c_norm ?_
     refine k_rg ?_
     refine s_run rfl rfl (rmi rfl) ?_
     refine s_run rfl rfl (r_add rfl rfl (wI (by omega))) ?_
     refine s_run rfl rfl (rai rfl) ?_
     refine k_nil ?_
     refine c_round ?_
     exact ⟨_, _, by omega, rfl, i + 1, F', D', l', by omega, by omega, rfl, hok', (hD'.later H.only (fun _ h => h)).mono (fun j hj => by first | exact hj | (rw [ids_cons]; exact List.mem_append_right _ hj)) (Nat.le_refl _), hx', hinv', by rw [hB]; rfl, rfl, rfl, rfl, rfl, Heap.subl (HB.whole H) [1, 2, 3] rfl rfl⟩
   ·refine up_mk rfl ?_
    refine s_run rfl rfl (r_lA (enc := fun v : Value => v) (zs := [.int .i64 u.f0, .int .i64 u.f1, .int .i64 u.f2, .int .i64 u.f3, .int .i64 u.f4]) (hre.later (HB0.whole H).only (by simp)) rfl rfl ag88 sz88) ?_
    refine k_nil ?_
    refine t_on trivial ?_
    refine t_up2 1 10 (by kernel_rfl) ?_ ?_
    ·refine up_mk rfl ?_
     refine s_run rfl rfl (r_la H 0 rfl rfl (fC_len D) ag29 sz29) ?_
     refine k_nil ?_
     refine t_on trivial ?_
     refine t_up2 6 10 (by kernel_rfl) ?_ ?_
     ·refine up_mk rfl ?_
      refine s_call rfl (hDo H 1 rfl) (ca50 rfl) ?_
      rintro e W1 ⟨F', l', D', rfl, H', hD', hok', hx', hinv'⟩
      refine ⟨_, rfl, ?_⟩
      have HB := HB0.whole H'; clear H' H; simp only [List.set_cons_zero, List.set_cons_succ] at HB hD'; have H := Heap.start HB.ents
      refine k_nil ?_
      refine t_on trivial ?_
      refine tqn 7 rfl rfl rfl (fun _ hS => r_mv (v := .tuple _) rfl) trivial ?_
      refine tqn 8 rfl rfl rfl (fun _ hS => r_ext (v := .agg _) rfl rfl) trivial ?_
      refine tqn 9 rfl rfl rfl (fun _ hS => r_ext (v := .bool _) rfl rfl) trivial ?_
      refine t_up1 10 (by kernel_rfl) ?_
      refine up_mk rfl ?_
      refine s_al H rfl inf29 ?_
      intro p8 _ H'; clear H; have H := H'; clear H'
      refine k_nil ?_
      refine t_on trivial ?_
      refine t_up1 11 (by kernel_rfl) ?_
      refine up_mk rfl ?_
      refine s_sw H 0 rfl rfl rfl rfl rfl rfl rfl sz29 ?_
      clear H; intro _ H; simp only [jA, jB, jC, jD, jE, jF, jG, jH, jI, jJ, jK, Nat.reduceAdd] at H
      refine k_nil ?_
      refine t_on trivial ?_
      refine tqn 12 rfl rfl rfl (fun _ hS => r_as (v := .bool _) rfl) trivial ?_
      refine t_done (by kernel_rfl) ?_
      refine c_norm ?_
      refine k_seq ?_
      refine k_sg ?_
      refine s_run rfl rfl (rmb rfl) ?_
      refine s_run rfl rfl (r_notT rfl) ?_
      refine k_nc ?_
      refine k_f rfl ?_
      refine k_skip ?_
      refine c_norm ?_
      refine k_rg ?_
      refine s_run rfl rfl (r_la H 0 rfl rfl (fC_len _) ag29 sz29) ?_
      refine s_sw H 1 rfl rfl rfl rfl rfl rfl rfl sz29 ?_
      clear H; intro _ H; simp only [jA, jB, jC, jD, jE, jF, jG, jH, jI, jJ, jK, Nat.reduceAdd] at H
      refine k_nil ?_
      refine b_norm ?_
      refine c_norm ?_
      refine k_rg ?_
      refine s_run rfl rfl (rmi rfl) ?_
      refine s_run rfl rfl (r_add rfl rfl (wI (by omega))) ?_
      refine s_run rfl rfl (rai rfl) ?_
      refine k_nil ?_
      refine c_round ?_
      exact ⟨_, _, by omega, rfl, i + 1, F', D', l', by omega, by omega, rfl, hok', (hD'.later H.only (fun _ h => h)).mono (fun j hj => by first | exact hj | (rw [ids_cons]; exact List.mem_append_right _ hj)) (Nat.le_refl _), hx', hinv', by rw [hB]; rfl, rfl, rfl, rfl, rfl, Heap.subl (HB.whole H) [1, 2, 3] rfl rfl⟩
     ·refine up_mk rfl ?_
      refine s_al H rfl inf29 ?_
      intro p8 _ H'; clear H; have H := H'; clear H'
      refine k_nil ?_
      refine t_on trivial ?_
      refine t_up1 6 (by kernel_rfl) ?_
      refine up_mk rfl ?_
      refine s_call rfl (hDo H 2 rfl) (ca50 rfl) ?_
      rintro e W1 ⟨F', l', D', rfl, H', hD', hok', hx', hinv'⟩
      refine ⟨_, rfl, ?_⟩
      have HB := HB0.whole H'; clear H' H; simp only [List.set_cons_zero, List.set_cons_succ] at HB hD'; have H := Heap.start HB.ents
      refine k_nil ?_
      refine t_on trivial ?_
      refine tqn 7 rfl rfl rfl (fun _ hS => r_mv (v := .tuple _) rfl) trivial ?_
      refine tqn 8 rfl rfl rfl (fun _ hS => r_ext (v := .agg _) rfl rfl) trivial ?_
      refine tqn 9 rfl rfl rfl (fun _ hS => r_ext (v := .bool _) rfl rfl) trivial ?_
      refine t_up1 11 (by kernel_rfl) ?_
      refine up_mk rfl ?_
      refine s_sw H 0 rfl rfl rfl rfl rfl rfl rfl sz29 ?_
      clear H; intro _ H; simp only [jA, jB, jC, jD, jE, jF, jG, jH, jI, jJ, jK, Nat.reduceAdd] at H
      refine k_nil ?_
      refine t_on trivial ?_
      refine tqn 12 rfl rfl rfl (fun _ hS => r_as (v := .bool _) rfl) trivial ?_
      refine t_done (by kernel_rfl) ?_
      refine c_norm ?_
      refine k_seq ?_
      refine k_sg ?_
      refine s_run rfl rfl (rmb rfl) ?_
      refine s_run rfl rfl (r_notT rfl) ?_
      refine k_nc ?_
      refine k_f rfl ?_
      refine k_skip ?_
      refine c_norm ?_
      refine k_rg ?_
      refine s_run rfl rfl (r_la H 0 rfl rfl (fC_len _) ag29 sz29) ?_
      refine s_sw H 1 rfl rfl rfl rfl rfl rfl rfl sz29 ?_
      clear H; intro _ H; simp only [jA, jB, jC, jD, jE, jF, jG, jH, jI, jJ, jK, Nat.reduceAdd] at H
      refine k_nil ?_
      refine b_norm ?_
      refine c_norm ?_
      refine k_rg ?_
      refine s_run rfl rfl (rmi rfl) ?_
      refine s_run rfl rfl (r_add rfl rfl (wI (by omega))) ?_
      refine s_run rfl rfl (rai rfl) ?_
      refine k_nil ?_
      refine c_round ?_
      exact ⟨_, _, by omega, rfl, i + 1, F', D', l', by omega, by omega, rfl, hok', (hD'.later H.only (fun _ h => h)).mono (fun j hj => by first | exact hj | (rw [ids_cons]; exact List.mem_append_right _ hj)) (Nat.le_refl _), hx', hinv', by rw [hB]; rfl, rfl, rfl, rfl, rfl, Heap.subl (HB.whole H) [1, 2, 3] rfl rfl⟩
    ·refine up_mk rfl ?_
     refine s_al H rfl inf29 ?_
     intro p8 _ H'; clear H; have H := H'; clear H'
     refine k_nil ?_
     refine t_on trivial ?_
     refine t_up1 1 (by kernel_rfl) ?_
     refine up_mk rfl ?_
     refine s_run rfl rfl (r_la H 1 rfl rfl (fC_len D) ag29 sz29) ?_
     refine k_nil ?_
     refine t_on trivial ?_
     refine t_up1 6 (by kernel_rfl) ?_
     refine up_mk rfl ?_
     refine s_call rfl (hDo H 2 rfl) (ca50 rfl) ?_
     rintro e W1 ⟨F', l', D', rfl, H', hD', hok', hx', hinv'⟩
     refine ⟨_, rfl, ?_⟩
     have HB := HB0.whole H'; clear H' H; simp only [List.set_cons_zero, List.set_cons_succ] at HB hD'; have H := Heap.start HB.ents
     refine k_nil ?_
     refine t_on trivial ?_
     refine tqn 7 rfl rfl rfl (fun _ hS => r_mv (v := .tuple _) rfl) trivial ?_
     refine tqn 8 rfl rfl rfl (fun _ hS => r_ext (v := .agg _) rfl rfl) trivial ?_
     refine tqn 9 rfl rfl rfl (fun _ hS => r_ext (v := .bool _) rfl rfl) trivial ?_
     refine t_up1 11 (by kernel_rfl) ?_
     refine up_mk rfl ?_
     refine s_sw H 0 rfl rfl rfl rfl rfl rfl rfl sz29 ?_
     clear H; intro _ H; simp only [jA, jB, jC, jD, jE, jF, jG, jH, jI, jJ, jK, Nat.reduceAdd] at H
     refine k_nil ?_
     refine t_on trivial ?_
     refine tqn 12 rfl rfl rfl (fun _ hS => r_as (v := .bool _) rfl) trivial ?_
     refine t_done (by kernel_rfl) ?_
     refine c_norm ?_
     refine k_seq ?_
     refine k_sg ?_
     refine s_run rfl rfl (rmb rfl) ?_
     refine s_run rfl rfl (r_notT rfl) ?_
     refine k_nc ?_
     refine k_f rfl ?_
     refine k_skip ?_
     refine c_norm ?_
     refine k_rg ?_
     refine s_run rfl rfl (r_la H 0 rfl rfl (fC_len _) ag29 sz29) ?_
     refine s_sw H 1 rfl rfl rfl rfl rfl rfl rfl sz29 ?_
     clear H; intro _ H; simp only [jA, jB, jC, jD, jE, jF, jG, jH, jI, jJ, jK, Nat.reduceAdd] at H
     refine k_nil ?_
     refine b_norm ?_
     refine c_norm ?_
     refine k_rg ?_
     refine s_run rfl rfl (rmi rfl) ?_
     refine s_run rfl rfl (r_add rfl rfl (wI (by omega))) ?_
     refine s_run rfl rfl (rai rfl) ?_
     refine k_nil ?_
     refine c_round ?_
     exact ⟨_, _, by omega, rfl, i + 1, F', D', l', by omega, by omega, rfl, hok', (hD'.later H.only (fun _ h => h)).mono (fun j hj => by first | exact hj | (rw [ids_cons]; exact List.mem_append_right _ hj)) (Nat.le_refl _), hx', hinv', by rw [hB]; rfl, rfl, rfl, rfl, rfl, Heap.subl (HB.whole H) [1, 2, 3] rfl rfl⟩
   ·refine up_mk rfl ?_
    refine s_al H rfl inf29 ?_
    intro p8 _ H'; clear H; have H := H'; clear H'
    refine k_nil ?_
    refine t_on trivial ?_
    refine t_up2 1 5 (by kernel_rfl) ?_ ?_
    ·refine up_mk rfl ?_
     refine s_run rfl rfl (r_la H 1 rfl rfl (fC_len D) ag29 sz29) ?_
     refine k_nil ?_
     refine t_on trivial ?_
     refine t_up1 5 (by kernel_rfl) ?_
     refine up_mk rfl ?_
     refine s_run rfl rfl (r_lA (enc := fun v : Value => v) (zs := [.int .i64 u.f0, .int .i64 u.f1, .int .i64 u.f2, .int .i64 u.f3, .int .i64 u.f4]) (hre.later (HB0.whole H).only (by simp)) rfl rfl ag88 sz88) ?_
     refine k_nil ?_
     refine t_on trivial ?_
     refine t_up1 6 (by kernel_rfl) ?_
     refine up_mk rfl ?_
     refine s_call rfl (hDo H 2 rfl) (ca50 rfl) ?_
     rintro e W1 ⟨F', l', D', rfl, H', hD', hok', hx', hinv'⟩
     refine ⟨_, rfl, ?_⟩
     have HB := HB0.whole H'; clear H' H; simp only [List.set_cons_zero, List.set_cons_succ] at HB hD'; have H := Heap.start HB.ents
     refine k_nil ?_
     refine t_on trivial ?_
     refine tqn 7 rfl rfl rfl (fun _ hS => r_mv (v := .tuple _) rfl) trivial ?_
     refine tqn 8 rfl rfl rfl (fun _ hS => r_ext (v := .agg _) rfl rfl) trivial ?_
     refine tqn 9 rfl rfl rfl (fun _ hS => r_ext (v := .bool _) rfl rfl) trivial ?_
     refine t_up1 11 (by kernel_rfl) ?_
     refine up_mk rfl ?_
     refine s_sw H 0 rfl rfl rfl rfl rfl rfl rfl sz29 ?_
     clear H; intro _ H; simp only [jA, jB, jC, jD, jE, jF, jG, jH, jI, jJ, jK, Nat.reduceAdd] at H
     refine k_nil ?_
     refine t_on trivial ?_
     refine tqn 12 rfl rfl rfl (fun _ hS => r_as (v := .bool _) rfl) trivial ?_
     refine t_done (by kernel_rfl) ?_
     refine c_norm ?_
     refine k_seq ?_
     refine k_sg ?_
     refine s_run rfl rfl (rmb rfl) ?_
     refine s_run rfl rfl (r_notT rfl) ?_
     refine k_nc ?_
     refine k_f rfl ?_
     refine k_skip ?_
     refine c_norm ?_
     refine k_rg ?_
     refine s_run rfl rfl (r_la H 0 rfl rfl (fC_len _) ag29 sz29) ?_
     refine s_sw H 1 rfl rfl rfl rfl rfl rfl rfl sz29 ?_
     clear H; intro _ H; simp only [jA, jB, jC, jD, jE, jF, jG, jH, jI, jJ, jK, Nat.reduceAdd] at H
     refine k_nil ?_
     refine b_norm ?_
     refine c_norm ?_
     refine k_rg ?_
     refine s_run rfl rfl (rmi rfl) ?_
     refine s_run rfl rfl (r_add rfl rfl (wI (by omega))) ?_
     refine s_run rfl rfl (rai rfl) ?_
     refine k_nil ?_
     refine c_round ?_
     exact ⟨_, _, by omega, rfl, i + 1, F', D', l', by omega, by omega, rfl, hok', (hD'.later H.only (fun _ h => h)).mono (fun j hj => by first | exact hj | (rw [ids_cons]; exact List.mem_append_right _ hj)) (Nat.le_refl _), hx', hinv', by rw [hB]; rfl, rfl, rfl, rfl, rfl, Heap.subl (HB.whole H) [1, 2, 3] rfl rfl⟩
    ·refine up_mk rfl ?_
     refine s_run rfl rfl (r_lA (enc := fun v : Value => v) (zs := [.int .i64 u.f0, .int .i64 u.f1, .int .i64 u.f2, .int .i64 u.f3, .int .i64 u.f4]) (hre.later (HB0.whole H).only (by simp)) rfl rfl ag88 sz88) ?_
     refine k_nil ?_
     refine t_on trivial ?_
     refine t_up1 1 (by kernel_rfl) ?_
     refine up_mk rfl ?_
     refine s_run rfl rfl (r_la H 1 rfl rfl (fC_len D) ag29 sz29) ?_
     refine k_nil ?_
     refine t_on trivial ?_
     refine t_up1 6 (by kernel_rfl) ?_
     refine up_mk rfl ?_
     refine s_call rfl (hDo H 2 rfl) (ca50 rfl) ?_
     rintro e W1 ⟨F', l', D', rfl, H', hD', hok', hx', hinv'⟩
     refine ⟨_, rfl, ?_⟩
     have HB := HB0.whole H'; clear H' H; simp only [List.set_cons_zero, List.set_cons_succ] at HB hD'; have H := Heap.start HB.ents
     refine k_nil ?_
     refine t_on trivial ?_
     refine tqn 7 rfl rfl rfl (fun _ hS => r_mv (v := .tuple _) rfl) trivial ?_
     refine tqn 8 rfl rfl rfl (fun _ hS => r_ext (v := .agg _) rfl rfl) trivial ?_
     refine tqn 9 rfl rfl rfl (fun _ hS => r_ext (v := .bool _) rfl rfl) trivial ?_
     refine t_up1 11 (by kernel_rfl) ?_
     refine up_mk rfl ?_
     refine s_sw H 0 rfl rfl rfl rfl rfl rfl rfl sz29 ?_
     clear H; intro _ H; simp only [jA, jB, jC, jD, jE, jF, jG, jH, jI, jJ, jK, Nat.reduceAdd] at H
     refine k_nil ?_
     refine t_on trivial ?_
     refine tqn 12 rfl rfl rfl (fun _ hS => r_as (v := .bool _) rfl) trivial ?_
     refine t_done (by kernel_rfl) ?_
     refine c_norm ?_
     refine k_seq ?_
     refine k_sg ?_
     refine s_run rfl rfl (rmb rfl) ?_
     refine s_run rfl rfl (r_notT rfl) ?_
     refine k_nc ?_
     refine k_f rfl ?_
     refine k_skip ?_
     refine c_norm ?_
     refine k_rg ?_
     refine s_run rfl rfl (r_la H 0 rfl rfl (fC_len _) ag29 sz29) ?_
     refine s_sw H 1 rfl rfl rfl rfl rfl rfl rfl sz29 ?_
     clear H; intro _ H; simp only [jA, jB, jC, jD, jE, jF, jG, jH, jI, jJ, jK, Nat.reduceAdd] at H
     refine k_nil ?_
     refine b_norm ?_
     refine c_norm ?_
     refine k_rg ?_
     refine s_run rfl rfl (rmi rfl) ?_
     refine s_run rfl rfl (r_add rfl rfl (wI (by omega))) ?_
     refine s_run rfl rfl (rai rfl) ?_
     refine k_nil ?_
     refine c_round ?_
     exact ⟨_, _, by omega, rfl, i + 1, F', D', l', by omega, by omega, rfl, hok', (hD'.later H.only (fun _ h => h)).mono (fun j hj => by first | exact hj | (rw [ids_cons]; exact List.mem_append_right _ hj)) (Nat.le_refl _), hx', hinv', by rw [hB]; rfl, rfl, rfl, rfl, rfl, Heap.subl (HB.whole H) [1, 2, 3] rfl rfl⟩
  ·obtain ⟨f, rfl⟩ := live5 f0 f3 f5 f6 f7
   clear f0 f3 f5 f6 f7
   have hle := (show i ≤ 120 from hi120)
   by_cases hil2 : i < ln
   ·refine k_seq ?_
    refine k_sg ?_
    refine s_run rfl rfl (rmi rfl) ?_
    refine s_run rfl rfl (rms rfl) ?_
    refine s_run rfl rfl (r_len rfl Try.underlying22) ?_
    refine s_run rfl rfl (r_lssT rfl rfl (by omega)) ?_
    refine s_run rfl rfl (rmb rfl) ?_
    refine s_run rfl (g_on 17 (by kernel_rfl) rfl) (rmi rfl) ?_
    refine s_run rfl (g_on 17 (by kernel_rfl) rfl) (r_lssF rfl rfl (by omega)) ?_
    refine s_run rfl rfl (r_pkT (v := .bool _) rfl rfl) ?_
    refine k_nc ?_
    refine k_f rfl ?_
    refine k_exit ?_
    refine c_exit ?_
    refine c_exit ?_
    refine b_hit ?_
    refine k_met ?_
    exact ⟨F, D, l, hok.mono hle, hD.mono (fun _ h => h) hle, hx, hinv.up hle, rfl, rfl, rfl, HB0⟩
   ·refine k_seq ?_
    refine k_sg ?_
    refine s_run rfl rfl (rmi rfl) ?_
    refine s_run rfl rfl (rms rfl) ?_
    refine s_run rfl rfl (r_len rfl Try.underlying22) ?_
    refine s_run rfl rfl (r_lssF rfl rfl (by omega)) ?_
    refine s_run rfl rfl (rmb rfl) ?_
    refine s_off rfl (g_off 17 (by kernel_rfl) rfl rfl) ?_
    refine s_off rfl (g_off 17 (by kernel_rfl) rfl rfl) ?_
    refine s_run rfl rfl (r_pkF (v := .bool _) rfl rfl) ?_
    refine k_nc ?_
    refine k_f rfl ?_
    refine k_exit ?_
    refine c_exit ?_
    refine c_exit ?_
    refine b_hit ?_
    refine k_met ?_
    exact ⟨F, D, l, hok.mono hle, hD.mono (fun _ h => h) hle, hx, hinv.up hle, rfl, rfl, rfl, HB0⟩
end Go.Proofs.Ytlakbclnilakbaa
end

section
namespace Go.Proofs.Ytlakbclnilakbaa
set_option maxHeartbeats 4000000
theorem isC_of {k : Nat} (h : k < 32) : isC (k : Int) = true := decide_eq_true ⟨by omega, by omega⟩
theorem isM_of {m : Nat} (h : m < 4) : isM (m : Int) = true := decide_eq_true ⟨by omega, by omega⟩
/-- of class c nobody but one keeps cells -/
def Alone (S : FrS) (own c i : Nat) : Prop := ∀ m, m < i → m < 4 → m ≠ own → S (c * 5 + 1 + m) = []
theorem fDrain_inv {S : FrS} {n m : Nat} (h : FInv S n) (hm : m < 4) : FInv (fDrain S (m : Int)) n := by
 unfold fDrain
 rw [if_pos (isM_of hm), Int.toNat_natCast]
 intro j hj
 have hp := fDrain_perm S m 32 hm j
 exact ⟨by rw [hp.length_eq]; exact (h j hj).1, hp.nodup_iff.2 (h j hj).2⟩
theorem fDrain_row (S : FrS) {m c j : Nat} (hm : m < 4) (hc : c < 32) (hj : j < 4) : fDrain S (m : Int) (c * 5 + 1 + j) = if j = m then [] else S (c * 5 + 1 + j) := by
 unfold fDrain
 rw [if_pos (isM_of hm), Int.toNat_natCast]
 unfold fDrainTo
 rw [if_pos (by omega), if_neg (by omega)]
 by_cases e : j = m
 ·rw [if_pos (by omega), if_pos e]
 ·rw [if_neg (by omega), if_neg e]
theorem Alone.skip {S : FrS} {own c : Nat} (h : Alone S own c own) : Alone S own c (own + 1) := fun m h1 h2 h3 => h m (by omega) h2 h3
theorem Alone.drain {S : FrS} {own c i : Nat} (h : Alone S own c i) (hi : i < 4) (hc : c < 32) : Alone (fDrain S (i : Int)) own c (i + 1) := fun m h1 h2 h3 => by
 rw [fDrain_row S hi hc h2]
 by_cases e : m = i
 ·rw [if_pos e]
 ·rw [if_neg e]; exact h m (by omega) h2 h3
theorem alone_cls {S : FrS} {own c : Nat} (h : Alone S own c 4) (ho : own < 4) : cls S c = S (c * 5) ++ S (c * 5 + 1 + own) := by
 unfold cls
 rcases own_cases ho with rfl | rfl | rfl | rfl
 ·have h1 := h 1 (by omega) (by omega) (by omega); have h2 := h 2 (by omega) (by omega) (by omega); have h3 := h 3 (by omega) (by omega) (by omega)
  rw [show c * 5 + 1 + 1 = c * 5 + 2 by omega] at h1; rw [show c * 5 + 1 + 2 = c * 5 + 3 by omega] at h2; rw [show c * 5 + 1 + 3 = c * 5 + 4 by omega] at h3
  simp [h1, h2, h3]
 ·have h1 := h 0 (by omega) (by omega) (by omega); have h2 := h 2 (by omega) (by omega) (by omega); have h3 := h 3 (by omega) (by omega) (by omega)
  rw [show c * 5 + 1 + 0 = c * 5 + 1 by omega] at h1; rw [show c * 5 + 1 + 2 = c * 5 + 3 by omega] at h2; rw [show c * 5 + 1 + 3 = c * 5 + 4 by omega] at h3
  simp [h1, h2, h3]
 ·have h1 := h 0 (by omega) (by omega) (by omega); have h2 := h 1 (by omega) (by omega) (by omega); have h3 := h 3 (by omega) (by omega) (by omega)
  rw [show c * 5 + 1 + 0 = c * 5 + 1 by omega] at h1; rw [show c * 5 + 1 + 1 = c * 5 + 2 by omega] at h2; rw [show c * 5 + 1 + 3 = c * 5 + 4 by omega] at h3
  simp [h1, h2, h3]
 ·have h1 := h 0 (by omega) (by omega) (by omega); have h2 := h 1 (by omega) (by omega) (by omega); have h3 := h 2 (by omega) (by omega) (by omega)
  rw [show c * 5 + 1 + 0 = c * 5 + 1 by omega] at h1; rw [show c * 5 + 1 + 1 = c * 5 + 2 by omega] at h2; rw [show c * 5 + 1 + 2 = c * 5 + 3 by omega] at h3
  simp [h1, h2, h3]
theorem fill_some {S : FrS} {own c : Nat} (h : Alone S own c 4) (ho : own < 4) (hne : cls S c ≠ []) : fFill S own c (c * 5 + 1 + own) ≠ [] := by
 rw [alone_cls h ho] at hne
 unfold fFill
 split
 ·rename_i e
  rw [e, List.append_nil] at hne
  rw [updS_at]
  intro h0
  have := congrArg List.length h0
  rw [List.length_drop, List.length_nil] at this
  have := List.length_pos_iff.2 hne
  omega
 ·assumption
theorem fill_none {S : FrS} {own c : Nat} (h : Alone S own c 4) (ho : own < 4) (hne : cls S c = []) : fFill S own c (c * 5 + 1 + own) = [] := by
 rw [alone_cls h ho] at hne
 obtain ⟨h1, h2⟩ := List.append_eq_nil_iff.1 hne
 unfold fFill
 rw [if_pos h2, updS_at, h1]; rfl
theorem fill_alone {S : FrS} {own c : Nat} (h : Alone S own c 4) : Alone (fFill S own c) own c 4 := fun m h1 h2 h3 => by
 unfold fFill
 split
 ·rw [updS_off _ _ (by omega), updS_off _ _ (by omega)]; exact h m h1 h2 h3
 ·exact h m h1 h2 h3
/-- nothing is left -/
theorem take_none {S : FrS} {own c : Nat} (h : Alone S own c 4) (ho : own < 4) (hc : c < 32) (hn : (fList S (c : Int)).length = 0) : (fTake S (own : Int) (c : Int)).2.2 = 4 := by
 unfold fList at hn
 rw [if_pos (isC_of hc), Int.toNat_natCast, srt_len] at hn
 unfold fTake
 rw [if_neg (by rw [isM_of ho, isC_of hc]; simp)]
 rw [Int.toNat_natCast, Int.toNat_natCast, if_pos (fill_none h ho (List.eq_nil_of_length_eq_zero hn))]
/-- one more is taken -/
theorem take_some {S : FrS} {own c n : Nat} (hi : FInv S n) (h : Alone S own c 4) (ho : own < 4) (hc : c < 32) (hn : (fList S (c : Int)).length ≠ 0) :
  (fTake S (own : Int) (c : Int)).2.2 = 0 ∧ FInv (fTake S (own : Int) (c : Int)).1 n ∧ Alone (fTake S (own : Int) (c : Int)).1 own c 4 ∧ (fList (fTake S (own : Int) (c : Int)).1 (c : Int)).length + 1 = (fList S (c : Int)).length ∧ fHas (fTake S (own : Int) (c : Int)).1 (c : Int) (fTake S (own : Int) (c : Int)).2.1 = false := by
 unfold fList at hn ⊢
 rw [if_pos (isC_of hc), Int.toNat_natCast, srt_len] at hn
 rw [if_pos (isC_of hc), if_pos (isC_of hc), Int.toNat_natCast, srt_len, srt_len]
 have hne := fill_some h ho (fun e => hn (by rw [e]; rfl))
 have hp := fTake_perm S ho hne
 unfold fTake
 rw [if_neg (by rw [isM_of ho, isC_of hc]; simp)]
 rw [Int.toNat_natCast, Int.toNat_natCast, if_neg hne]
 have hl := hp.length_eq
 rw [List.length_append, List.length_singleton] at hl
 have hnd := hp.nodup_iff.2 (hi c hc).2
 rw [List.nodup_append] at hnd
 refine ⟨rfl, fun j hj => ?_, fun m h1 h2 h3 => ?_, hl, ?_⟩
 ·show (cls (updS _ _ _) j).length ≤ _ ∧ (cls (updS _ _ _) j).Nodup
  by_cases e : j = c
  ·subst e
   exact ⟨by have := (hi j hj).1; omega, hnd.1⟩
  ·rw [cls_off (by omega), fFill_off S ho e]; exact hi j hj
 ·show updS _ _ _ (c * 5 + 1 + m) = []
  rw [updS_off _ _ (by omega)]
  exact fill_alone h m h1 h2 h3
 ·unfold fHas
  rw [isC_of hc, Bool.true_and, Int.toNat_natCast]
  exact decide_eq_false fun hm => hnd.2.2 _ hm _ (List.mem_singleton.2 rfl) rfl
theorem list_rise {S : FrS} {n c : Nat} (hi : FInv S n) (hc : c < 32) : (fList S (c : Int)).Pairwise (· < ·) := by
 unfold fList
 rw [if_pos (isC_of hc), Int.toNat_natCast]
 have h1 := srt_sorted (cls S c)
 have h2 : (srt (cls S c)).Nodup := (srt_perm _).nodup_iff.2 (hi c hc).2
 exact List.Pairwise.imp₂ (fun a b h3 h4 => by omega) h1 h2
end Go.Proofs.Ytlakbclnilakbaa
end

section
namespace Go.Proofs.Ytlakbclnilakbaa
open Go.RowKit
set_option maxRecDepth 100000
set_option maxHeartbeats 8000000
theorem walk_FreeOnce (x : Option Addr × Nat × Nat × List FOp) (m k : Int) (w : World) (hx : ScriptFOp w x.1 x.2.2.2 ∧ x.2.2.2.length = x.2.1 ∧ x.2.1 ≤ 9223372036854775807 ∧ x.2.1 ≤ x.2.2.1) (wm : (Lit.int .u8 m).wf = true) (wk : (Lit.int .u8 k).wf = true) :
  Calls Try.prog 4 [.slice x.1 x.2.1 x.2.2.1, .int .u8 m, .int .u8 k].toArray w fun e w' => e = .returned (.bool true) ∧ Below w.heap.size w w' := by
 obtain ⟨B, ln, d, ops⟩ := x
 obtain ⟨hs, hl, hn, hc⟩ := hx
 simp only at hs hl hn hc ⊢
 have hm0 := bounds_u8 wm
 have hk0 := bounds_u8 wk
 have hPl := fun {W : World} (h : Only [] w W) => lPlayed B ln d ops W (hs.later h) hl hn
 unfold fV at hPl
 obtain ⟨c, hc0⟩ : ∃ c : Nat, k % 32 = c := ⟨(k % 32).toNat, by omega⟩
 obtain ⟨own, ho0⟩ : ∃ c : Nat, m % 4 = c := ⟨(m % 4).toNat, by omega⟩
 have hc32 : c < 32 := by omega
 have ho4 : own < 4 := by omega
 have H := Heap.nil w
 refine k_in (N := 103) Try.func4 rfl rfl rfl ?_
 refine k_sg ?_
 refine s_run rfl rfl (rab rfl) ?_
 refine k_nc ?_
 refine k_seq ?_
 refine k_sg ?_
 refine s_call rfl (awake14 _) (ca8 rfl) ?_
 rintro e W1 ⟨rfl, H'⟩
 refine ⟨_, rfl, ?_⟩
 have H := H.same H'; clear H'
 refine s_run rfl rfl (r_notT rfl) ?_
 refine k_nc ?_
 refine k_f rfl ?_
 refine k_skip ?_
 refine c_norm ?_
 refine k_sg ?_
 refine s_run rfl rfl (rms rfl) ?_
 refine s_call rfl (hPl H.only) (ca9 rfl) ?_
 rintro e W1 ⟨p, b, F, l, D, rfl, H', hD, hok, hxx, hinv⟩
 refine ⟨_, rfl, ?_⟩
 have H := H.more (A := [grp _]) (grp_heap H'); clear H'; simp only [List.cons_append, List.nil_append] at H
 refine s_run rfl rfl (rmt rfl) ?_
 refine s_run rfl rfl (r_ext (v := .pointer _) rfl rfl) ?_
 refine s_run rfl rfl (r_ext (v := .agg _) rfl rfl) ?_
 refine s_run rfl rfl (r_ext (v := .bool _) rfl rfl) ?_
 refine s_al H rfl inf29 ?_
 intro p8 _ H'; clear H; have H := H'; clear H'
 refine s_run rfl rfl (rap rfl) ?_
 refine s_sw H 0 rfl rfl rfl rfl rfl rfl rfl sz29 ?_
 clear H; intro _ H; simp only [jA, jB, jC, jD, jE, jF, jG, jH, jI, jJ, jK, Nat.reduceAdd] at H
 refine s_run rfl rfl (rab rfl) ?_
 refine k_nc ?_
 refine k_seq ?_
 refine k_sg ?_
 refine s_run rfl rfl (rmb rfl) ?_
 refine s_run rfl rfl (r_notT rfl) ?_
 refine k_nc ?_
 refine k_f rfl ?_
 refine k_skip ?_
 refine c_norm ?_
 refine k_sg ?_
 refine s_run rfl rfl (rmi rfl) ?_
 refine s_run rfl rfl (r_rem rfl rfl (by omega)) ?_
 refine s_run rfl rfl (r_cv rfl (by kernel_rfl) Try.underlying3 (wI (by omega))) ?_
 refine s_run rfl rfl (rmi rfl) ?_
 refine s_run rfl rfl (r_rem rfl rfl (by omega)) ?_
 refine s_run rfl rfl (r_cv rfl (by kernel_rfl) Try.underlying3 (wI (by omega))) ?_
 refine s_run rfl rfl (rai rfl) ?_
 refine s_run rfl rfl (rai rfl) ?_
 refine k_nc ?_
 refine k_seq ?_
 refine k_sg ?_
 refine s_run rfl rfl (rai rfl) ?_
 refine k_nc ?_
 refine k_b ?_
 rw [hc0, ho0]
 replace H := Heap.subl H [1] rfl rfl
 clear hD hxx
 refine k_loop (fun z f W => ∃ (i : Nat) (F : Nat → RowS) (l : FrM), i ≤ 4 ∧ z = 4 - i ∧ FrOk F l 120 ∧ FInv (xsOf F) 120 ∧ Alone (xsOf F) own c i ∧ f 7 = ptrF p ∧ f 10 = .int .i64 c ∧ f 11 = .int .i64 own ∧ f 12 = .int .i64 i ∧ Heap w [] [grp (frE p b F F l)] W) 4 ⟨0, F, l, by omega, rfl, hok, hinv, fun m h => absurd h (by omega), rfl, rfl, rfl, rfl, H⟩ ?_
 clear H hok hinv F l D
 rintro z f W ⟨i, F, l, hi, rfl, hok, hinv, hal, f7, f10, f11, f12, H⟩
 obtain ⟨f, rfl⟩ := live4 f7 f10 f11 f12
 clear f7 f10 f11 f12
 by_cases hlt : i < 4
 ·by_cases e : i = own
  ·subst e
   refine k_seq ?_
   refine k_sg ?_
   refine s_run rfl rfl (rmi rfl) ?_
   refine s_run rfl rfl (r_lssT rfl rfl (by omega)) ?_
   refine k_nc ?_
   refine k_t rfl ?_
   refine k_skip ?_
   refine c_norm ?_
   refine k_seq ?_
   refine k_b ?_
   refine k_sg ?_
   refine s_run rfl rfl (rmi rfl) ?_
   refine s_run rfl rfl (rmi rfl) ?_
   refine s_run rfl rfl (r_neqF rfl rfl (by omega)) ?_
   refine k_nc ?_
   refine k_f rfl ?_
   refine k_skip ?_
   refine b_norm ?_
   refine c_norm ?_
   refine k_rg ?_
   refine s_run rfl rfl (rmi rfl) ?_
   refine s_run rfl rfl (r_add rfl rfl (wI (by omega))) ?_
   refine s_run rfl rfl (rai rfl) ?_
   refine k_nil ?_
   refine c_round ?_
   exact ⟨_, _, by omega, rfl, i + 1, F, l, by omega, rfl, hok, hinv, hal.skip, rfl, rfl, rfl, rfl, H⟩
  ·refine k_seq ?_
   refine k_sg ?_
   refine s_run rfl rfl (rmi rfl) ?_
   refine s_run rfl rfl (r_lssT rfl rfl (by omega)) ?_
   refine k_nc ?_
   refine k_t rfl ?_
   refine k_skip ?_
   refine c_norm ?_
   refine k_seq ?_
   refine k_b ?_
   refine k_sg ?_
   refine s_run rfl rfl (rmi rfl) ?_
   refine s_run rfl rfl (rmi rfl) ?_
   refine s_run rfl rfl (r_neqT rfl rfl (by omega)) ?_
   refine k_nc ?_
   refine k_t rfl ?_
   refine k_rg ?_
   refine s_run rfl rfl (rmp rfl) ?_
   refine s_run rfl rfl (rmi rfl) ?_
   refine s_call rfl (oDrain (H.grp_ents 0 rfl) hok (by omega) (i : Int) ⟨by omega, by omega⟩) (ca15 rfl) ?_
   rintro e W1 ⟨rfl, F', l', H', hok', hx'⟩
   refine ⟨_, rfl, ?_⟩
   have HL := fun i hi => fam_len (T := 3) H' 2 rfl (i := i) hi; have H := H.grp_at 0 rfl H'; clear H'; simp only [List.set_cons_zero] at H
   refine k_nil ?_
   refine b_norm ?_
   refine c_norm ?_
   refine k_rg ?_
   refine s_run rfl rfl (rmi rfl) ?_
   refine s_run rfl rfl (r_add rfl rfl (wI (by omega))) ?_
   refine s_run rfl rfl (rai rfl) ?_
   refine k_nil ?_
   refine c_round ?_
   have hi2 := fDrain_inv hinv hlt
   have ha2 := hal.drain hlt hc32
   rw [← hx'] at hi2 ha2
   exact ⟨_, _, by omega, rfl, i + 1, F', l', by omega, rfl, hok'.tight HL hi2, hi2, ha2, rfl, rfl, rfl, rfl, H⟩
 ·obtain rfl : i = 4 := by omega
  have oL := fun {W2 : World} (hE : Ents (frE p b F F l) W2) => oList hE hok (by omega) (c : Int)
  have hrise := list_rise hinv hc32
  obtain ⟨R, hR⟩ : ∃ R, fList (xsOf F) (c : Int) = R := ⟨_, rfl⟩
  rw [hR] at oL hrise
  have hRl : R.length ≤ 120 := by
   rw [← hR]; unfold fList; rw [if_pos (isC_of hc32), Int.toNat_natCast, srt_len]; exact (hinv c hc32).1
  refine k_seq ?_
  refine k_sg ?_
  refine s_run rfl rfl (rmi rfl) ?_
  refine s_run rfl rfl (r_lssF rfl rfl (by omega)) ?_
  refine k_nc ?_
  refine k_f rfl ?_
  refine k_exit ?_
  refine c_exit ?_
  refine c_exit ?_
  refine b_hit ?_
  refine c_norm ?_
  refine k_sg ?_
  refine s_run rfl rfl (rmp rfl) ?_
  refine s_run rfl rfl (rmi rfl) ?_
  refine s_call rfl (oL (H.grp_ents 0 rfl)) (ca13 rfl) ?_
  rintro e W1 ⟨A1, c1, rfl, H'⟩
  refine ⟨_, rfl, ?_⟩
  have H := H.more H'; clear H'; simp only [List.cons_append, List.nil_append] at H
  refine s_run rfl rfl (ras rfl) ?_
  refine k_nc ?_
  refine k_seq ?_
  refine k_sg ?_
  refine s_run rfl rfl (rai rfl) ?_
  refine k_nc ?_
  refine k_b ?_
  refine k_loop (fun z f W => ∃ (i : Nat), 1 ≤ i ∧ i ≤ R.length + 1 ∧ z = R.length + 1 - i ∧ f 7 = ptrF p ∧ f 10 = .int .i64 c ∧ f 11 = .int .i64 own ∧ f 13 = .slice A1 R.length c1 ∧ f 14 = .int .i64 i ∧ Heap w [] [ownN 1 (.slice A1 R.length c1) R.length (R.map (Value.int .i64)) 3, grp (frE p b F F l)] W) R.length ⟨1, by omega, by omega, by omega, rfl, rfl, rfl, rfl, rfl, H⟩ ?_
  clear H
  rintro z f W ⟨i, hi1, hi, rfl, f7, f10, f11, f13, f14, H⟩
  obtain ⟨f, rfl⟩ := live5 f7 f10 f11 f13 f14
  clear f7 f10 f11 f13 f14
  by_cases hlt : i < R.length
  ·obtain ⟨y, hy⟩ : ∃ y, R[i]? = some y := ⟨_, List.getElem?_eq_getElem (by omega)⟩
   obtain ⟨x, hx⟩ : ∃ y, R[i - 1]? = some y := ⟨_, List.getElem?_eq_getElem (by omega)⟩
   have hxy : x < y := by
    obtain ⟨h1, h2⟩ := List.getElem?_eq_some_iff.1 hx
    obtain ⟨h3, h4⟩ := List.getElem?_eq_some_iff.1 hy
    have := List.pairwise_iff_getElem.1 hrise (i - 1) i h1 h3 (by omega)
    omega
   obtain ⟨q, rfl⟩ := H.own_some 0 rfl (by omega)
   refine k_seq ?_
   refine k_sg ?_
   refine s_run rfl rfl (rmi rfl) ?_
   refine s_run rfl rfl (rms rfl) ?_
   refine s_run rfl rfl (r_len rfl Try.underlying25) ?_
   refine s_run rfl rfl (r_lssT rfl rfl (by omega)) ?_
   refine k_nc ?_
   refine k_t rfl ?_
   refine k_skip ?_
   refine c_norm ?_
   refine k_seq ?_
   refine k_b ?_
   refine k_seq ?_
   refine k_q mixed (by kernel_rfl) H ?_
   refine q_run rfl rfl (fun _ H => r_mv (v := .slice _ _ _) rfl) ?_
   refine q_run rfl rfl (fun _ H => r_mv (v := .int _ _) rfl) ?_
   refine q_run rfl rfl (fun _ H => r_ix1 (i := i) rfl rfl (by omega) (by omega) Try.underlying25 sz3) ?_
   refine q_run rfl rfl (fun _ H => r_ow H 0 rfl rfl hy ag3) ?_
   refine q_run rfl rfl (fun _ H => r_mv (v := .slice _ _ _) rfl) ?_
   refine q_run rfl rfl (fun _ H => r_mv (v := .int _ _) rfl) ?_
   refine q_run rfl rfl (fun _ H => r_sub rfl rfl (wI (by omega))) ?_
   refine q_run rfl rfl (fun _ H => r_ix1 (i := (i - 1)) rfl rfl (by omega) (by omega) Try.underlying25 sz3) ?_
   refine q_run rfl rfl (fun _ H => r_ow H 0 rfl rfl hx ag3) ?_
   refine q_run rfl rfl (fun _ H => r_leqF rfl rfl (by omega)) ?_
   refine q_nil ?_
   intro _ H'; clear H; have H := H'; clear H'
   refine c_norm ?_
   refine k_f rfl ?_
   refine k_skip ?_
   refine b_norm ?_
   refine c_norm ?_
   refine k_rg ?_
   refine s_run rfl rfl (rmi rfl) ?_
   refine s_run rfl rfl (r_add rfl rfl (wI (by omega))) ?_
   refine s_run rfl rfl (rai rfl) ?_
   refine k_nil ?_
   refine c_round ?_
   exact ⟨_, _, by omega, rfl, i + 1, by omega, by omega, rfl, rfl, rfl, rfl, rfl, rfl, H⟩
  ·refine k_seq ?_
   refine k_sg ?_
   refine s_run rfl rfl (rmi rfl) ?_
   refine s_run rfl rfl (rms rfl) ?_
   refine s_run rfl rfl (r_len rfl Try.underlying25) ?_
   refine s_run rfl rfl (r_lssF rfl rfl (by omega)) ?_
   refine k_nc ?_
   refine k_f rfl ?_
   refine k_exit ?_
   refine c_exit ?_
   refine c_exit ?_
   refine b_hit ?_
   refine c_norm ?_
   refine k_seq ?_
   refine k_sg ?_
   refine s_run rfl rfl (rms rfl) ?_
   refine s_run rfl rfl (r_len rfl Try.underlying25) ?_
   refine s_run rfl rfl (rai rfl) ?_
   refine k_nc ?_
   refine k_b ?_
   replace H := Heap.subl H [1] rfl rfl
   have hlen : (fList (xsOf F) (c : Int)).length = R.length := by rw [hR]
   generalize R.length = n at *
   clear hR oL hrise
   refine k_loop (fun z f W => ∃ (F : Nat → RowS) (l : FrM), FrOk F l 120 ∧ FInv (xsOf F) 120 ∧ Alone (xsOf F) own c 4 ∧ (fList (xsOf F) (c : Int)).length = z ∧ z ≤ 120 ∧ f 7 = ptrF p ∧ f 10 = .int .i64 c ∧ f 11 = .int .i64 own ∧ f 15 = .int .i64 z ∧ Heap w [] [grp (frE p b F F l)] W) n ⟨F, l, hok, hinv, hal, hlen, hRl, rfl, rfl, rfl, rfl, H⟩ ?_
   clear H hok hinv hal hlen
   rintro z f W ⟨F, l, hok, hinv, hal, hlen, hz, f7, f10, f11, f15, H⟩
   obtain ⟨f, rfl⟩ := live4 f7 f10 f11 f15
   clear f7 f10 f11 f15
   have hT := fun {W2 : World} (hE : Ents (frE p b F F l) W2) => oTake hE hok (by omega) (own : Int) (c : Int)
   by_cases h0 : z = 0
   ·subst h0
    have e4 := take_none hal ho4 hc32 hlen
    simp only [e4] at hT
    refine k_seq ?_
    refine k_sg ?_
    refine s_run rfl rfl (rmi rfl) ?_
    refine s_run rfl rfl (r_gtrF rfl rfl (by omega)) ?_
    refine k_nc ?_
    refine k_f rfl ?_
    refine k_exit ?_
    refine c_exit ?_
    refine c_exit ?_
    refine b_hit ?_
    refine c_norm ?_
    refine k_sg ?_
    refine s_run rfl rfl (rmp rfl) ?_
    refine s_run rfl rfl (rmi rfl) ?_
    refine s_run rfl rfl (rmi rfl) ?_
    refine s_call rfl (hT (H.grp_ents 0 rfl)) (ca16 rfl) ?_
    rintro e W1 ⟨rfl, F', l', H', hok', hx'⟩
    refine ⟨_, rfl, ?_⟩
    have H := H.grp_at 0 rfl H'; clear H'; simp only [List.set_cons_zero] at H
    refine s_run rfl rfl (rmt rfl) ?_
    refine s_run rfl rfl (r_ext (v := .int _ _) rfl rfl) ?_
    refine s_run rfl rfl (r_ext (v := .int _ _) rfl rfl) ?_
    refine s_run rfl rfl (rai rfl) ?_
    refine s_run rfl rfl (rai rfl) ?_
    refine k_nc ?_
    refine k_sg ?_
    refine s_run rfl rfl (rmi rfl) ?_
    refine s_run rfl rfl (r_eqlT rfl rfl (by omega)) ?_
    refine s_run rfl rfl (rab rfl) ?_
    refine k_nc ?_
    refine k_ret ?_
    refine fin1r (v := .bool _) rfl rfl ?_
    exact ⟨rfl, H.below⟩
   ·obtain ⟨e0, hi2, ha2, hl2, hh2⟩ := take_some hinv hal ho4 hc32 (by omega)
    simp only [e0] at hT
    generalize (fTake (xsOf F) (own : Int) (c : Int)).2.1 = a at *
    generalize (fTake (xsOf F) (own : Int) (c : Int)).1 = S' at *
    refine k_seq ?_
    refine k_sg ?_
    refine s_run rfl rfl (rmi rfl) ?_
    refine s_run rfl rfl (r_gtrT rfl rfl (by omega)) ?_
    refine k_nc ?_
    refine k_t rfl ?_
    refine k_skip ?_
    refine c_norm ?_
    refine k_seq ?_
    refine k_b ?_
    refine k_sg ?_
    refine s_run rfl rfl (rmp rfl) ?_
    refine s_run rfl rfl (rmi rfl) ?_
    refine s_run rfl rfl (rmi rfl) ?_
    refine s_call rfl (hT (H.grp_ents 0 rfl)) (ca16 rfl) ?_
    rintro e W1 ⟨rfl, F', l', H', hok', hx'⟩
    refine ⟨_, rfl, ?_⟩
    have HL := fun i hi => fam_len (T := 3) H' 2 rfl (i := i) hi; have H := H.grp_at 0 rfl H'; clear H'; simp only [List.set_cons_zero] at H; subst hx'
    refine s_run rfl rfl (rmt rfl) ?_
    refine s_run rfl rfl (r_ext (v := .int _ _) rfl rfl) ?_
    refine s_run rfl rfl (r_ext (v := .int _ _) rfl rfl) ?_
    refine s_run rfl rfl (rai rfl) ?_
    refine s_run rfl rfl (rai rfl) ?_
    refine k_nc ?_
    refine k_sg ?_
    refine s_run rfl rfl (rmi rfl) ?_
    refine s_run rfl rfl (r_neqF rfl rfl (by omega)) ?_
    refine s_run rfl rfl (rmb rfl) ?_
    refine s_run rfl (g_on 80 (by kernel_rfl) rfl) (rmp rfl) ?_
    refine s_run rfl (g_on 80 (by kernel_rfl) rfl) (rmi rfl) ?_
    refine s_run rfl (g_on 80 (by kernel_rfl) rfl) (rmi rfl) ?_
    refine s_call (g_on 80 (by kernel_rfl) rfl) ((by have h := oHas (H.grp_ents 0 rfl) hok' (by omega) (c : Int) a; rw [hh2] at h; exact h)) (ca10 rfl) ?_
    rintro e W1 ⟨rfl, H'⟩
    refine ⟨_, rfl, ?_⟩
    have H := H.same H'; clear H'
    refine s_run rfl rfl (r_pkF (v := .bool _) rfl rfl) ?_
    refine s_run rfl rfl (rmb rfl) ?_
    refine s_run rfl (g_on 86 (by kernel_rfl) rfl) (rmp rfl) ?_
    refine s_run rfl (g_on 86 (by kernel_rfl) rfl) (rmi rfl) ?_
    refine s_call (g_on 86 (by kernel_rfl) rfl) (oLen (H.grp_ents 0 rfl) hok' (by omega) (c : Int)) (ca17 rfl) ?_
    rintro e W1 ⟨rfl, H'⟩
    refine ⟨_, rfl, ?_⟩
    have H := H.same H'; clear H'
    refine s_run rfl (g_on 86 (by kernel_rfl) rfl) (rmi rfl) ?_
    refine s_run rfl (g_on 86 (by kernel_rfl) rfl) (r_sub rfl rfl (wI (by omega))) ?_
    refine s_run rfl (g_on 86 (by kernel_rfl) rfl) (r_neqF rfl rfl (by omega)) ?_
    refine s_run rfl rfl (r_pkF (v := .bool _) rfl rfl) ?_
    refine k_nc ?_
    refine k_f rfl ?_
    refine k_skip ?_
    refine b_norm ?_
    refine c_norm ?_
    refine k_rg ?_
    refine s_run rfl rfl (rmi rfl) ?_
    refine s_run rfl rfl (r_sub rfl rfl (wI (by omega))) ?_
    refine s_run rfl rfl (rai rfl) ?_
    refine k_nil ?_
    refine c_round ?_
    exact ⟨(fList (xsOf F') (c : Int)).length, _, by omega, rfl, F', l', hok'.tight HL hi2, hi2, ha2, rfl, by omega, rfl, rfl, rfl, by show Value.int .i64 _ = Value.int .i64 _; congr 1; omega, H⟩
end Go.Proofs.Ytlakbclnilakbaa
end

section
namespace Go.Proofs.Ytlakbclnilakbaa.lFreeOnce
open Go.ChangeShapes Go.WideShapes Go.ChangeAt Go.RowKit
theorem own : ownKnob Try.prog.godebug = none := by kernel_rfl
theorem laidOut : laidOutB Try.prog = true := by kernel_rfl
set_option maxRecDepth 100000 in
theorem lifted (os : Os) (started : os.Started) (H : Type) (enc : TypeId × Value → H) :
  ReturnsInHanded {} Try.checked os 4 .any (Rows.freeOnceSpec.pre6 enc Try.prog Try.f4 Rows.freeOnceRow.domain false) (Rows.freeOnceSpec.post enc Try.prog Try.f4 false true false false) := by
 refine returnsInHanded_of_change (C := Try.checked) own started (by kernel_rfl) Try.func4
  (ChangeSpec.witness6 (enc := enc) (C := Try.checked) false ⟨#[], #[.slice none 0 0, .int .u8 0, .int .u8 0], []⟩ 8 (by kernel_rfl) (by kernel_rfl) (by kernel_rfl) (by kernel_rfl)) ?_
 intro W base args ds gs before hval0 hW hcnd _
 have hval : ∀ (j : Nat) t v, Try.f4.params[j]? = some t → args[j]? = some v → Value.okWide Try.prog W .any base t v := hval0
 have hW' := hW
 obtain ⟨p, q, hA0, hV, rfl, hfz, hnd⟩ := hW
 have hA : DataW.TrodAll enc Try.prog W 0 (fun _ => true) true Try.f4.params.toList args.toList ds p := hA0
 rw [Try.params4] at hA hval
 obtain ⟨v0, vs0, d0, ds0, p0, q0, hargs, rfl, rfl, h0, r0⟩ := trodAll_cons hA
 obtain ⟨v1, vs1, d1, ds1, p1, q1, rfl, rfl, rfl, h1, r1⟩ := trodAll_cons r0
 obtain ⟨v2, vs2, d2, ds2, p2, q2, rfl, rfl, rfl, h2, r2⟩ := trodAll_cons r1
 obtain ⟨rfl, rfl, rfl⟩ := trodAll_nil r2
 obtain rfl : args = #[v0, v1, v2] := by cases args; simp_all
 obtain ⟨rfl, rfl⟩ := trodVars_none hV
 have k0 := h0
 have lt0 : ∀ x ∈ p0, x.block < W.heap.size := by obtain ⟨m, hm⟩ := k0; exact DataW.trod_lt m _ _ _ hm
 have k1 := h1
 have lt1 : ∀ x ∈ p1, x.block < W.heap.size := by obtain ⟨m, hm⟩ := k1; exact DataW.trod_lt m _ _ _ hm
 have k2 := h2
 have lt2 : ∀ x ∈ p2, x.block < W.heap.size := by obtain ⟨m, hm⟩ := k2; exact DataW.trod_lt m _ _ _ hm
 obtain ⟨x0, rfl, w0⟩ := opens_FOp W base v0 d0 p0 (hval 0 22 v0 rfl rfl) h0
 obtain ⟨a1, rfl, rfl, rfl, w1⟩ := open_int Try.underlying5 (hval 1 5 v1 rfl rfl) h1
 obtain ⟨a2, rfl, rfl, rfl, w2⟩ := open_int Try.underlying5 (hval 2 5 v2 rfl rfl) h2
 clear hA0 hval0
 refine (walk_FreeOnce x0 a1 a2 W w0 w1 w2).mono fun e W' ⟨he, bel⟩ => ?_
 subst he
 exact ⟨_, rfl, _, _, _, [], _, [], hW', trodAll_mk1 (shut_bool Try.underlying4 _), (trodAll_cons_mk (Below.trod laidOut (by kernel_rfl) (of_decide_eq_true (by kernel_rfl)) k0 bel lt0) (trodAll_cons_mk (Below.trod laidOut (by kernel_rfl) (of_decide_eq_true (by kernel_rfl)) k1 bel lt1) (trodAll_cons_mk (Below.trod laidOut (by kernel_rfl) (of_decide_eq_true (by kernel_rfl)) k2 bel lt2) trodAll_mk0))), rfl, bel.frame _, fun h => by cases h⟩
theorem over : Rows.freeOnceRow.holds Try.pinned (OpenSpec.ofChange Rows.freeOnceSpec) :=
 OpenClaim.holds_of_wide 4 Try.f4 rfl rfl rfl rfl rfl rfl rfl ⟨rfl, rfl, rfl, rfl, rfl⟩ rfl rfl rfl rfl rfl (by kernel_rfl) Try.func4 (by kernel_rfl)
  (of_decide_eq_true (by kernel_rfl)) (by unfold Func.isWrapper; first | (rw [if_pos (by decide +kernel)]; kernel_rfl) | (rw [if_neg (by decide +kernel)]; exact ⟨rfl, rfl⟩))
  (fun os started H enc _ => lifted os started H enc)
theorem proved : Rows.FreeOnceSaid := over
#print axioms proved
end Go.Proofs.Ytlakbclnilakbaa.lFreeOnce
end
