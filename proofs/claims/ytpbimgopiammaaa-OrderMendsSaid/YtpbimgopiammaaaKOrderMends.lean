/-
  OrderMends: for every input the Go function answers true, and its arguments read afterwards as they read before. No condition.
-/
import Derived.Test.YtpbimgopiammaaaKOrderMendsc
set_option linter.unusedSimpArgs false
set_option linter.unusedVariables false
set_option linter.unusedSectionVars false
section
namespace Go.Proofs.Ytpbimgopiammaaa
open Go.RowKit
set_option maxRecDepth 100000
set_option maxHeartbeats 4000000
theorem sees_more {α : Type} {enc : α → Value} {W W' : World} {L B : List Ent} {A : Option Addr} {xs : List α} (h : Sees enc W (ids L) A xs) (H : Heap W [] B W') : Sees enc W' (ids (B ++ L)) A xs := by
 refine (h.news (G := ids (B ++ L)) (fun i hi => ?_)).later H.only (by simp)
 rw [ids_append] at hi
 rcases List.mem_append.1 hi with h1 | h1
 ·rcases H.own i h1 with h2 | h2
  ·simp at h2
  ·exact .inr h2
 ·exact .inl h1
theorem evC_snoc' (l : List (Int × Int)) (x : Int × Int) : evC l ++ [C1.i .i64 x.1, C1.i .i64 x.2] = evC (l ++ [x]) := by simp [evC]
theorem rMend_at (A : Option Addr) (n c : Nat) (l : List (Int × Int)) (w : World) (hS : EvS A w l) (hl : l.length = n) (hn : n ≤ 100) :
  Calls Try.prog 30 [.slice A n c].toArray w fun e w' => ∃ A' c', e = .returned (.slice A' (rMend l).length c') ∧ Heap w [] [ownN 2 (.slice A' (rMend l).length c') (rMend l).length ((evC (rMend l)).map C1.v) 67] w' := by
 have H := Heap.nil w
 refine k_in (N := 75) Try.func30 rfl rfl rfl ?_
 refine k_sg ?_
 refine s_run rfl rfl (ras rfl) ?_
 refine k_nc ?_
 refine k_sg ?_
 refine s_run rfl rfl (ras rfl) ?_
 refine k_nc ?_
 refine k_seq ?_
 refine k_sg ?_
 refine s_run rfl rfl (rai rfl) ?_
 refine k_nc ?_
 refine k_b ?_
 replace H := H.own_nil 2 67
 refine k_loop (fun z f W => ∃ (i : Nat) (OA : Option Addr) (oc : Nat) (out : List (Int × Int)), i ≤ n ∧ z = n - i ∧ out = rMend (l.take i) ∧ f 0 = .slice A n c ∧ f 3 = .slice OA out.length oc ∧ f 4 = .int .i64 i ∧ Heap w [] [ownN 2 (.slice OA out.length oc) out.length ((evC out).map C1.v) 67] W) n ⟨0, none, 0, [], by omega, rfl, rfl, rfl, rfl, rfl, H⟩ ?_
 clear H
 rintro z f W ⟨i, OA, oc, out, hi, rfl, hout, f0, f3, f4, H⟩
 have hbd := mend_bd2 l i
 rw [← hout] at hbd
 by_cases hlt : i < n
 ·obtain ⟨e, he⟩ : ∃ e, l[i]? = some e := ⟨_, List.getElem?_eq_getElem (by omega)⟩
  obtain ⟨b, o, hA, hrd⟩ := hS (by omega)
  have hre := hrd i e he
  have hst := rMend_snoc l i e he
  rw [← hout] at hst
  obtain ⟨k, m⟩ := e
  have hc0 := hre 0 _ rfl
  have hc1 := hre 1 _ rfl
  simp only at hre hc0 hc1
  unfold mstep at hst
  simp only at hst
  have hl1 : ∀ (o : List (Int × Int)) x, (o ++ [x]).length = o.length + 1 := fun o x => by simp
  rw [hA] at f0
  obtain ⟨f, rfl⟩ := live3 f0 f3 f4
  clear f0 f3 f4
  by_cases h5 : k = 5 ∧ m ≥ 0
  ·rw [if_pos h5] at hst
   obtain ⟨k5, h0⟩ := h5
   have hri : rIn out = ((rMarked out).filter fun x => decide (rState out x = 1)).map flE ++ (if (rMarked out).any (fun x => decide (rState out x > 0)) = true then [((3 : Int), (0 : Int))] else []) := rfl
   obtain ⟨M, hM⟩ : ∃ M, rMarked out = M := ⟨_, rfl⟩
   rw [hM] at hbd hri
   have hMk := fun {F : List Nat} {A2 c2} {W' : World} h h2 => rMarked_at (F := F) A2 out.length c2 out W' h h2 rfl (by omega)
   have hMn : ∀ x ∈ M, 0 ≤ x := by rw [← hM]; exact rMarked_nn out
   rw [hM] at hMk
   refine k_seq ?_
   refine k_sg ?_
   refine s_run rfl rfl (rmi rfl) ?_
   refine s_run rfl rfl (rms rfl) ?_
   refine s_run rfl rfl (r_len rfl Try.underlying53) ?_
   refine s_run rfl rfl (r_lssT rfl rfl (by omega)) ?_
   refine k_nc ?_
   refine k_t rfl ?_
   refine k_skip ?_
   refine c_norm ?_
   refine k_seq ?_
   refine k_b ?_
   refine k_seq ?_
   refine k_sg ?_
   refine s_run rfl rfl (rms rfl) ?_
   refine s_run rfl rfl (rmi rfl) ?_
   refine s_run rfl rfl (r_ix (i := i) rfl rfl (by omega) (by omega) Try.underlying53 sz67) ?_
   refine s_run rfl rfl (r_fa rfl fo67_0) ?_
   refine s_run rfl rfl (r_lr H rfl hc0 (by simp) ag3) ?_
   refine s_run rfl rfl (r_eqlT rfl rfl (by omega)) ?_
   refine s_run rfl rfl (rmb rfl) ?_
   refine s_run rfl (g_on 22 (by kernel_rfl) rfl) (rms rfl) ?_
   refine s_run rfl (g_on 22 (by kernel_rfl) rfl) (rmi rfl) ?_
   refine s_run rfl (g_on 22 (by kernel_rfl) rfl) (r_ix (i := i) rfl rfl (by omega) (by omega) Try.underlying53 sz67) ?_
   refine s_run rfl (g_on 22 (by kernel_rfl) rfl) (r_fa rfl fo67_1) ?_
   refine s_run rfl (g_on 22 (by kernel_rfl) rfl) (r_lr H rfl hc1 (by simp) ag3) ?_
   refine s_run rfl (g_on 22 (by kernel_rfl) rfl) (r_geqT rfl rfl (by omega)) ?_
   refine s_run rfl rfl (r_pkT (v := .bool _) rfl rfl) ?_
   refine k_nc ?_
   refine k_t rfl ?_
   refine k_sg ?_
   refine s_run rfl rfl (rms rfl) ?_
   refine s_call rfl (hMk (ev_own H 0 rfl) H.idlt) (ca47 rfl) ?_
   rintro e W1 ⟨MA, Mc, rfl, hMl, hMS, H'⟩
   refine ⟨_, rfl, ?_⟩
   have H := H.same H'; clear H'
   refine s_run rfl rfl (ras rfl) ?_
   refine k_nc ?_
   refine k_sg ?_
   refine s_run rfl rfl (rab rfl) ?_
   refine k_nc ?_
   refine k_seq ?_
   have HB := H
   clear H
   have hSo := own_seesC HB 0 rfl
   have hol := evC_len out
   have H := Heap.nil W1
   refine k_rg ?_
   refine s_bs0 2 (by omega) H rfl Try.underlying53 inf67 ?_
   intro _ _ H'; clear H; have H := H'; clear H'
   refine s_run rfl rfl (rms rfl) ?_
   refine s_apsN (enc := C1.v) (size := 2) (xs := []) H 0 rfl rfl rfl rfl (hSo) (hol) C1.one (by omega) (by omega) Try.underlying53 inf67 rfl ?_
   intro BA bc W2 H'; simp only [List.set_cons_zero, List.set_cons_succ, List.take_succ_cons, List.take_zero, List.drop_succ_cons, List.drop_zero, List.cons_append, List.nil_append, List.append_nil, List.length_cons, List.length_nil, Nat.reduceAdd] at H'; clear H; have H := H'; clear H'
   refine s_run rfl rfl (ras rfl) ?_
   refine k_nc ?_
   refine k_seq ?_
   refine k_sg ?_
   refine s_run rfl rfl (rai rfl) ?_
   refine k_nc ?_
   refine k_b ?_
   replace hMS := sees_more hMS H
   replace H := HB.more H
   simp only [List.cons_append, List.nil_append] at H hMS
   clear HB hSo
   refine k_loop (fun z f W => ∃ (j : Nat) (A2 : Option Addr) (c2 : Nat) (K : List Int) (out2 : List (Int × Int)) (late : Bool), j ≤ M.length ∧ z = M.length - j ∧ K = (M.take j).filter (fun x => decide (rState out x = 1)) ∧ out2 = out ++ K.map flE ∧ late = (M.take j).any (fun x => decide (rState out x > 0)) ∧ Sees (Value.int .i64) W (ids [ownN 2 (.slice BA (0 + out.length) bc) (0 + out.length) ((evC out).map C1.v) 67, ownN 2 (.slice A2 out2.length c2) out2.length ((evC out2).map C1.v) 67]) MA M ∧ f 0 = .slice (some ⟨b, o, none⟩) n c ∧ f 3 = .slice A2 out2.length c2 ∧ f 4 = .int .i64 i ∧ f 5 = .slice MA M.length Mc ∧ f 6 = .bool late ∧ f 7 = .slice BA (0 + out.length) bc ∧ f 8 = .int .i64 j ∧ Heap w [] [ownN 2 (.slice BA (0 + out.length) bc) (0 + out.length) ((evC out).map C1.v) 67, ownN 2 (.slice A2 out2.length c2) out2.length ((evC out2).map C1.v) 67] W) M.length ⟨0, OA, oc, [], out, false, by omega, rfl, by simp, by simp, by simp, hMS, rfl, rfl, rfl, rfl, rfl, rfl, rfl, H⟩ ?_
   clear H hMS
   rintro z f W ⟨j, A2, c2, K, out2, late, hj, rfl, hK, ho2, hlate, hMS, f0, f3, f4, f5, f6, f7, f8, HB⟩
   have hKl : K.length ≤ M.length := by
    rw [hK]
    exact Nat.le_trans (List.length_filter_le _ _) (List.length_take_le' _ _)
   have ho2l : out2.length = out.length + K.length := by rw [ho2]; simp
   have H := Heap.start HB.ents
   by_cases hjl : j < M.length
   ·obtain ⟨x, hx⟩ : ∃ x, M[j]? = some x := ⟨_, List.getElem?_eq_getElem hjl⟩
    obtain ⟨bm, om, hMA, hbm, hmr⟩ := hMS (by omega)
    have hcm := hmr j x hx
    have hKs : (M.take (j + 1)).filter (fun x => decide (rState out x = 1)) = K ++ (if rState out x = 1 then [x] else []) := by
     rw [← tk_snoc hx, List.filter_append, ← hK]; congr 1; simp only [List.filter_cons, List.filter_nil, decide_eq_true_eq]
    have hls : (M.take (j + 1)).any (fun x => decide (rState out x > 0)) = (late || decide (rState out x > 0)) := by
     rw [← tk_snoc hx, List.any_append, ← hlate]; simp
    have hSt := fun {A3 c3} {W' : World} h => rState_at A3 (0 + out.length) c3 out x W' h (by omega) (by omega)
    rw [hMA] at f5
    obtain ⟨f, rfl⟩ := lv7 f0 f3 f4 f5 f6 f7 f8
    clear f0 f3 f4 f5 f6 f7 f8
    cases late with
    | true =>
     rcases rState_vals out x with hs | hs | hs
     ·skip
      rw [hs, if_neg (by omega), List.append_nil] at hKs
      rw [show (true || decide (rState out x > 0)) = true by rw [hs]; rfl] at hls
      rw [hs] at hSt
      refine k_seq ?_
      refine k_sg ?_
      refine s_run rfl rfl (rmi rfl) ?_
      refine s_run rfl rfl (rms rfl) ?_
      refine s_run rfl rfl (r_len rfl Try.underlying22) ?_
      refine s_run rfl rfl (r_lssT rfl rfl (by omega)) ?_
      refine k_nc ?_
      refine k_t rfl ?_
      refine k_skip ?_
      refine c_norm ?_
      refine k_seq ?_
      refine k_b ?_
      refine k_sg ?_
      refine s_run rfl rfl (rms rfl) ?_
      refine s_run rfl rfl (rms rfl) ?_
      refine s_run rfl rfl (rmi rfl) ?_
      refine s_run rfl rfl (r_ix1o (i := j) rfl rfl (by omega) (by omega) Try.underlying22 sz3) ?_
      refine s_run rfl rfl (r_lr H rfl hcm hbm ag3) ?_
      refine s_call rfl (hSt (ev_own H 0 rfl)) (ca44 rfl) ?_
      rintro e W1 ⟨rfl, H'⟩
      refine ⟨_, rfl, ?_⟩
      have H := H.same H'; clear H'
      refine s_run rfl rfl (rai rfl) ?_
      refine k_nc ?_
      refine k_sg ?_
      refine s_run rfl rfl (rmb rfl) ?_
      refine s_run rfl rfl (rmb rfl) ?_
      refine s_off rfl (g_off 48 (by kernel_rfl) rfl rfl) ?_
      refine s_off rfl (g_off 48 (by kernel_rfl) rfl rfl) ?_
      refine s_run rfl rfl (r_pkT (v := .bool _) rfl rfl) ?_
      refine s_run rfl rfl (rab rfl) ?_
      refine k_nc ?_
      refine k_sg ?_
      refine s_run rfl rfl (rmi rfl) ?_
      refine s_run rfl rfl (r_eqlF rfl rfl (by omega)) ?_
      refine k_nc ?_
      refine k_f rfl ?_
      refine k_skip ?_
      refine b_norm ?_
      refine c_norm ?_
      refine k_rg ?_
      refine s_run rfl rfl (rmi rfl) ?_
      refine s_run rfl rfl (r_add rfl rfl (wI (by omega))) ?_
      refine s_run rfl rfl (rai rfl) ?_
      refine k_nil ?_
      refine c_round ?_
      refine ⟨_, _, ?_, rfl, j + 1, A2, c2, K, out2, true, by omega, rfl, hKs.symm, ho2, hls.symm, sees_on hMS H, rfl, rfl, rfl, by rw [hMA]; rfl, rfl, rfl, rfl, HB.whole H⟩
      omega
     ·skip
      rw [hs, if_pos rfl] at hKs
      rw [show (true || decide (rState out x > 0)) = true by rw [hs]; rfl] at hls
      rw [hs] at hSt
      refine k_seq ?_
      refine k_sg ?_
      refine s_run rfl rfl (rmi rfl) ?_
      refine s_run rfl rfl (rms rfl) ?_
      refine s_run rfl rfl (r_len rfl Try.underlying22) ?_
      refine s_run rfl rfl (r_lssT rfl rfl (by omega)) ?_
      refine k_nc ?_
      refine k_t rfl ?_
      refine k_skip ?_
      refine c_norm ?_
      refine k_seq ?_
      refine k_b ?_
      refine k_sg ?_
      refine s_run rfl rfl (rms rfl) ?_
      refine s_run rfl rfl (rms rfl) ?_
      refine s_run rfl rfl (rmi rfl) ?_
      refine s_run rfl rfl (r_ix1o (i := j) rfl rfl (by omega) (by omega) Try.underlying22 sz3) ?_
      refine s_run rfl rfl (r_lr H rfl hcm hbm ag3) ?_
      refine s_call rfl (hSt (ev_own H 0 rfl)) (ca44 rfl) ?_
      rintro e W1 ⟨rfl, H'⟩
      refine ⟨_, rfl, ?_⟩
      have H := H.same H'; clear H'
      refine s_run rfl rfl (rai rfl) ?_
      refine k_nc ?_
      refine k_sg ?_
      refine s_run rfl rfl (rmb rfl) ?_
      refine s_run rfl rfl (rmb rfl) ?_
      refine s_off rfl (g_off 48 (by kernel_rfl) rfl rfl) ?_
      refine s_off rfl (g_off 48 (by kernel_rfl) rfl rfl) ?_
      refine s_run rfl rfl (r_pkT (v := .bool _) rfl rfl) ?_
      refine s_run rfl rfl (rab rfl) ?_
      refine k_nc ?_
      refine k_sg ?_
      refine s_run rfl rfl (rmi rfl) ?_
      refine s_run rfl rfl (r_eqlT rfl rfl (by omega)) ?_
      refine k_nc ?_
      refine k_t rfl ?_
      refine k_rg ?_
      refine s_run rfl rfl (rms rfl) ?_
      refine s_run rfl rfl (rms rfl) ?_
      refine s_run rfl rfl (rmi rfl) ?_
      refine s_run rfl rfl (r_ix1o (i := j) rfl rfl (by omega) (by omega) Try.underlying22 sz3) ?_
      refine s_run rfl rfl (r_lr H rfl hcm hbm ag3) ?_
      refine s_run rfl rfl (r_bd (bd67_0_1 _ _) rfl) ?_
      refine s_appN (enc := C1.v) (zs := [C1.i .i64 2, C1.i .i64 x]) H 1 rfl rfl rfl rfl C1.one (by omega) (by kernel_rfl) rfl rfl rfl (by omega) Try.underlying53 inf67 rfl ?_
      intro _ A3 c3 _ H'; simp only [List.set_cons_zero, List.set_cons_succ, List.take_succ_cons, List.take_zero, List.drop_succ_cons, List.drop_zero, List.cons_append, List.nil_append, List.append_nil, List.length_cons, List.length_nil, Nat.reduceAdd] at H'; clear H; have H := H'; clear H'
      refine s_run rfl rfl (ras rfl) ?_
      refine k_nil ?_
      refine b_norm ?_
      refine c_norm ?_
      refine k_rg ?_
      refine s_run rfl rfl (rmi rfl) ?_
      refine s_run rfl rfl (r_add rfl rfl (wI (by omega))) ?_
      refine s_run rfl rfl (rai rfl) ?_
      refine k_nil ?_
      refine c_round ?_
      rw [show evC out2 ++ [C1.i .i64 2, C1.i .i64 x] = evC (out2 ++ [flE x]) from evC_snoc' out2 (flE x), ← hl1 out2 (flE x)] at H
      refine ⟨_, _, ?_, rfl, j + 1, some ⟨A3, 0, none⟩, c3, K ++ [x], out2 ++ [flE x], true, by omega, rfl, hKs.symm, by rw [ho2, List.map_append, List.append_assoc]; rfl, hls.symm, sees_on hMS H, rfl, by rw [hl1]; rfl, rfl, by rw [hMA]; rfl, rfl, rfl, rfl, HB.whole H⟩
      omega
     ·skip
      rw [hs, if_neg (by omega), List.append_nil] at hKs
      rw [show (true || decide (rState out x > 0)) = true by rw [hs]; rfl] at hls
      rw [hs] at hSt
      refine k_seq ?_
      refine k_sg ?_
      refine s_run rfl rfl (rmi rfl) ?_
      refine s_run rfl rfl (rms rfl) ?_
      refine s_run rfl rfl (r_len rfl Try.underlying22) ?_
      refine s_run rfl rfl (r_lssT rfl rfl (by omega)) ?_
      refine k_nc ?_
      refine k_t rfl ?_
      refine k_skip ?_
      refine c_norm ?_
      refine k_seq ?_
      refine k_b ?_
      refine k_sg ?_
      refine s_run rfl rfl (rms rfl) ?_
      refine s_run rfl rfl (rms rfl) ?_
      refine s_run rfl rfl (rmi rfl) ?_
      refine s_run rfl rfl (r_ix1o (i := j) rfl rfl (by omega) (by omega) Try.underlying22 sz3) ?_
      refine s_run rfl rfl (r_lr H rfl hcm hbm ag3) ?_
      refine s_call rfl (hSt (ev_own H 0 rfl)) (ca44 rfl) ?_
      rintro e W1 ⟨rfl, H'⟩
      refine ⟨_, rfl, ?_⟩
      have H := H.same H'; clear H'
      refine s_run rfl rfl (rai rfl) ?_
      refine k_nc ?_
      refine k_sg ?_
      refine s_run rfl rfl (rmb rfl) ?_
      refine s_run rfl rfl (rmb rfl) ?_
      refine s_off rfl (g_off 48 (by kernel_rfl) rfl rfl) ?_
      refine s_off rfl (g_off 48 (by kernel_rfl) rfl rfl) ?_
      refine s_run rfl rfl (r_pkT (v := .bool _) rfl rfl) ?_
      refine s_run rfl rfl (rab rfl) ?_
      refine k_nc ?_
      refine k_sg ?_
      refine s_run rfl rfl (rmi rfl) ?_
      refine s_run rfl rfl (r_eqlF rfl rfl (by omega)) ?_
      refine k_nc ?_
      refine k_f rfl ?_
      refine k_skip ?_
      refine b_norm ?_
      refine c_norm ?_
      refine k_rg ?_
      refine s_run rfl rfl (rmi rfl) ?_
      refine s_run rfl rfl (r_add rfl rfl (wI (by omega))) ?_
      refine s_run rfl rfl (rai rfl) ?_
      refine k_nil ?_
      refine c_round ?_
      refine ⟨_, _, ?_, rfl, j + 1, A2, c2, K, out2, true, by omega, rfl, hKs.symm, ho2, hls.symm, sees_on hMS H, rfl, rfl, rfl, by rw [hMA]; rfl, rfl, rfl, rfl, HB.whole H⟩
      omega
    | false =>
     rcases rState_vals out x with hs | hs | hs
     ·skip
      rw [hs, if_neg (by omega), List.append_nil] at hKs
      rw [show (false || decide (rState out x > 0)) = false by rw [hs]; rfl] at hls
      rw [hs] at hSt
      refine k_seq ?_
      refine k_sg ?_
      refine s_run rfl rfl (rmi rfl) ?_
      refine s_run rfl rfl (rms rfl) ?_
      refine s_run rfl rfl (r_len rfl Try.underlying22) ?_
      refine s_run rfl rfl (r_lssT rfl rfl (by omega)) ?_
      refine k_nc ?_
      refine k_t rfl ?_
      refine k_skip ?_
      refine c_norm ?_
      refine k_seq ?_
      refine k_b ?_
      refine k_sg ?_
      refine s_run rfl rfl (rms rfl) ?_
      refine s_run rfl rfl (rms rfl) ?_
      refine s_run rfl rfl (rmi rfl) ?_
      refine s_run rfl rfl (r_ix1o (i := j) rfl rfl (by omega) (by omega) Try.underlying22 sz3) ?_
      refine s_run rfl rfl (r_lr H rfl hcm hbm ag3) ?_
      refine s_call rfl (hSt (ev_own H 0 rfl)) (ca44 rfl) ?_
      rintro e W1 ⟨rfl, H'⟩
      refine ⟨_, rfl, ?_⟩
      have H := H.same H'; clear H'
      refine s_run rfl rfl (rai rfl) ?_
      refine k_nc ?_
      refine k_sg ?_
      refine s_run rfl rfl (rmb rfl) ?_
      refine s_run rfl rfl (rmb rfl) ?_
      refine s_run rfl (g_on 48 (by kernel_rfl) rfl) (rmi rfl) ?_
      refine s_run rfl (g_on 48 (by kernel_rfl) rfl) (r_gtrF rfl rfl (by omega)) ?_
      refine s_run rfl rfl (r_pkF (v := .bool _) rfl rfl) ?_
      refine s_run rfl rfl (rab rfl) ?_
      refine k_nc ?_
      refine k_sg ?_
      refine s_run rfl rfl (rmi rfl) ?_
      refine s_run rfl rfl (r_eqlF rfl rfl (by omega)) ?_
      refine k_nc ?_
      refine k_f rfl ?_
      refine k_skip ?_
      refine b_norm ?_
      refine c_norm ?_
      refine k_rg ?_
      refine s_run rfl rfl (rmi rfl) ?_
      refine s_run rfl rfl (r_add rfl rfl (wI (by omega))) ?_
      refine s_run rfl rfl (rai rfl) ?_
      refine k_nil ?_
      refine c_round ?_
      refine ⟨_, _, ?_, rfl, j + 1, A2, c2, K, out2, false, by omega, rfl, hKs.symm, ho2, hls.symm, sees_on hMS H, rfl, rfl, rfl, by rw [hMA]; rfl, rfl, rfl, rfl, HB.whole H⟩
      omega
     ·skip
      rw [hs, if_pos rfl] at hKs
      rw [show (false || decide (rState out x > 0)) = true by rw [hs]; rfl] at hls
      rw [hs] at hSt
      refine k_seq ?_
      refine k_sg ?_
      refine s_run rfl rfl (rmi rfl) ?_
      refine s_run rfl rfl (rms rfl) ?_
      refine s_run rfl rfl (r_len rfl Try.underlying22) ?_
      refine s_run rfl rfl (r_lssT rfl rfl (by omega)) ?_
      refine k_nc ?_
      refine k_t rfl ?_
      refine k_skip ?_
      refine c_norm ?_
      refine k_seq ?_
      refine k_b ?_
      refine k_sg ?_
      refine s_run rfl rfl (rms rfl) ?_
      refine s_run rfl rfl (rms rfl) ?_
      refine s_run rfl rfl (rmi rfl) ?_
      refine s_run rfl rfl (r_ix1o (i := j) rfl rfl (by omega) (by omega) Try.underlying22 sz3) ?_
      refine s_run rfl rfl (r_lr H rfl hcm hbm ag3) ?_
      refine s_call rfl (hSt (ev_own H 0 rfl)) (ca44 rfl) ?_
      rintro e W1 ⟨rfl, H'⟩
      refine ⟨_, rfl, ?_⟩
      have H := H.same H'; clear H'
      refine s_run rfl rfl (rai rfl) ?_
      refine k_nc ?_
      refine k_sg ?_
      refine s_run rfl rfl (rmb rfl) ?_
      refine s_run rfl rfl (rmb rfl) ?_
      refine s_run rfl (g_on 48 (by kernel_rfl) rfl) (rmi rfl) ?_
      refine s_run rfl (g_on 48 (by kernel_rfl) rfl) (r_gtrT rfl rfl (by omega)) ?_
      refine s_run rfl rfl (r_pkF (v := .bool _) rfl rfl) ?_
      refine s_run rfl rfl (rab rfl) ?_
      refine k_nc ?_
      refine k_sg ?_
      refine s_run rfl rfl (rmi rfl) ?_
      refine s_run rfl rfl (r_eqlT rfl rfl (by omega)) ?_
      refine k_nc ?_
      refine k_t rfl ?_
      refine k_rg ?_
      refine s_run rfl rfl (rms rfl) ?_
      refine s_run rfl rfl (rms rfl) ?_
      refine s_run rfl rfl (rmi rfl) ?_
      refine s_run rfl rfl (r_ix1o (i := j) rfl rfl (by omega) (by omega) Try.underlying22 sz3) ?_
      refine s_run rfl rfl (r_lr H rfl hcm hbm ag3) ?_
      refine s_run rfl rfl (r_bd (bd67_0_1 _ _) rfl) ?_
      refine s_appN (enc := C1.v) (zs := [C1.i .i64 2, C1.i .i64 x]) H 1 rfl rfl rfl rfl C1.one (by omega) (by kernel_rfl) rfl rfl rfl (by omega) Try.underlying53 inf67 rfl ?_
      intro _ A3 c3 _ H'; simp only [List.set_cons_zero, List.set_cons_succ, List.take_succ_cons, List.take_zero, List.drop_succ_cons, List.drop_zero, List.cons_append, List.nil_append, List.append_nil, List.length_cons, List.length_nil, Nat.reduceAdd] at H'; clear H; have H := H'; clear H'
      refine s_run rfl rfl (ras rfl) ?_
      refine k_nil ?_
      refine b_norm ?_
      refine c_norm ?_
      refine k_rg ?_
      refine s_run rfl rfl (rmi rfl) ?_
      refine s_run rfl rfl (r_add rfl rfl (wI (by omega))) ?_
      refine s_run rfl rfl (rai rfl) ?_
      refine k_nil ?_
      refine c_round ?_
      rw [show evC out2 ++ [C1.i .i64 2, C1.i .i64 x] = evC (out2 ++ [flE x]) from evC_snoc' out2 (flE x), ← hl1 out2 (flE x)] at H
      refine ⟨_, _, ?_, rfl, j + 1, some ⟨A3, 0, none⟩, c3, K ++ [x], out2 ++ [flE x], true, by omega, rfl, hKs.symm, by rw [ho2, List.map_append, List.append_assoc]; rfl, hls.symm, sees_on hMS H, rfl, by rw [hl1]; rfl, rfl, by rw [hMA]; rfl, rfl, rfl, rfl, HB.whole H⟩
      omega
     ·skip
      rw [hs, if_neg (by omega), List.append_nil] at hKs
      rw [show (false || decide (rState out x > 0)) = true by rw [hs]; rfl] at hls
      rw [hs] at hSt
      refine k_seq ?_
      refine k_sg ?_
      refine s_run rfl rfl (rmi rfl) ?_
      refine s_run rfl rfl (rms rfl) ?_
      refine s_run rfl rfl (r_len rfl Try.underlying22) ?_
      refine s_run rfl rfl (r_lssT rfl rfl (by omega)) ?_
      refine k_nc ?_
      refine k_t rfl ?_
      refine k_skip ?_
      refine c_norm ?_
      refine k_seq ?_
      refine k_b ?_
      refine k_sg ?_
      refine s_run rfl rfl (rms rfl) ?_
      refine s_run rfl rfl (rms rfl) ?_
      refine s_run rfl rfl (rmi rfl) ?_
      refine s_run rfl rfl (r_ix1o (i := j) rfl rfl (by omega) (by omega) Try.underlying22 sz3) ?_
      refine s_run rfl rfl (r_lr H rfl hcm hbm ag3) ?_
      refine s_call rfl (hSt (ev_own H 0 rfl)) (ca44 rfl) ?_
      rintro e W1 ⟨rfl, H'⟩
      refine ⟨_, rfl, ?_⟩
      have H := H.same H'; clear H'
      refine s_run rfl rfl (rai rfl) ?_
      refine k_nc ?_
      refine k_sg ?_
      refine s_run rfl rfl (rmb rfl) ?_
      refine s_run rfl rfl (rmb rfl) ?_
      refine s_run rfl (g_on 48 (by kernel_rfl) rfl) (rmi rfl) ?_
      refine s_run rfl (g_on 48 (by kernel_rfl) rfl) (r_gtrT rfl rfl (by omega)) ?_
      refine s_run rfl rfl (r_pkF (v := .bool _) rfl rfl) ?_
      refine s_run rfl rfl (rab rfl) ?_
      refine k_nc ?_
      refine k_sg ?_
      refine s_run rfl rfl (rmi rfl) ?_
      refine s_run rfl rfl (r_eqlF rfl rfl (by omega)) ?_
      refine k_nc ?_
      refine k_f rfl ?_
      refine k_skip ?_
      refine b_norm ?_
      refine c_norm ?_
      refine k_rg ?_
      refine s_run rfl rfl (rmi rfl) ?_
      refine s_run rfl rfl (r_add rfl rfl (wI (by omega))) ?_
      refine s_run rfl rfl (rai rfl) ?_
      refine k_nil ?_
      refine c_round ?_
      refine ⟨_, _, ?_, rfl, j + 1, A2, c2, K, out2, true, by omega, rfl, hKs.symm, ho2, hls.symm, sees_on hMS H, rfl, rfl, rfl, by rw [hMA]; rfl, rfl, rfl, rfl, HB.whole H⟩
      omega
   ·obtain rfl : j = M.length := by omega
    rw [List.take_length] at hK hlate
    rw [← hK, ← hlate] at hri
    obtain ⟨f, rfl⟩ := lv7 f0 f3 f4 f5 f6 f7 f8
    clear f0 f3 f4 f5 f6 f7 f8
    replace H := HB
    clear HB
    cases late with
    | true =>
     rw [if_pos rfl] at hri
     have e3 : out ++ rIn out ++ [(k, m)] = out2 ++ [(3, 0)] ++ [(k, m)] := by rw [hri, ho2]; simp
     rw [e3] at hst
     refine k_seq ?_
     refine k_sg ?_
     refine s_run rfl rfl (rmi rfl) ?_
     refine s_run rfl rfl (rms rfl) ?_
     refine s_run rfl rfl (r_len rfl Try.underlying22) ?_
     refine s_run rfl rfl (r_lssF rfl rfl (by omega)) ?_
     refine k_nc ?_
     refine k_f rfl ?_
     refine k_exit ?_
     refine c_exit ?_
     refine c_exit ?_
     refine b_hit ?_
     refine c_norm ?_
     refine k_sg ?_
     refine s_run rfl rfl (rmb rfl) ?_
     refine k_nc ?_
     refine k_t rfl ?_
     refine k_rg ?_
     refine s_run rfl rfl (rms rfl) ?_
     refine s_run rfl rfl (r_bd (bd67_0 _) rfl) ?_
     refine s_appN (enc := C1.v) (zs := [C1.i .i64 3, C1.i .i64 0]) H 1 rfl rfl rfl rfl C1.one (by omega) (by kernel_rfl) rfl rfl rfl (by omega) Try.underlying53 inf67 rfl ?_
     intro _ A3 c3 _ H'; simp only [List.set_cons_zero, List.set_cons_succ, List.take_succ_cons, List.take_zero, List.drop_succ_cons, List.drop_zero, List.cons_append, List.nil_append, List.append_nil, List.length_cons, List.length_nil, Nat.reduceAdd] at H'; clear H; have H := H'; clear H'
     refine s_run rfl rfl (ras rfl) ?_
     refine k_nc ?_
     refine k_rg ?_
     refine s_run rfl rfl (rms rfl) ?_
     refine s_run rfl rfl (rms rfl) ?_
     refine s_run rfl rfl (rmi rfl) ?_
     refine s_run rfl rfl (r_ix (i := i) rfl rfl (by omega) (by omega) Try.underlying53 sz67) ?_
     refine s_run rfl rfl (r_lA (enc := fun v : Value => v) (zs := [.int .i64 k, .int .i64 m]) (hre.later H.only (by simp)) rfl rfl ag67 sz67) ?_
     refine s_appN (enc := C1.v) (zs := [C1.i .i64 k, C1.i .i64 m]) H 1 rfl rfl rfl rfl C1.one (by omega) (by kernel_rfl) rfl rfl rfl (by omega) Try.underlying53 inf67 rfl ?_
     intro _ A4 c4 _ H'; simp only [List.set_cons_zero, List.set_cons_succ, List.take_succ_cons, List.take_zero, List.drop_succ_cons, List.drop_zero, List.cons_append, List.nil_append, List.append_nil, List.length_cons, List.length_nil, Nat.reduceAdd] at H'; clear H; have H := H'; clear H'
     refine s_run rfl rfl (ras rfl) ?_
     refine k_nil ?_
     refine b_norm ?_
     refine c_norm ?_
     refine k_rg ?_
     refine s_run rfl rfl (rmi rfl) ?_
     refine s_run rfl rfl (r_add rfl rfl (wI (by omega))) ?_
     refine s_run rfl rfl (rai rfl) ?_
     refine k_nil ?_
     refine c_round ?_
     rw [show evC out2 ++ [C1.i .i64 3, C1.i .i64 0] = evC (out2 ++ [(3, 0)]) from evC_snoc' out2 (3, 0), show ∀ o, evC o ++ [C1.i .i64 k, C1.i .i64 m] = evC (o ++ [(k, m)]) from fun o => evC_snoc' o (k, m)] at H
     refine ⟨_, _, ?_, rfl, i + 1, some ⟨A4, 0, none⟩, c4, _, by omega, rfl, hst.symm, by rw [hA]; rfl, by rw [hl1, hl1]; rfl, rfl, by rw [hl1, hl1]; exact H.drop⟩
     omega
    | false =>
     rw [if_neg (by simp), List.append_nil] at hri
     have e3 : out ++ rIn out ++ [(k, m)] = out2 ++ [(k, m)] := by rw [hri, ho2]
     rw [e3] at hst
     refine k_seq ?_
     refine k_sg ?_
     refine s_run rfl rfl (rmi rfl) ?_
     refine s_run rfl rfl (rms rfl) ?_
     refine s_run rfl rfl (r_len rfl Try.underlying22) ?_
     refine s_run rfl rfl (r_lssF rfl rfl (by omega)) ?_
     refine k_nc ?_
     refine k_f rfl ?_
     refine k_exit ?_
     refine c_exit ?_
     refine c_exit ?_
     refine b_hit ?_
     refine c_norm ?_
     refine k_sg ?_
     refine s_run rfl rfl (rmb rfl) ?_
     refine k_nc ?_
     refine k_f rfl ?_
     refine k_skip ?_
     refine c_norm ?_
     refine k_rg ?_
     refine s_run rfl rfl (rms rfl) ?_
     refine s_run rfl rfl (rms rfl) ?_
     refine s_run rfl rfl (rmi rfl) ?_
     refine s_run rfl rfl (r_ix (i := i) rfl rfl (by omega) (by omega) Try.underlying53 sz67) ?_
     refine s_run rfl rfl (r_lA (enc := fun v : Value => v) (zs := [.int .i64 k, .int .i64 m]) (hre.later H.only (by simp)) rfl rfl ag67 sz67) ?_
     refine s_appN (enc := C1.v) (zs := [C1.i .i64 k, C1.i .i64 m]) H 1 rfl rfl rfl rfl C1.one (by omega) (by kernel_rfl) rfl rfl rfl (by omega) Try.underlying53 inf67 rfl ?_
     intro _ A4 c4 _ H'; simp only [List.set_cons_zero, List.set_cons_succ, List.take_succ_cons, List.take_zero, List.drop_succ_cons, List.drop_zero, List.cons_append, List.nil_append, List.append_nil, List.length_cons, List.length_nil, Nat.reduceAdd] at H'; clear H; have H := H'; clear H'
     refine s_run rfl rfl (ras rfl) ?_
     refine k_nil ?_
     refine b_norm ?_
     refine c_norm ?_
     refine k_rg ?_
     refine s_run rfl rfl (rmi rfl) ?_
     refine s_run rfl rfl (r_add rfl rfl (wI (by omega))) ?_
     refine s_run rfl rfl (rai rfl) ?_
     refine k_nil ?_
     refine c_round ?_
     rw [show ∀ o, evC o ++ [C1.i .i64 k, C1.i .i64 m] = evC (o ++ [(k, m)]) from fun o => evC_snoc' o (k, m)] at H
     refine ⟨_, _, ?_, rfl, i + 1, some ⟨A4, 0, none⟩, c4, _, by omega, rfl, hst.symm, by rw [hA]; rfl, by rw [hl1]; rfl, rfl, by rw [hl1]; exact H.drop⟩
     omega
  ·rw [if_neg h5] at hst
   by_cases k5 : k = 5
   ·refine k_seq ?_
    refine k_sg ?_
    refine s_run rfl rfl (rmi rfl) ?_
    refine s_run rfl rfl (rms rfl) ?_
    refine s_run rfl rfl (r_len rfl Try.underlying53) ?_
    refine s_run rfl rfl (r_lssT rfl rfl (by omega)) ?_
    refine k_nc ?_
    refine k_t rfl ?_
    refine k_skip ?_
    refine c_norm ?_
    refine k_seq ?_
    refine k_b ?_
    refine k_seq ?_
    refine k_sg ?_
    refine s_run rfl rfl (rms rfl) ?_
    refine s_run rfl rfl (rmi rfl) ?_
    refine s_run rfl rfl (r_ix (i := i) rfl rfl (by omega) (by omega) Try.underlying53 sz67) ?_
    refine s_run rfl rfl (r_fa rfl fo67_0) ?_
    refine s_run rfl rfl (r_lr H rfl hc0 (by simp) ag3) ?_
    refine s_run rfl rfl (r_eqlT rfl rfl (by omega)) ?_
    refine s_run rfl rfl (rmb rfl) ?_
    refine s_run rfl (g_on 22 (by kernel_rfl) rfl) (rms rfl) ?_
    refine s_run rfl (g_on 22 (by kernel_rfl) rfl) (rmi rfl) ?_
    refine s_run rfl (g_on 22 (by kernel_rfl) rfl) (r_ix (i := i) rfl rfl (by omega) (by omega) Try.underlying53 sz67) ?_
    refine s_run rfl (g_on 22 (by kernel_rfl) rfl) (r_fa rfl fo67_1) ?_
    refine s_run rfl (g_on 22 (by kernel_rfl) rfl) (r_lr H rfl hc1 (by simp) ag3) ?_
    refine s_run rfl (g_on 22 (by kernel_rfl) rfl) (r_geqF rfl rfl (by omega)) ?_
    refine s_run rfl rfl (r_pkT (v := .bool _) rfl rfl) ?_
    refine k_nc ?_
    refine k_f rfl ?_
    refine k_skip ?_
    refine c_norm ?_
    refine k_rg ?_
    refine s_run rfl rfl (rms rfl) ?_
    refine s_run rfl rfl (rms rfl) ?_
    refine s_run rfl rfl (rmi rfl) ?_
    refine s_run rfl rfl (r_ix (i := i) rfl rfl (by omega) (by omega) Try.underlying53 sz67) ?_
    refine s_run rfl rfl (r_lA (enc := fun v : Value => v) (zs := [.int .i64 k, .int .i64 m]) (hre.later H.only (by simp)) rfl rfl ag67 sz67) ?_
    refine s_appN (enc := C1.v) (zs := [C1.i .i64 k, C1.i .i64 m]) H 0 rfl rfl rfl rfl C1.one (by omega) (by kernel_rfl) rfl rfl rfl (by omega) Try.underlying53 inf67 rfl ?_
    intro _ A4 c4 _ H'; simp only [List.set_cons_zero, List.set_cons_succ, List.take_succ_cons, List.take_zero, List.drop_succ_cons, List.drop_zero, List.cons_append, List.nil_append, List.append_nil, List.length_cons, List.length_nil, Nat.reduceAdd] at H'; clear H; have H := H'; clear H'
    refine s_run rfl rfl (ras rfl) ?_
    refine k_nil ?_
    refine b_norm ?_
    refine c_norm ?_
    refine k_rg ?_
    refine s_run rfl rfl (rmi rfl) ?_
    refine s_run rfl rfl (r_add rfl rfl (wI (by omega))) ?_
    refine s_run rfl rfl (rai rfl) ?_
    refine k_nil ?_
    refine c_round ?_
    rw [show ∀ o, evC o ++ [C1.i .i64 k, C1.i .i64 m] = evC (o ++ [(k, m)]) from fun o => evC_snoc' o (k, m)] at H
    refine ⟨_, _, ?_, rfl, i + 1, some ⟨A4, 0, none⟩, c4, _, by omega, rfl, hst.symm, by rw [hA]; rfl, by rw [hl1]; rfl, rfl, by rw [hl1]; exact H⟩
    omega
   ·refine k_seq ?_
    refine k_sg ?_
    refine s_run rfl rfl (rmi rfl) ?_
    refine s_run rfl rfl (rms rfl) ?_
    refine s_run rfl rfl (r_len rfl Try.underlying53) ?_
    refine s_run rfl rfl (r_lssT rfl rfl (by omega)) ?_
    refine k_nc ?_
    refine k_t rfl ?_
    refine k_skip ?_
    refine c_norm ?_
    refine k_seq ?_
    refine k_b ?_
    refine k_seq ?_
    refine k_sg ?_
    refine s_run rfl rfl (rms rfl) ?_
    refine s_run rfl rfl (rmi rfl) ?_
    refine s_run rfl rfl (r_ix (i := i) rfl rfl (by omega) (by omega) Try.underlying53 sz67) ?_
    refine s_run rfl rfl (r_fa rfl fo67_0) ?_
    refine s_run rfl rfl (r_lr H rfl hc0 (by simp) ag3) ?_
    refine s_run rfl rfl (r_eqlF rfl rfl (by omega)) ?_
    refine s_run rfl rfl (rmb rfl) ?_
    refine s_off rfl (g_off 22 (by kernel_rfl) rfl rfl) ?_
    refine s_off rfl (g_off 22 (by kernel_rfl) rfl rfl) ?_
    refine s_off rfl (g_off 22 (by kernel_rfl) rfl rfl) ?_
    refine s_off rfl (g_off 22 (by kernel_rfl) rfl rfl) ?_
    refine s_off rfl (g_off 22 (by kernel_rfl) rfl rfl) ?_
    refine s_off rfl (g_off 22 (by kernel_rfl) rfl rfl) ?_
    refine s_run rfl rfl (r_pkF (v := .bool _) rfl rfl) ?_
    refine k_nc ?_
    refine k_f rfl ?_
    refine k_skip ?_
    refine c_norm ?_
    refine k_rg ?_
    refine s_run rfl rfl (rms rfl) ?_
    refine s_run rfl rfl (rms rfl) ?_
    refine s_run rfl rfl (rmi rfl) ?_
    refine s_run rfl rfl (r_ix (i := i) rfl rfl (by omega) (by omega) Try.underlying53 sz67) ?_
    refine s_run rfl rfl (r_lA (enc := fun v : Value => v) (zs := [.int .i64 k, .int .i64 m]) (hre.later H.only (by simp)) rfl rfl ag67 sz67) ?_
    refine s_appN (enc := C1.v) (zs := [C1.i .i64 k, C1.i .i64 m]) H 0 rfl rfl rfl rfl C1.one (by omega) (by kernel_rfl) rfl rfl rfl (by omega) Try.underlying53 inf67 rfl ?_
    intro _ A4 c4 _ H'; simp only [List.set_cons_zero, List.set_cons_succ, List.take_succ_cons, List.take_zero, List.drop_succ_cons, List.drop_zero, List.cons_append, List.nil_append, List.append_nil, List.length_cons, List.length_nil, Nat.reduceAdd] at H'; clear H; have H := H'; clear H'
    refine s_run rfl rfl (ras rfl) ?_
    refine k_nil ?_
    refine b_norm ?_
    refine c_norm ?_
    refine k_rg ?_
    refine s_run rfl rfl (rmi rfl) ?_
    refine s_run rfl rfl (r_add rfl rfl (wI (by omega))) ?_
    refine s_run rfl rfl (rai rfl) ?_
    refine k_nil ?_
    refine c_round ?_
    rw [show ∀ o, evC o ++ [C1.i .i64 k, C1.i .i64 m] = evC (o ++ [(k, m)]) from fun o => evC_snoc' o (k, m)] at H
    refine ⟨_, _, ?_, rfl, i + 1, some ⟨A4, 0, none⟩, c4, _, by omega, rfl, hst.symm, by rw [hA]; rfl, by rw [hl1]; rfl, rfl, by rw [hl1]; exact H⟩
    omega
 ·obtain rfl : i = n := by omega
  have et : l.take i = l := by rw [← hl]; exact List.take_length
  rw [et] at hout
  subst hout
  obtain ⟨f, rfl⟩ := live3 f0 f3 f4
  clear f0 f3 f4
  refine k_seq ?_
  refine k_sg ?_
  refine s_run rfl rfl (rmi rfl) ?_
  refine s_run rfl rfl (rms rfl) ?_
  refine s_run rfl rfl (r_len rfl Try.underlying53) ?_
  refine s_run rfl rfl (r_lssF rfl rfl (by omega)) ?_
  refine k_nc ?_
  refine k_f rfl ?_
  refine k_exit ?_
  refine c_exit ?_
  refine c_exit ?_
  refine b_hit ?_
  refine c_norm ?_
  refine k_sg ?_
  refine s_run rfl rfl (rms rfl) ?_
  refine s_run rfl rfl (ras rfl) ?_
  refine k_nc ?_
  refine k_ret ?_
  refine fin1r (v := .slice _ _ _) rfl rfl ?_
  exact ⟨OA, oc, rfl, H⟩
end Go.Proofs.Ytpbimgopiammaaa
end

section
namespace Go.Proofs.Ytpbimgopiammaaa
open Go.RowKit
set_option maxRecDepth 100000
set_option maxHeartbeats 4000000
theorem marked_of (P : Int → Prop) (l : List (Int × Int)) (h : ∀ e ∈ l, P e.2) : ∀ x ∈ rMarked l, P x := by
 have : ∀ (l : List (Int × Int)) (M : List Int), (∀ e ∈ l, P e.2) → (∀ x ∈ M, P x) → ∀ x ∈ l.foldl rmk M, P x := by
  intro l
  induction l with
  | nil => intro M _ h; exact h
  | cons e l ih =>
   intro M hl h
   rw [List.foldl_cons]
   refine ih _ (fun e' he => hl e' (by simp [he])) ?_
   unfold rmk
   split
   ·exact h
   ·split
    ·simp
    ·split
     ·intro x hx
      rcases (rIns_mem M e.2 x).1 hx with rfl | hx
      ·exact hl e (by simp)
      ·exact h x hx
     ·exact h
 exact this l [] h (by simp)
theorem mend_of (P : Int → Prop) (h0 : P 0) (l : List (Int × Int)) (h : ∀ e ∈ l, P e.2) : ∀ e ∈ rMend l, P e.2 := by
 have : ∀ (l out : List (Int × Int)), (∀ e ∈ l, P e.2) → (∀ e ∈ out, P e.2) → ∀ e ∈ l.foldl mstep out, P e.2 := by
  intro l
  induction l with
  | nil => intro out _ h; exact h
  | cons e l ih =>
   intro out hl ho
   rw [List.foldl_cons]
   refine ih _ (fun e' he => hl e' (by simp [he])) ?_
   have he := hl e (by simp)
   have hM := marked_of P out ho
   unfold mstep
   split
   ·intro e' he'
    rcases List.mem_append.1 he' with he' | he'
    ·rcases List.mem_append.1 he' with he' | he'
     ·exact ho e' he'
     ·unfold rIn at he'
      rcases List.mem_append.1 he' with he' | he'
      ·obtain ⟨x, hx, rfl⟩ := List.mem_map.1 he'
       exact hM x (List.mem_filter.1 hx).1
      ·split at he'
       ·rw [List.mem_singleton.1 he']; exact h0
       ·simp at he'
    ·rw [List.mem_singleton.1 he']; exact he
   ·intro e' he'
    rcases List.mem_append.1 he' with he' | he'
    ·exact ho e' he'
    ·rw [List.mem_singleton.1 he']; exact he
 exact this l [] h (by simp)
theorem ev_cells {A : Option Addr} {n c : Nat} {l : List (Int × Int)} {T : TypeId} {w0 W : World} {F : List Nat} {L : List Ent} (H : Heap w0 F L W) (j : Nat) (hj : L[j]? = some (ownN 2 (.slice A n c) n ((evC l).map C1.v) T)) (i : Nat) (e : Int × Int) (he : l[i]? = some e) :
  ∃ b, A = some ⟨b, 0, none⟩ ∧ W.cell? ⟨b, i * 2, none⟩ = some (.int .i64 e.1) ∧ W.cell? ⟨b, i * 2 + 1, none⟩ = some (.int .i64 e.2) := by
 have hi := (List.getElem?_eq_some_iff.1 he).1
 obtain ⟨b, e1, _, hr⟩ := H.own_seesN j hj (by rw [evC_len]; omega)
 obtain ⟨g1, g2⟩ := evC_get l i e he
 exact ⟨b, e1, by have := hr _ _ g1; rwa [Nat.zero_add] at this, by have := hr _ _ g2; rwa [Nat.zero_add] at this⟩
theorem flt_cells {A : Option Addr} {n c : Nat} {l : List Flt} {T : TypeId} {w0 W : World} {F : List Nat} {L : List Ent} (H : Heap w0 F L W) (j : Nat) (hj : L[j]? = some (ownN 3 (.slice A n c) n ((fltN l).map C1.v) T)) (i : Nat) (x : Flt) (hx : l[i]? = some x) :
  ∃ b, A = some ⟨b, 0, none⟩ ∧ W.cell? ⟨b, i * 3 + 2, none⟩ = some (.int .i64 x.kind) := by
 have hi := (List.getElem?_eq_some_iff.1 hx).1
 obtain ⟨b, e1, _, hr⟩ := H.own_seesN j hj (by rw [flt_len]; omega)
 obtain ⟨_, _, g3⟩ := flt_get l i x hx
 exact ⟨b, e1, by have := hr _ _ g3; rwa [Nat.zero_add] at this⟩
def badB (l : List Flt) : Bool := l.any fun x => decide (x.kind ≤ 2)
theorem walk_OrderMends (x : Option Addr × Nat × Nat × List EvT) (w : World) (hx : ScriptEvT w x.1 x.2.2.2 ∧ x.2.2.2.length = x.2.1 ∧ x.2.1 ≤ 9223372036854775807 ∧ x.2.1 ≤ x.2.2.1) :
  Calls Try.prog 6 [.slice x.1 x.2.1 x.2.2.1].toArray w fun e w' => e = .returned (.bool true) ∧ Below w.heap.size w w' := by
 obtain ⟨A, n, c, ops⟩ := x
 obtain ⟨hs, hl, hn, hc⟩ := hx
 simp only at hs hl hn hc ⊢
 have hS := script_ev hs
 have hb := ev_bd hs
 obtain ⟨l, hll⟩ : ∃ l, ops.map EvT.e = l := ⟨_, rfl⟩
 rw [hll] at hS hb
 replace hl : l.length = n := by rw [← hll, List.length_map]; exact hl
 clear hll hs
 have H := Heap.nil w
 by_cases hbig : 80 < n
 ·refine k_in (N := 103) Try.func6 rfl rfl rfl ?_
  refine k_sg ?_
  refine s_run rfl rfl (rab rfl) ?_
  refine k_nc ?_
  refine k_seq ?_
  refine k_sg ?_
  refine s_call rfl (awake35 _) (ca17 rfl) ?_
  rintro e W1 ⟨rfl, H'⟩
  refine ⟨_, rfl, ?_⟩
  have H := H.same H'; clear H'
  refine s_run rfl rfl (r_notT rfl) ?_
  refine k_nc ?_
  refine k_f rfl ?_
  refine k_skip ?_
  refine c_norm ?_
  refine k_seq ?_
  refine k_sg ?_
  refine s_run rfl rfl (rms rfl) ?_
  refine s_run rfl rfl (r_len rfl Try.underlying44) ?_
  refine s_run rfl rfl (r_gtrT rfl rfl (by omega)) ?_
  refine k_nc ?_
  refine k_t rfl ?_
  refine k_sg ?_
  refine s_run rfl rfl (rab rfl) ?_
  refine k_nc ?_
  refine k_ret ?_
  refine c_ret ?_
  refine fin1r (v := .bool _) rfl rfl ?_
  exact ⟨rfl, H.below⟩
 ·have hMe := fun {W : World} h => oMend A n c l W (hS.later h) hl (by omega) hb
  have hRf := fun {W : World} h => lRefs A n c l W (hS.later h) hl (by omega)
  have hRm := fun {A2 c2} {W : World} h => rMend_at A2 n c2 l W h hl (by omega)
  have hC1 := fun {W : World} (h : Only [] w W) => oCheck A n c l W (hS.later h) hl (by omega) hb
  obtain ⟨m, hm⟩ : ∃ m, rMend l = m := ⟨_, rfl⟩
  have hmb := mend_bd l
  have hms := mend_safe l
  have hmo := mend_of (fun x => -9223372036854775808 ≤ x ∧ x ≤ 9223372036854775807) (by omega) l hb
  have hsame : badB (chk l).faults = false → m.length = n := fun h => by
   rw [← hm, mend_same l, hl]
   intro x hx
   have h1 := List.any_eq_false.1 h x hx
   simp at h1
   omega
  rw [hm] at hMe hRm hmb hms hmo
  have hml : m.length ≤ 160 := by omega
  have hC2 := fun {A2 c2} {W : World} h => oCheck A2 m.length c2 m W h rfl (by omega) hmo
  refine k_in (N := 103) Try.func6 rfl rfl rfl ?_
  refine k_sg ?_
  refine s_run rfl rfl (rab rfl) ?_
  refine k_nc ?_
  refine k_seq ?_
  refine k_sg ?_
  refine s_call rfl (awake35 _) (ca17 rfl) ?_
  rintro e W1 ⟨rfl, H'⟩
  refine ⟨_, rfl, ?_⟩
  have H := H.same H'; clear H'
  refine s_run rfl rfl (r_notT rfl) ?_
  refine k_nc ?_
  refine k_f rfl ?_
  refine k_skip ?_
  refine c_norm ?_
  refine k_seq ?_
  refine k_sg ?_
  refine s_run rfl rfl (rms rfl) ?_
  refine s_run rfl rfl (r_len rfl Try.underlying44) ?_
  refine s_run rfl rfl (r_gtrF rfl rfl (by omega)) ?_
  refine k_nc ?_
  refine k_f rfl ?_
  refine k_skip ?_
  refine c_norm ?_
  refine k_sg ?_
  refine s_run rfl rfl (rms rfl) ?_
  refine s_call rfl (hMe H.only) (ca29 rfl) ?_
  rintro e W1 ⟨PA, pc, rfl, H'⟩
  refine ⟨_, rfl, ?_⟩
  have H := H.more H'; clear H'; simp only [List.cons_append, List.nil_append] at H
  refine s_run rfl rfl (ras rfl) ?_
  refine k_nc ?_
  refine k_sg ?_
  refine s_run rfl rfl (rms rfl) ?_
  refine s_call rfl (hRf H.only) (ca23 rfl) ?_
  rintro e W1 ⟨RA, rc, rfl, hrc, H'⟩
  refine ⟨_, rfl, ?_⟩
  have H := H.more H'; clear H'; simp only [List.cons_append, List.nil_append] at H
  refine s_call rfl (hRm (ev_own H 0 rfl)) (ca30 rfl) ?_
  rintro e W1 ⟨QA, qc, rfl, H'⟩
  refine ⟨_, rfl, ?_⟩
  have H := H.more H'; clear H'; simp only [List.cons_append, List.nil_append] at H
  refine s_run rfl rfl (ras rfl) ?_
  refine k_nc ?_
  refine k_seq ?_
  refine k_sg ?_
  refine s_run rfl rfl (rms rfl) ?_
  refine s_run rfl rfl (r_len rfl Try.underlying44) ?_
  refine s_run rfl rfl (rms rfl) ?_
  refine s_run rfl rfl (r_len rfl Try.underlying53) ?_
  refine s_run rfl rfl (r_neqF rfl rfl (by omega)) ?_
  refine k_nc ?_
  refine k_f rfl ?_
  refine k_skip ?_
  refine c_norm ?_
  refine k_seq ?_
  refine k_sg ?_
  refine s_run rfl rfl (rai rfl) ?_
  refine k_nc ?_
  refine k_b ?_
  refine k_loop (fun z f W => ∃ (i : Nat), i ≤ m.length ∧ z = m.length - i ∧ f 0 = .slice A n c ∧ f 3 = .slice PA m.length pc ∧ f 4 = .slice QA m.length qc ∧ f 5 = .int .i64 i ∧ Heap w [] [ownN 2 (.slice QA m.length qc) m.length ((evC m).map C1.v) 67, ownN 2 (.slice RA n rc) n ((evC l).map C1.v) 67, ownN 2 (.slice PA m.length pc) m.length ((evC m).map C1.v) 49] W) m.length ⟨0, by omega, rfl, rfl, rfl, rfl, rfl, H⟩ ?_
  clear H
  rintro z f W ⟨i, hi, rfl, f0, f3, f4, f5, H⟩
  by_cases hlt : i < m.length
  ·obtain ⟨e, he⟩ : ∃ e, m[i]? = some e := ⟨_, List.getElem?_eq_getElem hlt⟩
   obtain ⟨qb, rfl, q1, q2⟩ := ev_cells H 0 rfl i e he
   obtain ⟨pb, rfl, p1, p2⟩ := ev_cells H 2 rfl i e he
   have HB := H
   clear H
   have H := Heap.nil W
   obtain ⟨f, rfl⟩ := live4 f0 f3 f4 f5
   clear f0 f3 f4 f5
   refine k_seq ?_
   refine k_sg ?_
   refine s_run rfl rfl (rmi rfl) ?_
   refine s_run rfl rfl (rms rfl) ?_
   refine s_run rfl rfl (r_len rfl Try.underlying44) ?_
   refine s_run rfl rfl (r_lssT rfl rfl (by omega)) ?_
   refine k_nc ?_
   refine k_t rfl ?_
   refine k_skip ?_
   refine c_norm ?_
   refine k_seq ?_
   refine k_b ?_
   refine k_seq ?_
   refine k_q mixed (by kernel_rfl) H ?_
   refine q_run rfl rfl (fun _ H => r_mv (v := .slice _ _ _) rfl) ?_
   refine q_run rfl rfl (fun _ H => r_mv (v := .int _ _) rfl) ?_
   refine q_run rfl rfl (fun _ H => r_ix0 (i := i) rfl rfl (by omega) (by omega) Try.underlying44 sz49) ?_
   refine q_run rfl rfl (fun _ H => r_fa rfl fo49_0) ?_
   refine q_run rfl rfl (fun _ H => r_lr H rfl p1 (by simp) ag3) ?_
   refine q_run rfl rfl (fun _ H => r_mv (v := .slice _ _ _) rfl) ?_
   refine q_run rfl rfl (fun _ H => r_mv (v := .int _ _) rfl) ?_
   refine q_run rfl rfl (fun _ H => r_ix0 (i := i) rfl rfl (by omega) (by omega) Try.underlying53 sz67) ?_
   refine q_run rfl rfl (fun _ H => r_fa rfl fo67_0) ?_
   refine q_run rfl rfl (fun _ H => r_lr H rfl q1 (by simp) ag3) ?_
   refine q_run rfl rfl (fun _ H => r_neqF rfl rfl (by omega)) ?_
   refine q_run rfl rfl (fun _ H => r_mv (v := .bool _) rfl) ?_
   refine q_run rfl (g_on 43 (by kernel_rfl) rfl) (fun _ H => r_mv (v := .slice _ _ _) rfl) ?_
   refine q_run rfl (g_on 43 (by kernel_rfl) rfl) (fun _ H => r_mv (v := .int _ _) rfl) ?_
   refine q_run rfl (g_on 43 (by kernel_rfl) rfl) (fun _ H => r_ix0 (i := i) rfl rfl (by omega) (by omega) Try.underlying44 sz49) ?_
   refine q_run rfl (g_on 43 (by kernel_rfl) rfl) (fun _ H => r_fa rfl fo49_1) ?_
   refine q_run rfl (g_on 43 (by kernel_rfl) rfl) (fun _ H => r_lr H rfl p2 (by simp) ag3) ?_
   refine q_run rfl (g_on 43 (by kernel_rfl) rfl) (fun _ H => r_mv (v := .slice _ _ _) rfl) ?_
   refine q_run rfl (g_on 43 (by kernel_rfl) rfl) (fun _ H => r_mv (v := .int _ _) rfl) ?_
   refine q_run rfl (g_on 43 (by kernel_rfl) rfl) (fun _ H => r_ix0 (i := i) rfl rfl (by omega) (by omega) Try.underlying53 sz67) ?_
   refine q_run rfl (g_on 43 (by kernel_rfl) rfl) (fun _ H => r_fa rfl fo67_1) ?_
   refine q_run rfl (g_on 43 (by kernel_rfl) rfl) (fun _ H => r_lr H rfl q2 (by simp) ag3) ?_
   refine q_run rfl (g_on 43 (by kernel_rfl) rfl) (fun _ H => r_neqF rfl rfl (by omega)) ?_
   refine q_run rfl rfl (fun _ H => r_pkF (v := .bool _) rfl rfl) ?_
   refine q_nil ?_
   intro _ H'; clear H; have H := H'; clear H'
   refine c_norm ?_
   refine k_f rfl ?_
   refine k_skip ?_
   refine b_norm ?_
   refine c_norm ?_
   refine k_rg ?_
   refine s_run rfl rfl (rmi rfl) ?_
   refine s_run rfl rfl (r_add rfl rfl (wI (by omega))) ?_
   refine s_run rfl rfl (rai rfl) ?_
   refine k_nil ?_
   refine c_round ?_
   refine ⟨_, _, ?_, rfl, i + 1, by omega, rfl, rfl, rfl, rfl, rfl, HB.same H.only⟩
   omega
  ·obtain rfl : i = m.length := by omega
   obtain ⟨f, rfl⟩ := live4 f0 f3 f4 f5
   clear f0 f3 f4 f5
   have hfl := chk_bd l l.length (Nat.le_refl _) (by omega)
   rw [List.take_length] at hfl
   have hgl := chk_bd m m.length (Nat.le_refl _) (by omega)
   rw [List.take_length] at hgl
   obtain ⟨ff, hff⟩ : ∃ ff, (chk l).faults = ff := ⟨_, rfl⟩
   obtain ⟨gg, hgg⟩ : ∃ gg, (chk m).faults = gg := ⟨_, rfl⟩
   rw [hff] at hC1 hsame hfl
   rw [hgg] at hC2 hgl
   unfold Safe at hms
   rw [hgg] at hms
   refine k_seq ?_
   refine k_sg ?_
   refine s_run rfl rfl (rmi rfl) ?_
   refine s_run rfl rfl (rms rfl) ?_
   refine s_run rfl rfl (r_len rfl Try.underlying44) ?_
   refine s_run rfl rfl (r_lssF rfl rfl (by omega)) ?_
   refine k_nc ?_
   refine k_f rfl ?_
   refine k_exit ?_
   refine c_exit ?_
   refine c_exit ?_
   refine b_hit ?_
   refine c_norm ?_
   refine k_sg ?_
   refine s_run rfl rfl (rab rfl) ?_
   refine k_nc ?_
   refine k_sg ?_
   refine s_run rfl rfl (rms rfl) ?_
   refine s_call rfl (hC1 H.only) (ca27 rfl) ?_
   rintro e W1 ⟨FA, fc, rfl, H'⟩
   refine ⟨_, rfl, ?_⟩
   have H := H.more H'; clear H'; simp only [List.cons_append, List.nil_append] at H
   refine s_run rfl rfl (ras rfl) ?_
   refine k_nc ?_
   refine k_seq ?_
   refine k_sg ?_
   refine s_run rfl rfl (rai rfl) ?_
   refine k_nc ?_
   refine k_b ?_
   refine k_loop (fun z f W => ∃ (i : Nat) (bad : Bool), i ≤ ff.length ∧ z = ff.length - i ∧ bad = badB (ff.take i) ∧ f 0 = .slice A n c ∧ f 3 = .slice PA m.length pc ∧ f 6 = .bool bad ∧ f 7 = .slice FA ff.length fc ∧ f 8 = .int .i64 i ∧ Heap w [] [ownN 3 (.slice FA ff.length fc) ff.length ((fltN ff).map C1.v) 69, ownN 2 (.slice QA m.length qc) m.length ((evC m).map C1.v) 67, ownN 2 (.slice RA n rc) n ((evC l).map C1.v) 67, ownN 2 (.slice PA m.length pc) m.length ((evC m).map C1.v) 49] W) ff.length ⟨0, false, by omega, rfl, rfl, rfl, rfl, rfl, rfl, rfl, H⟩ ?_
   clear H
   rintro z f W ⟨i, bad, hi, rfl, hbad, f0, f3, f6, f7, f8, H⟩
   by_cases hlt : i < ff.length
   ·obtain ⟨x, hx⟩ : ∃ x, ff[i]? = some x := ⟨_, List.getElem?_eq_getElem hlt⟩
    obtain ⟨fb, rfl, x3⟩ := flt_cells H 0 rfl i x hx
    have hbs : badB (ff.take (i + 1)) = (bad || decide (x.kind ≤ 2)) := by
     rw [hbad, ← tk_snoc hx]; unfold badB; rw [List.any_append]; simp
    have HB := H
    clear H
    have H := Heap.nil W
    obtain ⟨f, rfl⟩ := live5 f0 f3 f6 f7 f8
    clear f0 f3 f6 f7 f8
    cases bad with
    | true =>
     refine k_seq ?_
     refine k_sg ?_
     refine s_run rfl rfl (rmi rfl) ?_
     refine s_run rfl rfl (rms rfl) ?_
     refine s_run rfl rfl (r_len rfl Try.underlying58) ?_
     refine s_run rfl rfl (r_lssT rfl rfl (by omega)) ?_
     refine k_nc ?_
     refine k_t rfl ?_
     refine k_skip ?_
     refine c_norm ?_
     refine k_seq ?_
     refine k_b ?_
     refine k_rg ?_
     refine s_run rfl rfl (rmb rfl) ?_
     refine s_run rfl rfl (rmb rfl) ?_
     refine s_off rfl (g_off 65 (by kernel_rfl) rfl rfl) ?_
     refine s_off rfl (g_off 65 (by kernel_rfl) rfl rfl) ?_
     refine s_off rfl (g_off 65 (by kernel_rfl) rfl rfl) ?_
     refine s_off rfl (g_off 65 (by kernel_rfl) rfl rfl) ?_
     refine s_off rfl (g_off 65 (by kernel_rfl) rfl rfl) ?_
     refine s_off rfl (g_off 65 (by kernel_rfl) rfl rfl) ?_
     refine s_run rfl rfl (r_pkT (v := .bool _) rfl rfl) ?_
     refine s_run rfl rfl (rab rfl) ?_
     refine k_nil ?_
     refine b_norm ?_
     refine c_norm ?_
     refine k_rg ?_
     refine s_run rfl rfl (rmi rfl) ?_
     refine s_run rfl rfl (r_add rfl rfl (wI (by omega))) ?_
     refine s_run rfl rfl (rai rfl) ?_
     refine k_nil ?_
     refine c_round ?_
     refine ⟨_, _, ?_, rfl, i + 1, true, by omega, rfl, hbs.symm, rfl, rfl, rfl, rfl, rfl, HB.same H.only⟩
     omega
    | false =>
     by_cases hk : x.kind ≤ 2
     ·rw [decide_eq_true hk, Bool.false_or] at hbs
      refine k_seq ?_
      refine k_sg ?_
      refine s_run rfl rfl (rmi rfl) ?_
      refine s_run rfl rfl (rms rfl) ?_
      refine s_run rfl rfl (r_len rfl Try.underlying58) ?_
      refine s_run rfl rfl (r_lssT rfl rfl (by omega)) ?_
      refine k_nc ?_
      refine k_t rfl ?_
      refine k_skip ?_
      refine c_norm ?_
      refine k_seq ?_
      refine k_b ?_
      refine k_rg ?_
      refine s_run rfl rfl (rmb rfl) ?_
      refine s_run rfl rfl (rmb rfl) ?_
      refine s_run rfl (g_on 65 (by kernel_rfl) rfl) (rms rfl) ?_
      refine s_run rfl (g_on 65 (by kernel_rfl) rfl) (rmi rfl) ?_
      refine s_run rfl (g_on 65 (by kernel_rfl) rfl) (r_ix0 (i := i) rfl rfl (by omega) (by omega) Try.underlying58 sz69) ?_
      refine s_run rfl (g_on 65 (by kernel_rfl) rfl) (r_fa rfl fo69_2) ?_
      refine s_run rfl (g_on 65 (by kernel_rfl) rfl) (r_lr H rfl x3 (by simp) ag3) ?_
      refine s_run rfl (g_on 65 (by kernel_rfl) rfl) (r_leqT rfl rfl (by omega)) ?_
      refine s_run rfl rfl (r_pkF (v := .bool _) rfl rfl) ?_
      refine s_run rfl rfl (rab rfl) ?_
      refine k_nil ?_
      refine b_norm ?_
      refine c_norm ?_
      refine k_rg ?_
      refine s_run rfl rfl (rmi rfl) ?_
      refine s_run rfl rfl (r_add rfl rfl (wI (by omega))) ?_
      refine s_run rfl rfl (rai rfl) ?_
      refine k_nil ?_
      refine c_round ?_
      refine ⟨_, _, ?_, rfl, i + 1, true, by omega, rfl, hbs.symm, rfl, rfl, rfl, rfl, rfl, HB.same H.only⟩
      omega
     ·rw [decide_eq_false hk, Bool.false_or] at hbs
      refine k_seq ?_
      refine k_sg ?_
      refine s_run rfl rfl (rmi rfl) ?_
      refine s_run rfl rfl (rms rfl) ?_
      refine s_run rfl rfl (r_len rfl Try.underlying58) ?_
      refine s_run rfl rfl (r_lssT rfl rfl (by omega)) ?_
      refine k_nc ?_
      refine k_t rfl ?_
      refine k_skip ?_
      refine c_norm ?_
      refine k_seq ?_
      refine k_b ?_
      refine k_rg ?_
      refine s_run rfl rfl (rmb rfl) ?_
      refine s_run rfl rfl (rmb rfl) ?_
      refine s_run rfl (g_on 65 (by kernel_rfl) rfl) (rms rfl) ?_
      refine s_run rfl (g_on 65 (by kernel_rfl) rfl) (rmi rfl) ?_
      refine s_run rfl (g_on 65 (by kernel_rfl) rfl) (r_ix0 (i := i) rfl rfl (by omega) (by omega) Try.underlying58 sz69) ?_
      refine s_run rfl (g_on 65 (by kernel_rfl) rfl) (r_fa rfl fo69_2) ?_
      refine s_run rfl (g_on 65 (by kernel_rfl) rfl) (r_lr H rfl x3 (by simp) ag3) ?_
      refine s_run rfl (g_on 65 (by kernel_rfl) rfl) (r_leqF rfl rfl (by omega)) ?_
      refine s_run rfl rfl (r_pkF (v := .bool _) rfl rfl) ?_
      refine s_run rfl rfl (rab rfl) ?_
      refine k_nil ?_
      refine b_norm ?_
      refine c_norm ?_
      refine k_rg ?_
      refine s_run rfl rfl (rmi rfl) ?_
      refine s_run rfl rfl (r_add rfl rfl (wI (by omega))) ?_
      refine s_run rfl rfl (rai rfl) ?_
      refine k_nil ?_
      refine c_round ?_
      refine ⟨_, _, ?_, rfl, i + 1, false, by omega, rfl, hbs.symm, rfl, rfl, rfl, rfl, rfl, HB.same H.only⟩
      omega
   ·obtain rfl : i = ff.length := by omega
    rw [List.take_length] at hbad
    obtain ⟨f, rfl⟩ := live5 f0 f3 f6 f7 f8
    clear f0 f3 f6 f7 f8
    refine k_seq ?_
    refine k_sg ?_
    refine s_run rfl rfl (rmi rfl) ?_
    refine s_run rfl rfl (rms rfl) ?_
    refine s_run rfl rfl (r_len rfl Try.underlying58) ?_
    refine s_run rfl rfl (r_lssF rfl rfl (by omega)) ?_
    refine k_nc ?_
    refine k_f rfl ?_
    refine k_exit ?_
    refine c_exit ?_
    refine c_exit ?_
    refine b_hit ?_
    refine c_norm ?_
    refine k_sg ?_
    refine s_run rfl rfl (rms rfl) ?_
    refine s_call rfl (hC2 (ev_own H 3 rfl)) (ca27 rfl) ?_
    rintro e W1 ⟨GA, gc, rfl, H'⟩
    refine ⟨_, rfl, ?_⟩
    have H := H.more H'; clear H'; simp only [List.cons_append, List.nil_append] at H
    refine s_run rfl rfl (ras rfl) ?_
    refine k_nc ?_
    refine k_seq ?_
    refine k_sg ?_
    refine s_run rfl rfl (rai rfl) ?_
    refine k_nc ?_
    refine k_b ?_
    refine k_loop (fun z f W => ∃ (i : Nat), i ≤ gg.length ∧ z = gg.length - i ∧ f 0 = .slice A n c ∧ f 3 = .slice PA m.length pc ∧ f 6 = .bool bad ∧ f 9 = .slice GA gg.length gc ∧ f 10 = .int .i64 i ∧ Heap w [] [ownN 3 (.slice GA gg.length gc) gg.length ((fltN gg).map C1.v) 69] W) gg.length ⟨0, by omega, rfl, rfl, rfl, rfl, rfl, rfl, Heap.drops (A := [_]) H⟩ ?_
    clear H
    rintro z f W ⟨i, hi, rfl, f0, f3, f6, f9, f10, H⟩
    by_cases hlt : i < gg.length
    ·obtain ⟨x, hx⟩ : ∃ x, gg[i]? = some x := ⟨_, List.getElem?_eq_getElem hlt⟩
     obtain ⟨fb, rfl, x3⟩ := flt_cells H 0 rfl i x hx
     obtain ⟨hk1, hk2⟩ := hms x (List.mem_of_getElem? hx)
     have HB := H
     clear H
     have H := Heap.nil W
     obtain ⟨f, rfl⟩ := live5 f0 f3 f6 f9 f10
     clear f0 f3 f6 f9 f10
     refine k_seq ?_
     refine k_sg ?_
     refine s_run rfl rfl (rmi rfl) ?_
     refine s_run rfl rfl (rms rfl) ?_
     refine s_run rfl rfl (r_len rfl Try.underlying58) ?_
     refine s_run rfl rfl (r_lssT rfl rfl (by omega)) ?_
     refine k_nc ?_
     refine k_t rfl ?_
     refine k_skip ?_
     refine c_norm ?_
     refine k_seq ?_
     refine k_b ?_
     refine k_sg ?_
     refine s_run rfl rfl (rms rfl) ?_
     refine s_run rfl rfl (rmi rfl) ?_
     refine s_run rfl rfl (r_ix0 (i := i) rfl rfl (by omega) (by omega) Try.underlying58 sz69) ?_
     refine s_run rfl rfl (r_fa rfl fo69_2) ?_
     refine s_run rfl rfl (r_lr H rfl x3 (by simp) ag3) ?_
     refine s_run rfl rfl (r_eqlF rfl rfl (by omega)) ?_
     refine s_run rfl rfl (rmb rfl) ?_
     refine s_run rfl (g_on 87 (by kernel_rfl) rfl) (rms rfl) ?_
     refine s_run rfl (g_on 87 (by kernel_rfl) rfl) (rmi rfl) ?_
     refine s_run rfl (g_on 87 (by kernel_rfl) rfl) (r_ix0 (i := i) rfl rfl (by omega) (by omega) Try.underlying58 sz69) ?_
     refine s_run rfl (g_on 87 (by kernel_rfl) rfl) (r_fa rfl fo69_2) ?_
     refine s_run rfl (g_on 87 (by kernel_rfl) rfl) (r_lr H rfl x3 (by simp) ag3) ?_
     refine s_run rfl (g_on 87 (by kernel_rfl) rfl) (r_eqlF rfl rfl (by omega)) ?_
     refine s_run rfl rfl (r_pkF (v := .bool _) rfl rfl) ?_
     refine k_nc ?_
     refine k_f rfl ?_
     refine k_skip ?_
     refine b_norm ?_
     refine c_norm ?_
     refine k_rg ?_
     refine s_run rfl rfl (rmi rfl) ?_
     refine s_run rfl rfl (r_add rfl rfl (wI (by omega))) ?_
     refine s_run rfl rfl (rai rfl) ?_
     refine k_nil ?_
     refine c_round ?_
     refine ⟨_, _, ?_, rfl, i + 1, by omega, rfl, rfl, rfl, rfl, rfl, rfl, HB.same H.only⟩
     omega
    ·obtain rfl : i = gg.length := by omega
     obtain ⟨f, rfl⟩ := live5 f0 f3 f6 f9 f10
     clear f0 f3 f6 f9 f10
     cases bad with
     | true =>
      refine k_seq ?_
      refine k_sg ?_
      refine s_run rfl rfl (rmi rfl) ?_
      refine s_run rfl rfl (rms rfl) ?_
      refine s_run rfl rfl (r_len rfl Try.underlying58) ?_
      refine s_run rfl rfl (r_lssF rfl rfl (by omega)) ?_
      refine k_nc ?_
      refine k_f rfl ?_
      refine k_exit ?_
      refine c_exit ?_
      refine c_exit ?_
      refine b_hit ?_
      refine c_norm ?_
      refine k_sg ?_
      refine s_run rfl rfl (rmb rfl) ?_
      refine s_run rfl rfl (rmb rfl) ?_
      refine s_off rfl (g_off 96 (by kernel_rfl) rfl rfl) ?_
      refine s_off rfl (g_off 96 (by kernel_rfl) rfl rfl) ?_
      refine s_off rfl (g_off 96 (by kernel_rfl) rfl rfl) ?_
      refine s_off rfl (g_off 96 (by kernel_rfl) rfl rfl) ?_
      refine s_off rfl (g_off 96 (by kernel_rfl) rfl rfl) ?_
      refine s_run rfl rfl (r_pkT (v := .bool _) rfl rfl) ?_
      refine s_run rfl rfl (rab rfl) ?_
      refine k_nc ?_
      refine k_ret ?_
      refine fin1r (v := .bool _) rfl rfl ?_
      exact ⟨rfl, H.below⟩
     | false =>
      have hsm := hsame hbad.symm
      refine k_seq ?_
      refine k_sg ?_
      refine s_run rfl rfl (rmi rfl) ?_
      refine s_run rfl rfl (rms rfl) ?_
      refine s_run rfl rfl (r_len rfl Try.underlying58) ?_
      refine s_run rfl rfl (r_lssF rfl rfl (by omega)) ?_
      refine k_nc ?_
      refine k_f rfl ?_
      refine k_exit ?_
      refine c_exit ?_
      refine c_exit ?_
      refine b_hit ?_
      refine c_norm ?_
      refine k_sg ?_
      refine s_run rfl rfl (rmb rfl) ?_
      refine s_run rfl rfl (rmb rfl) ?_
      refine s_run rfl (g_on 96 (by kernel_rfl) rfl) (rms rfl) ?_
      refine s_run rfl (g_on 96 (by kernel_rfl) rfl) (r_len rfl Try.underlying44) ?_
      refine s_run rfl (g_on 96 (by kernel_rfl) rfl) (rms rfl) ?_
      refine s_run rfl (g_on 96 (by kernel_rfl) rfl) (r_len rfl Try.underlying44) ?_
      refine s_run rfl (g_on 96 (by kernel_rfl) rfl) (r_eqlT rfl rfl (by omega)) ?_
      refine s_run rfl rfl (r_pkF (v := .bool _) rfl rfl) ?_
      refine s_run rfl rfl (rab rfl) ?_
      refine k_nc ?_
      refine k_ret ?_
      refine fin1r (v := .bool _) rfl rfl ?_
      exact ⟨rfl, H.below⟩
end Go.Proofs.Ytpbimgopiammaaa
end

section
namespace Go.Proofs.Ytpbimgopiammaaa.lOrderMends
open Go.ChangeShapes Go.WideShapes Go.ChangeAt Go.RowKit
theorem own : ownKnob Try.prog.godebug = none := by kernel_rfl
theorem laidOut : laidOutB Try.prog = true := by kernel_rfl
set_option maxRecDepth 100000 in
theorem lifted (os : Os) (started : os.Started) (H : Type) (enc : TypeId × Value → H) :
  ReturnsInHanded {} Try.checked os 6 .any (Rows.orderMendsSpec.pre6 enc Try.prog Try.f6 Rows.orderMendsRow.domain false) (Rows.orderMendsSpec.post enc Try.prog Try.f6 false true false false) := by
 refine returnsInHanded_of_change (C := Try.checked) own started (by kernel_rfl) Try.func6
  (ChangeSpec.witness6 (enc := enc) (C := Try.checked) false ⟨#[], #[.slice none 0 0], []⟩ 8 (by kernel_rfl) (by kernel_rfl) (by kernel_rfl) (by kernel_rfl)) ?_
 intro W base args ds gs before hval0 hW hcnd _
 have hval : ∀ (j : Nat) t v, Try.f6.params[j]? = some t → args[j]? = some v → Value.okWide Try.prog W .any base t v := hval0
 have hW' := hW
 obtain ⟨p, q, hA0, hV, rfl, hfz, hnd⟩ := hW
 have hA : DataW.TrodAll enc Try.prog W 0 (fun _ => true) true Try.f6.params.toList args.toList ds p := hA0
 rw [Try.params6] at hA hval
 obtain ⟨v0, vs0, d0, ds0, p0, q0, hargs, rfl, rfl, h0, r0⟩ := trodAll_cons hA
 obtain ⟨rfl, rfl, rfl⟩ := trodAll_nil r0
 obtain rfl : args = #[v0] := by cases args; simp_all
 obtain ⟨rfl, rfl⟩ := trodVars_none hV
 have k0 := h0
 have lt0 : ∀ x ∈ p0, x.block < W.heap.size := by obtain ⟨m, hm⟩ := k0; exact DataW.trod_lt m _ _ _ hm
 obtain ⟨x0, rfl, w0⟩ := opens_EvT W base v0 d0 p0 (hval 0 44 v0 rfl rfl) h0
 clear hA0 hval0
 refine (walk_OrderMends x0 W w0).mono fun e W' ⟨he, bel⟩ => ?_
 subst he
 exact ⟨_, rfl, _, _, _, [], _, [], hW', trodAll_mk1 (shut_bool Try.underlying4 _), (trodAll_cons_mk (Below.trod laidOut (by kernel_rfl) (of_decide_eq_true (by kernel_rfl)) k0 bel lt0) trodAll_mk0), rfl, bel.frame _, fun h => by cases h⟩
theorem over : Rows.orderMendsRow.holds Try.pinned (OpenSpec.ofChange Rows.orderMendsSpec) :=
 OpenClaim.holds_of_wide 6 Try.f6 rfl rfl rfl rfl rfl rfl rfl ⟨rfl, rfl, rfl, rfl, rfl⟩ rfl rfl rfl rfl rfl (by kernel_rfl) Try.func6 (by kernel_rfl)
  (of_decide_eq_true (by kernel_rfl)) (by unfold Func.isWrapper; first | (rw [if_pos (by decide +kernel)]; kernel_rfl) | (rw [if_neg (by decide +kernel)]; exact ⟨rfl, rfl⟩))
  (fun os started H enc _ => lifted os started H enc)
theorem proved : Rows.OrderMendsSaid := over
#print axioms proved
end Go.Proofs.Ytpbimgopiammaaa.lOrderMends
end
