/-
  RootsPlays: for every input the Go function answers true, and its arguments read afterwards as they read before. No condition.
-/
import Derived.Deep.Slices
import Derived.Deep.Fields
import Derived.ChangeSame
import Derived.Test.YtmekhdclnhhhbaaKRootsPlaysk
set_option linter.unusedSimpArgs false
set_option linter.unusedVariables false
section
namespace Go.Proofs.Ytmekhdclnhhhbaa
open Go.RowKit
section
variable (g : Geo) (t : Nat) (s : RefS) (d : Nv.D) (E : Int) (R : List Int) (k : Nat) (V : List Int) (o a v : Int) (A : Option Addr) (nc cc : Nat) (cs : List Int) (X : List Nat) (w : World)
theorem rDo2 (ho : o = 2) (hE : Ents (tE g t d E R k V) w) (hr : RefOk w (ids (tE g t d E R k V) ++ X) s d 64) (hX : ∀ i ∈ X, i < w.heap.size) (hg : GOk g 64) (hG : RG d E R k V) :
  Calls Try.prog 59 [ptr g.p, ptr t, .agg (refTab s d 64 E R k V).toArray, opW o a v A nc cc].toArray w (DoP (ids (tE g t d E R k V)) X w) := by
 subst ho
 have H := Heap.start hE
 have hT := fun W hE => tBack t g.p E k R V W hE hG.hR.1 hG.hV.1
 obtain ⟨r0, r1, r2, r3, r4, r5, r6, r7, rfl⟩ := list8 hG.hR.1
 obtain ⟨v0, v1, v2, v3, v4, v5, v6, v7, rfl⟩ := list8 hG.hV.1
 unfold opW
 unfold tE at H
 refine k_in (N := 99) Try.func59 rfl rfl rfl ?_
 refine k_sg ?_
 refine s_box H rfl rfl ?_
 intro p6 _ H'; clear H; have H := H'; clear H'
 refine s_box H rfl rfl ?_
 intro p7 _ H'; clear H; have H := H'; clear H'
 refine s_run rfl rfl (rap rfl) ?_
 refine s_run rfl rfl (rap rfl) ?_
 refine s_al H rfl inf91 ?_
 intro p10 _ H'; clear H; have H := H'; clear H'
 refine s_run rfl rfl (rab rfl) ?_
 refine k_nc ?_
 refine k_seq ?_
 have H0 := H.perm (List.perm_append_comm (l₁ := [_, _, _]) (l₂ := [_, _]))
 simp only [List.cons_append, List.nil_append] at H0
 clear H
 have H := H0
 clear H0
 refine k_rg ?_
 refine s_run rfl rfl (rai rfl) ?_
 refine s_run rfl rfl (rai rfl) ?_
 refine k_nc ?_
 refine k_seq ?_
 refine k_sg ?_
 refine s_run rfl rfl (r_fa0 rfl fo95_0) ?_
 refine s_run rfl rfl (r_lo H 3 rfl rfl rfl ag3) ?_
 refine k_nc ?_
 refine k_b ?_
 refine k_sg ?_
 refine s_run rfl rfl (r_eqlF rfl rfl (by omega)) ?_
 refine s_run rfl rfl (rab rfl) ?_
 refine k_nc ?_
 refine k_f rfl ?_
 refine k_sg ?_
 refine s_run rfl rfl (r_eqlF rfl rfl (by omega)) ?_
 refine s_run rfl rfl (rab rfl) ?_
 refine k_nc ?_
 refine k_f rfl ?_
 refine k_sg ?_
 refine s_run rfl rfl (r_eqlT rfl rfl (by omega)) ?_
 refine s_run rfl rfl (rab rfl) ?_
 refine k_nc ?_
 refine k_t rfl ?_
 refine k_sg ?_
 refine s_run rfl rfl (rmp rfl) ?_
 refine s_call rfl (hT _ (H.one 0 rfl)) (ca101 rfl) ?_
 rintro e W1 ⟨rfl, H'⟩
 refine ⟨_, rfl, ?_⟩
 have H1 := H.at 0 rfl H' (fun i hi => hi); clear H H'; have H := H1; clear H1; simp only [List.set_cons_zero] at H
 refine k_nc ?_
 refine k_rg ?_
 refine s_run rfl rfl (r_fa0 rfl fo91_1) ?_
 refine s_run rfl rfl (r_fa rfl fo89_1) ?_
 refine s_run rfl rfl (r_lp H 4 (vs := [.int .i64 r0, .int .i64 r1, .int .i64 r2, .int .i64 r3, .int .i64 r4, .int .i64 r5, .int .i64 r6, .int .i64 r7]) rfl rfl rfl rfl ag87 sz87) ?_
 refine s_run rfl rfl (r_fa0 rfl fo91_3) ?_
 refine s_sa H 4 rfl rfl rfl rfl rfl rfl rfl sz87 ?_
 clear H; intro _ H; simp only [jA, jB, jC, jD, jE, jF, jG, jH, jI, jJ, jK, Nat.reduceAdd] at H
 refine k_nil ?_
 refine b_norm ?_
 refine c_norm ?_
 refine k_seq ?_
 have HT := H
 have H : Heap _ _ [blk t (tabC g.p E [r0, r1, r2, r3, r4, r5, r6, r7] k [r0, r1, r2, r3, r4, r5, r6, r7]) 149, grp (devL g d), _, _, blk p6 (refTab s d 64 E [r0, r1, r2, r3, r4, r5, r6, r7] k [r0, r1, r2, r3, r4, r5, r6, r7]) 91] _ := HT
 clear HT
 refine k_trF mixed ?_; have H' := H.drew; clear H; have H := H'; clear H'
 refine tqh 0 rfl rfl rfl (fun _ hS => r_mv (v := .pointer _) rfl) trivial ?_
 refine tqh 1 rfl rfl rfl (fun _ hS => r_mv (v := .pointer _) rfl) trivial ?_
 refine tqh 3 rfl rfl rfl (fun _ hS => r_mv (v := .int _ _) rfl) trivial ?_
 refine tqh 4 rfl rfl rfl (fun _ hS => r_mv (v := .int _ _) rfl) trivial ?_
 refine tqh 5 rfl rfl rfl (fun _ hS => r_eqlT rfl rfl (by omega)) trivial ?_
 refine tqh 6 rfl rfl rfl (fun _ hS => r_mv (v := .bool _) rfl) trivial ?_
 refine tqh 7 rfl rfl (g_on 95 (by kernel_rfl) rfl) (fun _ hS => r_mv (v := .pointer _) rfl) trivial ?_
 refine tqh 8 rfl rfl (g_on 95 (by kernel_rfl) rfl) (fun _ hS => r_ptnnilT rfl rfl Try.underlying86) trivial ?_
 refine tqh 9 rfl rfl rfl (fun _ hS => r_pkT (v := .bool _) rfl rfl) trivial ?_
 refine tqh 10 rfl rfl rfl (fun _ hS => r_as (v := .pointer _) rfl) trivial ?_
 refine tqh 11 rfl rfl rfl (fun _ hS => r_as (v := .pointer _) rfl) trivial ?_
 refine t_up1 2 (by kernel_rfl) ?_
 refine up_mk rfl ?_
 refine s_run rfl rfl (r_la H 4 rfl rfl rfl ag91 sz91) ?_
 refine k_nil ?_
 refine t_on trivial ?_
 refine t_up1 12 (by kernel_rfl) ?_
 refine up_mk rfl ?_
 refine s_sw H 2 rfl rfl rfl rfl rfl rfl rfl sz91 ?_
 clear H; intro _ H; simp only [jA, jB, jC, jD, jE, jF, jG, jH, jI, jJ, jK, Nat.reduceAdd] at H
 refine k_nil ?_
 refine t_on trivial ?_
 refine tqh 13 rfl rfl rfl (fun _ hS => r_as (v := .bool _) rfl) trivial ?_
 refine t_done (by kernel_rfl) ?_
 refine c_norm ?_
 refine k_ret ?_
 refine fx4r rfl (rv_t (v := .pointer _) rfl) (rv_t (v := .pointer _) rfl) (rv_a H 2 rfl rfl rfl ag91 sz91) (rv_t (v := .bool _) rfl) ?_
 exact ⟨g, t, s, d, E, _, k, _, rfl, H.drops (A := [_, _]), hr.later H.only (fun _ h => List.mem_append_left _ h), hg, hG.back⟩
theorem fuse_arm0 (d : Nv.D) (n : Int) (hn : -9223372036854775808 ≤ n ∧ n ≤ 9223372036854775807) : fuseRel (Nv.arm d (if n < 0 then 0 else n)) (if n < 0 then 0 else n) := by
 unfold fuseRel Nv.arm
 left
 split
 ·simp
 ·rename_i h
  have h1 : 0 ≤ n := by omega
  simp only [h1, decide_true, true_and]; omega
theorem rDo3 (ho : o = 3) (hv : -9223372036854775808 ≤ v ∧ v ≤ 9223372036854775807) (hE : Ents (tE g t d E R k V) w) (hr : RefOk w (ids (tE g t d E R k V) ++ X) s d 64) (hX : ∀ i ∈ X, i < w.heap.size) (hg : GOk g 64) (hG : RG d E R k V) :
  Calls Try.prog 59 [ptr g.p, ptr t, .agg (refTab s d 64 E R k V).toArray, opW o a v A nc cc].toArray w (DoP (ids (tE g t d E R k V)) X w) := by
 subst ho
 have H := Heap.start hE
 have hG2 := hG.arm (if v < 0 then 0 else v)
 have hfu := fuse_arm0 d v hv
 obtain ⟨r0, r1, r2, r3, r4, r5, r6, r7, rfl⟩ := list8 hG.hR.1
 obtain ⟨v0, v1, v2, v3, v4, v5, v6, v7, rfl⟩ := list8 hG.hV.1
 have hok := hr.ok
 obtain ⟨A0, c0, A1, c1, A2, c2, A3, c3, A4, c4, rf0⟩ := s
 unfold opW
 unfold tE at H
 refine k_in (N := 99) Try.func59 rfl rfl rfl ?_
 refine k_sg ?_
 refine s_box H rfl rfl ?_
 intro p6 _ H'; clear H; have H := H'; clear H'
 refine s_box H rfl rfl ?_
 intro p7 _ H'; clear H; have H := H'; clear H'
 refine s_run rfl rfl (rap rfl) ?_
 refine s_run rfl rfl (rap rfl) ?_
 refine s_al H rfl inf91 ?_
 intro p10 _ H'; clear H; have H := H'; clear H'
 refine s_run rfl rfl (rab rfl) ?_
 refine k_nc ?_
 refine k_seq ?_
 have H0 := H.perm (List.perm_append_comm (l₁ := [_, _, _]) (l₂ := [_, _]))
 simp only [List.cons_append, List.nil_append] at H0
 clear H
 have H := H0
 clear H0
 have hT := fun W hE => nArm g d (if v < 0 then 0 else v) W hE
 refine k_rg ?_
 refine s_run rfl rfl (rai rfl) ?_
 refine s_run rfl rfl (rai rfl) ?_
 refine k_nc ?_
 refine k_seq ?_
 refine k_sg ?_
 refine s_run rfl rfl (r_fa0 rfl fo95_0) ?_
 refine s_run rfl rfl (r_lo H 3 rfl rfl rfl ag3) ?_
 refine k_nc ?_
 refine k_b ?_
 refine k_sg ?_
 refine s_run rfl rfl (r_eqlF rfl rfl (by omega)) ?_
 refine s_run rfl rfl (rab rfl) ?_
 refine k_nc ?_
 refine k_f rfl ?_
 refine k_sg ?_
 refine s_run rfl rfl (r_eqlF rfl rfl (by omega)) ?_
 refine s_run rfl rfl (rab rfl) ?_
 refine k_nc ?_
 refine k_f rfl ?_
 refine k_sg ?_
 refine s_run rfl rfl (r_eqlF rfl rfl (by omega)) ?_
 refine s_run rfl rfl (rab rfl) ?_
 refine k_nc ?_
 refine k_f rfl ?_
 refine k_sg ?_
 refine s_run rfl rfl (r_eqlT rfl rfl (by omega)) ?_
 refine s_run rfl rfl (rab rfl) ?_
 refine k_nc ?_
 refine k_t rfl ?_
 refine k_sg ?_
 refine s_run rfl rfl (rmp rfl) ?_
 refine s_run rfl rfl (r_fa0 rfl fo95_2) ?_
 refine s_run rfl rfl (r_lo H 3 rfl rfl rfl ag3) ?_
 refine s_run rfl rfl (r_max (c := if v < 0 then 0 else v) rfl rfl rfl) ?_
 refine s_call rfl (hT _ (H.grp_ents 1 rfl)) (ca32 rfl) ?_
 rintro e W1 ⟨rfl, H'⟩
 refine ⟨_, rfl, ?_⟩
 have H1 := H.grp_at 1 rfl H'; clear H H'; have H := H1; clear H1; simp only [List.set_cons_succ, List.set_cons_zero] at H
 refine k_nc ?_
 refine k_rg ?_
 refine s_run rfl rfl (r_fa0 rfl fo95_2) ?_
 refine s_run rfl rfl (r_lo H 3 rfl rfl rfl ag3) ?_
 refine s_run rfl rfl (r_max (c := if v < 0 then 0 else v) rfl rfl rfl) ?_
 refine s_run rfl rfl (r_fa0 rfl fo91_0) ?_
 refine s_run rfl rfl (r_fa0 rfl fo55_6) ?_
 refine s_st (u := .int _ _) H 4 rfl rfl rfl rfl rfl rfl sz3 ?_
 clear H; intro _ H; simp only [jA, jB, jC, jD, jE, jF, jG, jH, jI, jJ, jK, Nat.reduceAdd] at H
 refine k_nil ?_
 refine b_norm ?_
 refine c_norm ?_
 refine k_seq ?_
 have HT := H
 have H : Heap _ _ [blk t (tabC g.p E [r0, r1, r2, r3, r4, r5, r6, r7] k [v0, v1, v2, v3, v4, v5, v6, v7]) 149, grp (devL g (Nv.arm d (if v < 0 then 0 else v))), _, _, blk p6 (refTab ⟨A0, c0, A1, c1, A2, c2, A3, c3, A4, c4, if v < 0 then 0 else v⟩ (Nv.arm d (if v < 0 then 0 else v)) 64 E [r0, r1, r2, r3, r4, r5, r6, r7] k [v0, v1, v2, v3, v4, v5, v6, v7]) 91] _ := HT
 clear HT
 refine k_trF mixed ?_; have H' := H.drew; clear H; have H := H'; clear H'
 refine tqh 0 rfl rfl rfl (fun _ hS => r_mv (v := .pointer _) rfl) trivial ?_
 refine tqh 1 rfl rfl rfl (fun _ hS => r_mv (v := .pointer _) rfl) trivial ?_
 refine tqh 3 rfl rfl rfl (fun _ hS => r_mv (v := .int _ _) rfl) trivial ?_
 refine tqh 4 rfl rfl rfl (fun _ hS => r_mv (v := .int _ _) rfl) trivial ?_
 refine tqh 5 rfl rfl rfl (fun _ hS => r_eqlT rfl rfl (by omega)) trivial ?_
 refine tqh 6 rfl rfl rfl (fun _ hS => r_mv (v := .bool _) rfl) trivial ?_
 refine tqh 7 rfl rfl (g_on 95 (by kernel_rfl) rfl) (fun _ hS => r_mv (v := .pointer _) rfl) trivial ?_
 refine tqh 8 rfl rfl (g_on 95 (by kernel_rfl) rfl) (fun _ hS => r_ptnnilT rfl rfl Try.underlying86) trivial ?_
 refine tqh 9 rfl rfl rfl (fun _ hS => r_pkT (v := .bool _) rfl rfl) trivial ?_
 refine tqh 10 rfl rfl rfl (fun _ hS => r_as (v := .pointer _) rfl) trivial ?_
 refine tqh 11 rfl rfl rfl (fun _ hS => r_as (v := .pointer _) rfl) trivial ?_
 refine t_up1 2 (by kernel_rfl) ?_
 refine up_mk rfl ?_
 refine s_run rfl rfl (r_la H 4 rfl rfl rfl ag91 sz91) ?_
 refine k_nil ?_
 refine t_on trivial ?_
 refine t_up1 12 (by kernel_rfl) ?_
 refine up_mk rfl ?_
 refine s_sw H 2 rfl rfl rfl rfl rfl rfl rfl sz91 ?_
 clear H; intro _ H; simp only [jA, jB, jC, jD, jE, jF, jG, jH, jI, jJ, jK, Nat.reduceAdd] at H
 refine k_nil ?_
 refine t_on trivial ?_
 refine tqh 13 rfl rfl rfl (fun _ hS => r_as (v := .bool _) rfl) trivial ?_
 refine t_done (by kernel_rfl) ?_
 refine c_norm ?_
 refine k_ret ?_
 refine fx4r rfl (rv_t (v := .pointer _) rfl) (rv_t (v := .pointer _) rfl) (rv_a H 2 rfl rfl rfl ag91 sz91) (rv_t (v := .bool _) rfl) ?_
 exact ⟨g, t, ⟨A0, c0, A1, c1, A2, c2, A3, c3, A4, c4, if v < 0 then 0 else v⟩, Nv.arm d (if v < 0 then 0 else v), E, _, k, _, rfl, H.drops (A := [_, _]), (by have h5 := hr.later H.only (fun _ h => List.mem_append_left _ h); exact ⟨h5.now, h5.last, h5.wait, h5.dirty, h5.pend, hfu, ⟨hok.hl, hok.hc, hok.hf, hok.hd, hok.hp⟩⟩), hg, hG2⟩
end
end Go.Proofs.Ytmekhdclnhhhbaa
end

section
namespace Go.Proofs.Ytmekhdclnhhhbaa
open Go.RowKit
section
variable (g : Geo) (t : Nat) (s : RefS) (d : Nv.D) (E : Int) (R : List Int) (k : Nat) (V : List Int) (o a v : Int) (A : Option Addr) (nc cc : Nat) (cs : List Int) (X : List Nat) (w : World)
theorem rDo1 (ho : o = 1) (hE : Ents (tE g t d E R k V) w) (hr : RefOk w (ids (tE g t d E R k V) ++ X) s d 64) (hX : ∀ i ∈ X, i < w.heap.size) (hg : GOk g 64) (hG : RG d E R k V) :
  Calls Try.prog 59 [ptr g.p, ptr t, .agg (refTab s d 64 E R k V).toArray, opW o a v A nc cc].toArray w (DoP (ids (tE g t d E R k V)) X w) := by
 subst ho
 have H := Heap.start hE
 have hF : ∀ i ∈ ids (tE g t d E R k V) ++ X, i < w.heap.size := fun i hi => (List.mem_append.1 hi).elim ((Heap.start hE).idlt i) (hX i)
 have hEp : U64s E := ⟨by have := hG.E0; omega, hG.E1⟩
 have hC := fun W hE => tCommit t g d 64 k E R V W hE hG.inv hg (by omega) hG.kk hEp hG.hR.1 hG.hV.1 hG.hV.i64
 have hR2 := fun F W hr hF => rtCommit s d 64 k E R V F W hr hF hG.inv (by omega) hG.kk hEp hG.hR.1 hG.hV.1 hG.hV.i64
 have hY := hG.cmY
 have hN : RG (Nv.cm d 64 E k (encL (E + 1) V)).1 E R k V := by
  by_cases hb : E < 1152921504606846976
  ·exact hG.cmN hb
  ·exact hG.cmB hb
 obtain ⟨r0, r1, r2, r3, r4, r5, r6, r7, rfl⟩ := list8 hG.hR.1
 obtain ⟨v0, v1, v2, v3, v4, v5, v6, v7, rfl⟩ := list8 hG.hV.1
 unfold opW
 unfold tE at H
 refine k_in (N := 99) Try.func59 rfl rfl rfl ?_
 refine k_sg ?_
 refine s_box H rfl rfl ?_
 intro p6 _ H'; clear H; have H := H'; clear H'
 refine s_box H rfl rfl ?_
 intro p7 _ H'; clear H; have H := H'; clear H'
 refine s_run rfl rfl (rap rfl) ?_
 refine s_run rfl rfl (rap rfl) ?_
 refine s_al H rfl inf91 ?_
 intro p10 _ H'; clear H; have H := H'; clear H'
 refine s_run rfl rfl (rab rfl) ?_
 refine k_nc ?_
 refine k_seq ?_
 have H0 := H.perm (List.perm_append_comm (l₁ := [_, _, _]) (l₂ := [_, _]))
 simp only [List.cons_append, List.nil_append] at H0
 clear H
 have H := H0
 clear H0
 generalize Nv.cm d 64 E k (encL (E + 1) [v0, v1, v2, v3, v4, v5, v6, v7]) = Y at *
 by_cases hx : Y.2 = 0
 ·simp only [if_pos hx] at hC hR2
  refine k_rg ?_
  refine s_run rfl rfl (rai rfl) ?_
  refine s_run rfl rfl (rai rfl) ?_
  refine k_nc ?_
  refine k_seq ?_
  refine k_sg ?_
  refine s_run rfl rfl (r_fa0 rfl fo95_0) ?_
  refine s_run rfl rfl (r_lo H 3 rfl rfl rfl ag3) ?_
  refine k_nc ?_
  refine k_b ?_
  refine k_sg ?_
  refine s_run rfl rfl (r_eqlF rfl rfl (by omega)) ?_
  refine s_run rfl rfl (rab rfl) ?_
  refine k_nc ?_
  refine k_f rfl ?_
  refine k_sg ?_
  refine s_run rfl rfl (r_eqlT rfl rfl (by omega)) ?_
  refine s_run rfl rfl (rab rfl) ?_
  refine k_nc ?_
  refine k_t rfl ?_
  refine k_sg ?_
  refine s_run rfl rfl (rmp rfl) ?_
  refine s_call rfl (hC _ (H.part (A := [_, _]))) (ca94 rfl) ?_
  rintro e W1 ⟨rfl, H'⟩
  refine ⟨_, rfl, ?_⟩
  have H1 := Heap.step (A := [_, _]) (L := [_, _, _]) H H' (fun i hi => hi); clear H H'; have H := H1; clear H1; simp only [List.cons_append, List.nil_append] at H
  refine s_run rfl rfl (rai rfl) ?_
  refine k_nc ?_
  refine k_rg ?_
  refine s_run rfl rfl (r_la H 4 rfl rfl rfl ag91 sz91) ?_
  refine s_call rfl (hR2 _ _ (hr.at H) (H.fl hF)) (ca100 rfl) ?_
  rintro e W1 ⟨s2, rfl, H', hr'⟩
  refine ⟨_, rfl, ?_⟩
  have H := H.same H'.only; clear H'; have HB := H; clear H; have H := Heap.start HB.ents
  refine s_run rfl rfl (rmt rfl) ?_
  refine s_run rfl rfl (r_ext (v := .agg _) rfl rfl) ?_
  refine s_run rfl rfl (r_ext (v := .int _ _) rfl rfl) ?_
  refine s_sw H 4 rfl rfl rfl rfl rfl rfl rfl sz91 ?_
  clear H; intro _ H; simp only [jA, jB, jC, jD, jE, jF, jG, jH, jI, jJ, jK, Nat.reduceAdd] at H
  refine s_run rfl rfl (rai rfl) ?_
  refine k_nil ?_
  refine b_norm ?_
  refine c_norm ?_
  refine k_seq ?_
  refine k_trF mixed ?_; have H' := H.drew; clear H; have H := H'; clear H'
  refine tqh 0 rfl rfl rfl (fun _ hS => r_mv (v := .pointer _) rfl) trivial ?_
  refine tqh 1 rfl rfl rfl (fun _ hS => r_mv (v := .pointer _) rfl) trivial ?_
  refine tqh 3 rfl rfl rfl (fun _ hS => r_mv (v := .int _ _) rfl) trivial ?_
  refine tqh 4 rfl rfl rfl (fun _ hS => r_mv (v := .int _ _) rfl) trivial ?_
  refine tqh 5 rfl rfl rfl (fun _ hS => r_eqlT rfl rfl (rfl)) trivial ?_
  refine tqh 6 rfl rfl rfl (fun _ hS => r_mv (v := .bool _) rfl) trivial ?_
  refine tqh 7 rfl rfl (g_on 95 (by kernel_rfl) rfl) (fun _ hS => r_mv (v := .pointer _) rfl) trivial ?_
  refine tqh 8 rfl rfl (g_on 95 (by kernel_rfl) rfl) (fun _ hS => r_ptnnilT rfl rfl Try.underlying86) trivial ?_
  refine tqh 9 rfl rfl rfl (fun _ hS => r_pkT (v := .bool _) rfl rfl) trivial ?_
  refine tqh 10 rfl rfl rfl (fun _ hS => r_as (v := .pointer _) rfl) trivial ?_
  refine tqh 11 rfl rfl rfl (fun _ hS => r_as (v := .pointer _) rfl) trivial ?_
  refine t_up1 2 (by kernel_rfl) ?_
  refine up_mk rfl ?_
  refine s_run rfl rfl (r_la H 4 rfl rfl rfl ag91 sz91) ?_
  refine k_nil ?_
  refine t_on trivial ?_
  refine t_up1 12 (by kernel_rfl) ?_
  refine up_mk rfl ?_
  refine s_sw H 2 rfl rfl rfl rfl rfl rfl rfl sz91 ?_
  clear H; intro _ H; simp only [jA, jB, jC, jD, jE, jF, jG, jH, jI, jJ, jK, Nat.reduceAdd] at H
  refine k_nil ?_
  refine t_on trivial ?_
  refine tqh 13 rfl rfl rfl (fun _ hS => r_as (v := .bool _) rfl) trivial ?_
  refine t_done (by kernel_rfl) ?_
  refine c_norm ?_
  refine k_ret ?_
  refine fx4r rfl (rv_t (v := .pointer _) rfl) (rv_t (v := .pointer _) rfl) (rv_a H 2 rfl rfl rfl ag91 sz91) (rv_t (v := .bool _) rfl) ?_
  exact ⟨g, t, s2, Y.1, E + 1, _, 1 - k, _, rfl, (HB.whole H).drops (A := [_, _]), (hr'.later H.only (fun _ h => List.mem_append_right _ h)).news (fun i hi => .inl (memX (A := [_, _]) hi)), hg, hY hx⟩
 ·simp only [if_neg hx] at hC hR2
  refine k_rg ?_
  refine s_run rfl rfl (rai rfl) ?_
  refine s_run rfl rfl (rai rfl) ?_
  refine k_nc ?_
  refine k_seq ?_
  refine k_sg ?_
  refine s_run rfl rfl (r_fa0 rfl fo95_0) ?_
  refine s_run rfl rfl (r_lo H 3 rfl rfl rfl ag3) ?_
  refine k_nc ?_
  refine k_b ?_
  refine k_sg ?_
  refine s_run rfl rfl (r_eqlF rfl rfl (by omega)) ?_
  refine s_run rfl rfl (rab rfl) ?_
  refine k_nc ?_
  refine k_f rfl ?_
  refine k_sg ?_
  refine s_run rfl rfl (r_eqlT rfl rfl (by omega)) ?_
  refine s_run rfl rfl (rab rfl) ?_
  refine k_nc ?_
  refine k_t rfl ?_
  refine k_sg ?_
  refine s_run rfl rfl (rmp rfl) ?_
  refine s_call rfl (hC _ (H.part (A := [_, _]))) (ca94 rfl) ?_
  rintro e W1 ⟨rfl, H'⟩
  refine ⟨_, rfl, ?_⟩
  have H1 := Heap.step (A := [_, _]) (L := [_, _, _]) H H' (fun i hi => hi); clear H H'; have H := H1; clear H1; simp only [List.cons_append, List.nil_append] at H
  refine s_run rfl rfl (rai rfl) ?_
  refine k_nc ?_
  refine k_rg ?_
  refine s_run rfl rfl (r_la H 4 rfl rfl rfl ag91 sz91) ?_
  refine s_call rfl (hR2 _ _ (hr.at H) (H.fl hF)) (ca100 rfl) ?_
  rintro e W1 ⟨s2, rfl, H', hr'⟩
  refine ⟨_, rfl, ?_⟩
  have H := H.same H'.only; clear H'; have HB := H; clear H; have H := Heap.start HB.ents
  refine s_run rfl rfl (rmt rfl) ?_
  refine s_run rfl rfl (r_ext (v := .agg _) rfl rfl) ?_
  refine s_run rfl rfl (r_ext (v := .int _ _) rfl rfl) ?_
  refine s_sw H 4 rfl rfl rfl rfl rfl rfl rfl sz91 ?_
  clear H; intro _ H; simp only [jA, jB, jC, jD, jE, jF, jG, jH, jI, jJ, jK, Nat.reduceAdd] at H
  refine s_run rfl rfl (rai rfl) ?_
  refine k_nil ?_
  refine b_norm ?_
  refine c_norm ?_
  refine k_seq ?_
  refine k_trF mixed ?_; have H' := H.drew; clear H; have H := H'; clear H'
  refine tqh 0 rfl rfl rfl (fun _ hS => r_mv (v := .pointer _) rfl) trivial ?_
  refine tqh 1 rfl rfl rfl (fun _ hS => r_mv (v := .pointer _) rfl) trivial ?_
  refine tqh 3 rfl rfl rfl (fun _ hS => r_mv (v := .int _ _) rfl) trivial ?_
  refine tqh 4 rfl rfl rfl (fun _ hS => r_mv (v := .int _ _) rfl) trivial ?_
  refine tqh 5 rfl rfl rfl (fun _ hS => r_eqlT rfl rfl (rfl)) trivial ?_
  refine tqh 6 rfl rfl rfl (fun _ hS => r_mv (v := .bool _) rfl) trivial ?_
  refine tqh 7 rfl rfl (g_on 95 (by kernel_rfl) rfl) (fun _ hS => r_mv (v := .pointer _) rfl) trivial ?_
  refine tqh 8 rfl rfl (g_on 95 (by kernel_rfl) rfl) (fun _ hS => r_ptnnilT rfl rfl Try.underlying86) trivial ?_
  refine tqh 9 rfl rfl rfl (fun _ hS => r_pkT (v := .bool _) rfl rfl) trivial ?_
  refine tqh 10 rfl rfl rfl (fun _ hS => r_as (v := .pointer _) rfl) trivial ?_
  refine tqh 11 rfl rfl rfl (fun _ hS => r_as (v := .pointer _) rfl) trivial ?_
  refine t_up1 2 (by kernel_rfl) ?_
  refine up_mk rfl ?_
  refine s_run rfl rfl (r_la H 4 rfl rfl rfl ag91 sz91) ?_
  refine k_nil ?_
  refine t_on trivial ?_
  refine t_up1 12 (by kernel_rfl) ?_
  refine up_mk rfl ?_
  refine s_sw H 2 rfl rfl rfl rfl rfl rfl rfl sz91 ?_
  clear H; intro _ H; simp only [jA, jB, jC, jD, jE, jF, jG, jH, jI, jJ, jK, Nat.reduceAdd] at H
  refine k_nil ?_
  refine t_on trivial ?_
  refine tqh 13 rfl rfl rfl (fun _ hS => r_as (v := .bool _) rfl) trivial ?_
  refine t_done (by kernel_rfl) ?_
  refine c_norm ?_
  refine k_ret ?_
  refine fx4r rfl (rv_t (v := .pointer _) rfl) (rv_t (v := .pointer _) rfl) (rv_a H 2 rfl rfl rfl ag91 sz91) (rv_t (v := .bool _) rfl) ?_
  exact ⟨g, t, s2, Y.1, E, _, k, _, rfl, (HB.whole H).drops (A := [_, _]), (hr'.later H.only (fun _ h => List.mem_append_right _ h)).news (fun i hi => .inl (memX (A := [_, _]) hi)), hg, hN⟩
theorem rDo4 (ho : o = 4) (hz : Sees (Value.int .u8) w (ids (tE g t d E R k V)) A cs) (hl : cs.length = nc) (hb : ∀ z ∈ cs, 0 ≤ z) (hnc : nc ≤ 1000000) (hE : Ents (tE g t d E R k V) w) (hr : RefOk w (ids (tE g t d E R k V) ++ X) s d 64) (hX : ∀ i ∈ X, i < w.heap.size) (hg : GOk g 64) (hG : RG d E R k V) :
  Calls Try.prog 59 [ptr g.p, ptr t, .agg (refTab s d 64 E R k V).toArray, opW o a v A nc cc].toArray w (DoP (ids (tE g t d E R k V)) X w) := by
 subst ho
 have H := Heap.start hE
 have hF : ∀ i ∈ ids (tE g t d E R k V) ++ X, i < w.heap.size := fun i hi => (List.mem_append.1 hi).elim ((Heap.start hE).idlt i) (hX i)
 have hCr := fun W hE hz => nCrash g d 64 A nc cc cs W hE hG.inv.ok hg (by omega) hz hl hb hnc
 have hRc := fun F W hr hF hz => rCrash s d 64 A nc cc cs F W hr hF (by omega) hz hl hb hnc
 have hne := hG.crash cs (Nv.dirtyTo d.dirty 64).length
 have hlen := Nv.crashTo_len hG.inv.ok cs (Nv.dirtyTo d.dirty 64).length
 have hU := Nv.U_crashTo hG.ud (Nv.dirtyTo d.dirty 64) cs (Nv.dirtyTo d.dirty 64).length
 obtain ⟨r0, r1, r2, r3, r4, r5, r6, r7, rfl⟩ := list8 hG.hR.1
 obtain ⟨v0, v1, v2, v3, v4, v5, v6, v7, rfl⟩ := list8 hG.hV.1
 unfold opW
 unfold tE at H
 refine k_in (N := 99) Try.func59 rfl rfl rfl ?_
 refine k_sg ?_
 refine s_box H rfl rfl ?_
 intro p6 _ H'; clear H; have H := H'; clear H'
 refine s_box H rfl rfl ?_
 intro p7 _ H'; clear H; have H := H'; clear H'
 refine s_run rfl rfl (rap rfl) ?_
 refine s_run rfl rfl (rap rfl) ?_
 refine s_al H rfl inf91 ?_
 intro p10 _ H'; clear H; have H := H'; clear H'
 refine s_run rfl rfl (rab rfl) ?_
 refine k_nc ?_
 refine k_seq ?_
 have H0 := H.perm (List.perm_append_comm (l₁ := [_, _, _]) (l₂ := [_, _]))
 simp only [List.cons_append, List.nil_append] at H0
 clear H
 have H := H0
 clear H0
 generalize Nv.crashTo d (Nv.dirtyTo d.dirty 64) cs (Nv.dirtyTo d.dirty 64).length = ws at *
 obtain ⟨k2, hk2, hG2⟩ := RG.ofLoad hlen hU hne
 rw [hk2] at hne
 have hOp := fun g2 W hE => tOpenY g2 (Nv.load ws 64) W hE hU hk2 rfl rfl hne
 have hOr := fun s2 F W hr => rtOpenY s2 (Nv.load ws 64) 64 F W hr (by omega) hU hk2 rfl rfl hne
 have hRl := hG2.hR.1
 have hcc : (Nv.load ws 64).cache = ws := rfl
 rw [hcc] at hOp hOr
 clear hcc
 generalize chE (getsA ws 64 16) (getsA ws 128 16) = E2 at *
 generalize chR (getsA ws 64 16) (getsA ws 128 16) = R2 at *
 generalize Nv.load ws 64 = D2 at *
 obtain ⟨u0, u1, u2, u3, u4, u5, u6, u7, rfl⟩ := list8 hRl
 refine k_rg ?_
 refine s_run rfl rfl (rai rfl) ?_
 refine s_run rfl rfl (rai rfl) ?_
 refine k_nc ?_
 refine k_seq ?_
 refine k_sg ?_
 refine s_run rfl rfl (r_fa0 rfl fo95_0) ?_
 refine s_run rfl rfl (r_lo H 3 rfl rfl rfl ag3) ?_
 refine k_nc ?_
 refine k_b ?_
 refine k_sg ?_
 refine s_run rfl rfl (r_eqlF rfl rfl (by omega)) ?_
 refine s_run rfl rfl (rab rfl) ?_
 refine k_nc ?_
 refine k_f rfl ?_
 refine k_sg ?_
 refine s_run rfl rfl (r_eqlF rfl rfl (by omega)) ?_
 refine s_run rfl rfl (rab rfl) ?_
 refine k_nc ?_
 refine k_f rfl ?_
 refine k_sg ?_
 refine s_run rfl rfl (r_eqlF rfl rfl (by omega)) ?_
 refine s_run rfl rfl (rab rfl) ?_
 refine k_nc ?_
 refine k_f rfl ?_
 refine k_sg ?_
 refine s_run rfl rfl (r_eqlF rfl rfl (by omega)) ?_
 refine s_run rfl rfl (rab rfl) ?_
 refine k_nc ?_
 refine k_f rfl ?_
 refine k_sg ?_
 refine s_run rfl rfl (r_eqlT rfl rfl (by omega)) ?_
 refine s_run rfl rfl (rab rfl) ?_
 refine k_nc ?_
 refine k_t rfl ?_
 refine k_sg ?_
 refine s_run rfl rfl (rmp rfl) ?_
 refine s_run rfl rfl (r_fa0 rfl fo95_3) ?_
 refine s_run rfl rfl (r_lo H 3 rfl rfl rfl ag49) ?_
 refine s_call rfl (hCr _ (H.grp_ents 1 rfl) ((hz.later H.only (fun _ h => h)).mono (by simp))) (ca37 rfl) ?_
 rintro e W1 ⟨g2, rfl, hg2, H'⟩
 refine ⟨_, rfl, ?_⟩
 have H1 := H.more (A := [grp _]) (grp_heap H'); clear H H'; have H := H1; clear H1; simp only [List.cons_append, List.nil_append] at H
 refine s_run rfl rfl (rap rfl) ?_
 refine k_nc ?_
 refine k_sg ?_
 refine s_run rfl rfl (rmp rfl) ?_
 refine s_call rfl (hOp g2 _ (H.grp_ents 0 rfl)) (ca61 rfl) ?_
 rintro e W1 ⟨t2, rfl, H'⟩
 refine ⟨_, rfl, ?_⟩
 have H1 := H.more H'; clear H H'; have H := H1; clear H1; simp only [List.cons_append, List.nil_append] at H
 refine s_run rfl rfl (rmt rfl) ?_
 refine s_run rfl rfl (r_ext (v := .pointer _) rfl rfl) ?_
 refine s_run rfl rfl (r_ext (v := .int _ _) rfl rfl) ?_
 refine s_run rfl rfl (rap rfl) ?_
 refine s_run rfl rfl (rai rfl) ?_
 refine k_nc ?_
 refine k_sg ?_
 refine s_run rfl rfl (rmp rfl) ?_
 refine s_run rfl rfl (rmi rfl) ?_
 refine s_run rfl rfl (rap rfl) ?_
 refine s_run rfl rfl (rai rfl) ?_
 refine k_nc ?_
 refine k_rg ?_
 refine s_run rfl rfl (r_fa0 rfl fo91_0) ?_
 refine s_run rfl rfl (r_lp H 6 (vs := refCells s d 64) rfl rfl rfl rfl ag55 sz55) ?_
 refine s_run rfl rfl (r_fa0 rfl fo95_3) ?_
 refine s_run rfl rfl (r_lo H 5 rfl rfl rfl ag49) ?_
 refine s_call rfl (hRc _ _ (hr.at H) (H.fl hF) ((hz.later H.only (fun _ h => h)).mono (by simp))) (ca76 rfl) ?_
 rintro e W1 ⟨s2, rfl, H', hr'⟩
 refine ⟨_, rfl, ?_⟩
 have H := H.same H'.only; clear H'; have HB := H; clear H; have H := Heap.start HB.ents
 refine s_call rfl (hOr s2 _ _ (hr'.later H.only (fun _ h => List.mem_append_right _ h))) (ca62 rfl) ?_
 rintro e W1 ⟨rfl, H'⟩
 refine ⟨_, rfl, ?_⟩
 have H := H.same H'; clear H'
 refine s_run rfl rfl (rmt rfl) ?_
 refine s_run rfl rfl (r_ext (v := .agg _) rfl rfl) ?_
 refine s_run rfl rfl (r_ext (v := .int _ _) rfl rfl) ?_
 refine s_sw H 6 rfl rfl rfl rfl rfl rfl rfl sz91 ?_
 clear H; intro _ H; simp only [jA, jB, jC, jD, jE, jF, jG, jH, jI, jJ, jK, Nat.reduceAdd] at H
 refine s_run rfl rfl (rai rfl) ?_
 refine k_nil ?_
 refine b_norm ?_
 refine c_norm ?_
 refine k_seq ?_
 refine k_trF mixed ?_; have H' := H.drew; clear H; have H := H'; clear H'
 refine tqh 0 rfl rfl rfl (fun _ hS => r_mv (v := .pointer _) rfl) trivial ?_
 refine tqh 1 rfl rfl rfl (fun _ hS => r_mv (v := .pointer _) rfl) trivial ?_
 refine tqh 3 rfl rfl rfl (fun _ hS => r_mv (v := .int _ _) rfl) trivial ?_
 refine tqh 4 rfl rfl rfl (fun _ hS => r_mv (v := .int _ _) rfl) trivial ?_
 refine tqh 5 rfl rfl rfl (fun _ hS => r_eqlT rfl rfl (by omega)) trivial ?_
 refine tqh 6 rfl rfl rfl (fun _ hS => r_mv (v := .bool _) rfl) trivial ?_
 refine tqh 7 rfl rfl (g_on 95 (by kernel_rfl) rfl) (fun _ hS => r_mv (v := .pointer _) rfl) trivial ?_
 refine tqh 8 rfl rfl (g_on 95 (by kernel_rfl) rfl) (fun _ hS => r_ptnnilT rfl rfl Try.underlying86) trivial ?_
 refine tqh 9 rfl rfl rfl (fun _ hS => r_pkT (v := .bool _) rfl rfl) trivial ?_
 refine tqh 10 rfl rfl rfl (fun _ hS => r_as (v := .pointer _) rfl) trivial ?_
 refine tqh 11 rfl rfl rfl (fun _ hS => r_as (v := .pointer _) rfl) trivial ?_
 refine t_up1 2 (by kernel_rfl) ?_
 refine up_mk rfl ?_
 refine s_run rfl rfl (r_la H 6 rfl rfl rfl ag91 sz91) ?_
 refine k_nil ?_
 refine t_on trivial ?_
 refine t_up1 12 (by kernel_rfl) ?_
 refine up_mk rfl ?_
 refine s_sw H 4 rfl rfl rfl rfl rfl rfl rfl sz91 ?_
 clear H; intro _ H; simp only [jA, jB, jC, jD, jE, jF, jG, jH, jI, jJ, jK, Nat.reduceAdd] at H
 refine k_nil ?_
 refine t_on trivial ?_
 refine tqh 13 rfl rfl rfl (fun _ hS => r_as (v := .bool _) rfl) trivial ?_
 refine t_done (by kernel_rfl) ?_
 refine c_norm ?_
 refine k_ret ?_
 refine fx4r rfl (rv_t (v := .pointer _) rfl) (rv_t (v := .pointer _) rfl) (rv_a H 4 rfl rfl rfl ag91 sz91) (rv_t (v := .bool _) rfl) ?_
 exact ⟨g2, t2, s2, D2, E2, _, k2, _, rfl, (HB.whole H).drops (A := [_, _]), (hr'.later H.only (fun _ h => List.mem_append_right _ h)).news (fun i hi => .inl (memX (A := [_, _]) hi)), hg2, hG2⟩
end
end Go.Proofs.Ytmekhdclnhhhbaa
end

section
namespace Go.Proofs.Ytmekhdclnhhhbaa
/-- a call, as the script holds it -/
structure OpR where
 o : Int
 a : Int
 v : Int
 A : Option Addr
 nc : Nat
 cc : Nat
 cs : List Int
def OpR.cells (u : OpR) : List Value := [.int .i64 u.o, .int .i64 u.a, .int .i64 u.v, .slice u.A u.nc u.cc]
structure OpROk (w : World) (u : OpR) : Prop where
 see : Sees (Value.int .u8) w [] u.A u.cs
 len : u.cs.length = u.nc
 bd : ∀ z ∈ u.cs, 0 ≤ z
 vb : -9223372036854775808 ≤ u.v ∧ u.v ≤ 9223372036854775807
 ncb : u.nc ≤ 9223372036854775807
def ScriptR (w : World) (A : Option Addr) (ops : List OpR) : Prop := (ops.length ≠ 0 → ∃ b o, A = some ⟨b, o, none⟩ ∧ ∀ i op, ops[i]? = some op → Reads (fun v : Value => v) w b (o + i * 4) op.cells) ∧ ∀ op ∈ ops, OpROk w op
section
open Go.ChangeShapes Go.WideShapes Go.Deep
variable {H : Type} {enc : TypeId × Value → H} {w : World} {base : Nat} {spare : Nat → Bool} {held : Bool}
set_option maxRecDepth 100000 in
theorem open_opR {fuel : Nat} {cs : List Value} {y : DataW H × List MemPlace} (h : DataW.trod enc Try.prog w base spare held fuel 95 cs = some y) : ∃ op : OpR, cs = op.cells ∧ OpROk w op := by
 obtain ⟨xs, n, _, _, hl, hlen, hg⟩ := DataW.trod_struct Try.underlying95 h
 have hone := one_of Try.underlying95 (by kernel_rfl)
 have hcl : cs.length = 4 := hl.trans (by kernel_rfl)
 replace hlen : xs.length = 4 := hlen
 match cs, hcl, xs, hlen with
 | [c0, c1, c2, c3], _, [y0, y1, y2, y3], _ =>
  obtain ⟨o0, k0⟩ := hone_of hone 0 _ rfl
  obtain ⟨o1, k1⟩ := hone_of hone 1 _ rfl
  obtain ⟨o2, k2⟩ := hone_of hone 2 _ rfl
  obtain ⟨o3, k3⟩ := hone_of hone 3 _ rfl
  have g0 := hg 0 _ rfl
  have g1 := hg 1 _ rfl
  have g2 := hg 2 _ rfl
  have g3 := hg 3 _ rfl
  rw [o0, k0] at g0
  rw [o1, k1] at g1
  rw [o2, k2] at g2
  rw [o3, k3] at g3
  replace g0 := g0.trans (show _ = some y0 from rfl)
  replace g1 := g1.trans (show _ = some y1 from rfl)
  replace g2 := g2.trans (show _ = some y2 from rfl)
  replace g3 := g3.trans (show _ = some y3 from rfl)
  obtain ⟨z0, e0, _, w0⟩ := DataW.trod_int Try.underlying3 g0
  obtain ⟨z1, e1, _, w1⟩ := DataW.trod_int Try.underlying3 g1
  obtain ⟨z2, e2, _, w2⟩ := DataW.trod_int Try.underlying3 g2
  obtain ⟨A, m, c, bs, e3, hs, hb, hmc, hcm, hw⟩ := sees_row Try.underlying49 Try.underlying5 (by kernel_rfl) (show DataW.trod enc Try.prog w base spare held n 49 [c3] = some y3 from g3)
  obtain rfl : c0 = .int .i64 z0 := by simpa using e0
  obtain rfl : c1 = .int .i64 z1 := by simpa using e1
  obtain rfl : c2 = .int .i64 z2 := by simpa using e2
  subst e3
  refine ⟨⟨z0, z1, z2, A, m, c, bs⟩, rfl, hs, hb, fun z hz => ?_, ?_, ?_⟩
  ·have := hw z hz
   simp [Lit.wf, IntKind.min, IntKind.max, IntKind.signed, IntKind.bits] at this
   omega
  ·simp [Lit.wf, IntKind.min, IntKind.max, IntKind.signed, IntKind.bits] at w2
   refine ⟨?_, ?_⟩
   ·show _ ≤ z2; omega
   ·show z2 ≤ _; omega
  ·simp only [maxLen] at hcm
   show m ≤ _
   omega
set_option maxRecDepth 100000 in
theorem open_scriptR (W : World) {r : Reach} (b0 : Nat) (v : Value) (d : DataW H) (p : List MemPlace)
  (hv : Value.okWide Try.prog W r b0 85 v) (h : DataW.Trod enc Try.prog W base spare held 85 v d p) :
  ∃ x : Option Addr × Nat × Nat × List OpR, v = .slice x.1 x.2.1 x.2.2.1 ∧ (ScriptR W x.1 x.2.2.2 ∧ x.2.2.2.length = x.2.1 ∧ x.2.1 ≤ 9223372036854775807) := by
 obtain ⟨a, len, cap, rfl⟩ := okWide_slice Try.underlying85 hv
 obtain ⟨fuel, hf⟩ := h
 have c4 : Try.prog.cellsOf 95 = 4 := by kernel_rfl
 rcases open_slice Try.underlying85 hf with ⟨hcs, _⟩ | ⟨x, l, c, m, n, D, Pl, hcs, _, hl, hm, hmm, _, hx⟩
 ·simp [Value.cells] at hcs
  obtain ⟨rfl, rfl, rfl⟩ := hcs
  exact ⟨(none, 0, 0, []), rfl, ⟨fun h => absurd rfl h, by simp⟩, rfl, by show (0 : Nat) ≤ _; omega⟩
 ·simp [Value.cells] at hcs
  obtain ⟨rfl, rfl, rfl⟩ := hcs
  rw [c4] at hx
  have hlm : len ≤ m := by rw [hmm]; split <;> omega
  obtain ⟨ops, hol, hq⟩ := list_of (Q := fun i (op : OpR) => OpROk W op ∧ ∀ j u, op.cells[j]? = some u → W.cell? (x.add (i * 4 + j)) = some u) len (fun i hi => by
   obtain ⟨cs', hc, ht⟩ := hx i (by omega)
   obtain ⟨op, rfl, hok⟩ := open_opR ht
   obtain ⟨_, hcl, hat⟩ := World.cells?_some hc
   refine ⟨op, hok, fun j u hj => ?_⟩
   have hj4 : j < 4 := by have := (List.getElem?_eq_some_iff.1 hj).1; rw [hcl] at this; exact this
   rw [← Go.Deep.add_add, hat j hj4, hj])
  refine ⟨(some x, len, cap, ops), rfl, ⟨fun h0 => ?_, fun op hop => ?_⟩, hol, by simp only [maxLen] at hm; show len ≤ _; omega⟩
  ·have h00 : ops.length ≠ 0 := h0
   obtain ⟨op0, hop0⟩ : ∃ op, ops[0]? = some op := ⟨_, List.getElem?_eq_getElem (by omega)⟩
   obtain ⟨b, off, spot⟩ := x
   have hc0 := (hq 0 op0 hop0).2 0 _ rfl
   have hspot : spot = none := by simpa [Addr.add] using World.cell?_spot hc0
   subst hspot
   refine ⟨b, off, rfl, fun i op hi j u hu => ?_⟩
   have := (hq i op hi).2 j u hu
   rw [add_none] at this
   rw [Nat.add_assoc]; exact this
  ·obtain ⟨i, hi, rfl⟩ := List.mem_iff_getElem.1 hop
   exact (hq i _ (List.getElem?_eq_getElem hi)).1
end
open Go.RowKit
open Go.RowKit
theorem rDo (g : Geo) (t : Nat) (s : RefS) (d : Nv.D) (E : Int) (R : List Int) (k : Nat) (V : List Int) (o a v : Int) (A : Option Addr) (nc cc : Nat) (cs : List Int) (X : List Nat) (w : World) (hE : Ents (tE g t d E R k V) w) (hr : RefOk w (ids (tE g t d E R k V) ++ X) s d 64) (hX : ∀ i ∈ X, i < w.heap.size) (hg : GOk g 64) (hG : RG d E R k V) (hv : -9223372036854775808 ≤ v ∧ v ≤ 9223372036854775807) (hz : Sees (Value.int .u8) w (ids (tE g t d E R k V)) A cs) (hl : cs.length = nc) (hb : ∀ z ∈ cs, 0 ≤ z) (hnc : nc ≤ 1000000) :
  Calls Try.prog 59 [ptr g.p, ptr t, .agg (refTab s d 64 E R k V).toArray, opW o a v A nc cc].toArray w (DoP (ids (tE g t d E R k V)) X w) := by
 by_cases h0 : o = 0
 ·exact rDo0 g t s d E R k V o a v A nc cc X w h0 hE hr hX hg hG
 by_cases h1 : o = 1
 ·exact rDo1 g t s d E R k V o a v A nc cc X w h1 hE hr hX hg hG
 by_cases h2 : o = 2
 ·exact rDo2 g t s d E R k V o a v A nc cc X w h2 hE hr hX hg hG
 by_cases h3 : o = 3
 ·exact rDo3 g t s d E R k V o a v A nc cc X w h3 hv hE hr hX hg hG
 by_cases h4 : o = 4
 ·exact rDo4 g t s d E R k V o a v A nc cc cs X w h4 hz hl hb hnc hE hr hX hg hG
 exact rDo9 g t s d E R k V o a v A nc cc X w ⟨h0, h1, h2, h3, h4⟩ hE hr hX hg hG
end Go.Proofs.Ytmekhdclnhhhbaa
end

section
namespace Go.Proofs.Ytmekhdclnhhhbaa
open Go.RowKit
theorem memY {A : List Ent} {p : Nat} {c : List Value} {T : TypeId} {i : Nat} (h : i ∈ ids (A ++ [blk p c T])) : i ∈ ids A ++ [p] := by
 rw [ids_append] at h; exact h
theorem memZ {A : List Ent} {G : List Nat} {p : Nat} {c : List Value} {T : TypeId} {i : Nat} (h : i ∈ ids A ++ [p]) : i ∈ G ++ ids (blk p c T :: A) := by
 rw [ids_cons]
 rcases List.mem_append.1 h with h | h
 ·exact List.mem_append_right _ (List.mem_append_right _ h)
 ·exact List.mem_append_right _ (List.mem_append_left _ h)
set_option maxRecDepth 20000 in
theorem walk_RootsPlays (x : Option Addr × Nat × Nat × List OpR) (w : World) (hx : ScriptR w x.1 x.2.2.2 ∧ x.2.2.2.length = x.2.1 ∧ x.2.1 ≤ 9223372036854775807) :
  Calls Try.prog 13 [.slice x.1 x.2.1 x.2.2.1].toArray w fun e w' => e = .returned (.bool true) ∧ Below w.heap.size w w' := by
 obtain ⟨B, q, cq, ops⟩ := x
 obtain ⟨hs, hl, hq⟩ := hx
 simp only at hs hl hq ⊢
 have H := Heap.nil w
 have hB := lBegun
 have hG := dB_rg
 generalize dB = d0 at *
 have hz8 : z8 = [0, 0, 0, 0, 0, 0, 0, 0] := rfl
 refine k_in (N := 62) Try.func13 rfl rfl rfl ?_
 refine k_sg ?_
 refine s_run rfl rfl (rab rfl) ?_
 refine k_nc ?_
 refine k_seq ?_
 refine k_sg ?_
 refine s_call rfl (lAwake18 _) (ca57 rfl) ?_
 rintro e W1 ⟨rfl, H'⟩
 refine ⟨_, rfl, ?_⟩
 have H := H.same H'; clear H'
 refine s_run rfl rfl (r_notT rfl) ?_
 refine k_nc ?_
 refine k_f rfl ?_
 refine k_skip ?_
 refine c_norm ?_
 refine k_sg ?_
 refine s_call rfl (hB _) (ca58 rfl) ?_
 rintro e W1 ⟨g, t, s, rfl, H', hr, hg⟩
 refine ⟨_, rfl, ?_⟩
 have H := H.more H'; clear H'; simp only [List.append_nil] at H; have HB := H; clear H; have H := Heap.start HB.ents
 refine s_run rfl rfl (rmt rfl) ?_
 refine s_run rfl rfl (r_ext (v := .pointer _) rfl rfl) ?_
 refine s_run rfl rfl (r_ext (v := .pointer _) rfl rfl) ?_
 refine s_run rfl rfl (r_ext (v := .agg _) rfl rfl) ?_
 refine s_run rfl rfl (r_ext (v := .bool _) rfl rfl) ?_
 refine s_al H rfl inf91 ?_
 intro p5 _ H'; clear H; have H := H'; clear H'
 refine s_run rfl rfl (rap rfl) ?_
 refine s_run rfl rfl (rap rfl) ?_
 refine s_sw H 0 rfl rfl rfl rfl rfl rfl rfl sz91 ?_
 clear H; intro _ H; simp only [jA, jB, jC, jD, jE, jF, jG, jH, jI, jJ, jK, Nat.reduceAdd] at H
 refine s_run rfl rfl (rab rfl) ?_
 refine k_nc ?_
 refine k_seq ?_
 refine k_sg ?_
 refine s_run rfl rfl (rai rfl) ?_
 refine k_nc ?_
 refine k_b ?_
 have hr1 : RefOk _ (ids (tE g t d0 1 z8 0 z8) ++ [p5]) s d0 64 := (RefOk.at (X := []) (by simpa using hr) H).news (fun i hi => .inl (memZ hi))
 have HW := (HB.whole H).perm (List.perm_append_comm (l₁ := [_]) (l₂ := [_, _]))
 simp only [List.cons_append, List.nil_append] at HW
 clear H hr
 refine k_loop (fun z f W => ∃ i : Nat, i ≤ q ∧ i ≤ 30 ∧ z = 30 - i ∧ ∃ (g : Geo) (t : Nat) (s : RefS) (d : Nv.D) (E : Int) (R : List Int) (k : Nat) (V : List Int), f 0 = .slice B q cq ∧ f 3 = ptr g.p ∧ f 4 = ptr t ∧ f 5 = ptr p5 ∧ f 6 = .bool true ∧ f 7 = .int .i64 i ∧ Heap w [] [blk t (tabC g.p E R k V) 149, grp (devL g d), blk p5 (refTab s d 64 E R k V) 91] W ∧ RefOk W (ids (tE g t d E R k V) ++ [p5]) s d 64 ∧ GOk g 64 ∧ RG d E R k V) 30 ⟨0, by omega, by omega, rfl, g, t, s, d0, 1, z8, 0, z8, rfl, rfl, rfl, rfl, rfl, rfl, HW, hr1, hg, hG⟩ ?_
 clear HW hr1 hg hG HB hB hz8
 rintro z f W ⟨i, hiq, hi30, rfl, g, t, s, d, E, R, k, V, f0, f3, f4, f5, f6, f7, H, hr, hg, hG⟩
 obtain ⟨f, rfl⟩ := live6 f0 f3 f4 f5 f6 f7
 clear f0 f3 f4 f5 f6 f7
 by_cases hlq : i < q
 ·by_cases hl30 : i < 30
  ·obtain ⟨b, o, rfl, hrd⟩ := hs.1 (by omega)
   obtain ⟨op, hop⟩ : ∃ op, ops[i]? = some op := ⟨_, List.getElem?_eq_getElem (by omega)⟩
   have hcell := hrd i op hop
   have hc3 := hcell 3 _ rfl
   have hok := hs.2 op (List.mem_of_getElem? hop)
   have hncb := hok.ncb
   have hX : ∀ W' : World, Only (ids [blk t (tabC g.p E R k V) 149, grp (devL g d), blk p5 (refTab s d 64 E R k V) 91]) W W' → RefOk W' (ids (tE g t d E R k V) ++ [p5]) s d 64 := fun W' hO => hr.later hO (fun i hi => memY (A := [_, _]) hi)
   have hRl := hG.hR.1
   have hVl := hG.hV.1
   have hD := fun X W hE hr hX hz hnc => rDo g t s d E R k V op.o op.a op.v op.A op.nc op.cc op.cs X W hE hr hX hg hG hok.vb hz hok.len hok.bd hnc
   unfold DoP at hD
   obtain ⟨r0, r1, r2, r3, r4, r5, r6, r7, rfl⟩ := list8 hRl
   obtain ⟨v0, v1, v2, v3, v4, v5, v6, v7, rfl⟩ := list8 hVl
   by_cases h100 : 100 < op.nc
   ·refine k_seq ?_
    refine k_sg ?_
    refine s_run rfl rfl (rmb rfl) ?_
    refine s_run rfl rfl (rmb rfl) ?_
    refine s_run rfl (g_on 17 (by kernel_rfl) rfl) (rmi rfl) ?_
    refine s_run rfl (g_on 17 (by kernel_rfl) rfl) (rms rfl) ?_
    refine s_run rfl (g_on 17 (by kernel_rfl) rfl) (r_len rfl Try.underlying85) ?_
    refine s_run rfl (g_on 17 (by kernel_rfl) rfl) (r_lssT rfl rfl (by omega)) ?_
    refine s_run rfl rfl (r_pkT (v := .bool _) rfl rfl) ?_
    refine s_run rfl rfl (rmb rfl) ?_
    refine s_run rfl (g_on 23 (by kernel_rfl) rfl) (rmi rfl) ?_
    refine s_run rfl (g_on 23 (by kernel_rfl) rfl) (r_lssT rfl rfl (by omega)) ?_
    refine s_run rfl rfl (r_pkT (v := .bool _) rfl rfl) ?_
    refine k_nc ?_
    refine k_t rfl ?_
    refine k_skip ?_
    refine c_norm ?_
    refine k_seq ?_
    refine k_b ?_
    refine k_seq ?_
    refine k_sg ?_
    refine s_run rfl rfl (rms rfl) ?_
    refine s_run rfl rfl (rmi rfl) ?_
    refine s_run rfl rfl (r_ix (i := i) rfl rfl (by omega) (by omega) Try.underlying85 sz95) ?_
    refine s_run rfl rfl (r_fa rfl fo95_3) ?_
    refine s_run rfl rfl (r_lr H rfl hc3 (by simp) ag49) ?_
    refine s_run rfl rfl (r_len rfl Try.underlying49) ?_
    refine s_run rfl rfl (r_gtrT rfl rfl (by omega)) ?_
    refine k_nc ?_
    refine k_t rfl ?_
    refine k_sg ?_
    refine s_run rfl rfl (rab rfl) ?_
    refine k_nc ?_
    refine k_ret ?_
    refine c_ret ?_
    refine b_ret ?_
    refine c_ret ?_
    refine c_ret ?_
    refine b_ret ?_
    refine c_ret ?_
    refine fin1r (v := .bool _) rfl rfl ?_
    exact ⟨rfl, H.only.below⟩
   ·refine k_seq ?_
    refine k_sg ?_
    refine s_run rfl rfl (rmb rfl) ?_
    refine s_run rfl rfl (rmb rfl) ?_
    refine s_run rfl (g_on 17 (by kernel_rfl) rfl) (rmi rfl) ?_
    refine s_run rfl (g_on 17 (by kernel_rfl) rfl) (rms rfl) ?_
    refine s_run rfl (g_on 17 (by kernel_rfl) rfl) (r_len rfl Try.underlying85) ?_
    refine s_run rfl (g_on 17 (by kernel_rfl) rfl) (r_lssT rfl rfl (by omega)) ?_
    refine s_run rfl rfl (r_pkT (v := .bool _) rfl rfl) ?_
    refine s_run rfl rfl (rmb rfl) ?_
    refine s_run rfl (g_on 23 (by kernel_rfl) rfl) (rmi rfl) ?_
    refine s_run rfl (g_on 23 (by kernel_rfl) rfl) (r_lssT rfl rfl (by omega)) ?_
    refine s_run rfl rfl (r_pkT (v := .bool _) rfl rfl) ?_
    refine k_nc ?_
    refine k_t rfl ?_
    refine k_skip ?_
    refine c_norm ?_
    refine k_seq ?_
    refine k_b ?_
    refine k_seq ?_
    refine k_sg ?_
    refine s_run rfl rfl (rms rfl) ?_
    refine s_run rfl rfl (rmi rfl) ?_
    refine s_run rfl rfl (r_ix (i := i) rfl rfl (by omega) (by omega) Try.underlying85 sz95) ?_
    refine s_run rfl rfl (r_fa rfl fo95_3) ?_
    refine s_run rfl rfl (r_lr H rfl hc3 (by simp) ag49) ?_
    refine s_run rfl rfl (r_len rfl Try.underlying49) ?_
    refine s_run rfl rfl (r_gtrF rfl rfl (by omega)) ?_
    refine k_nc ?_
    refine k_f rfl ?_
    refine k_skip ?_
    refine c_norm ?_
    refine k_seq ?_
    refine k_cut (fun f W => ∃ (g : Geo) (t : Nat) (s : RefS) (d : Nv.D) (E : Int) (R : List Int) (k : Nat) (V : List Int), f 0 = .slice (some ⟨b, o, none⟩) q cq ∧ f 3 = ptr g.p ∧ f 4 = ptr t ∧ f 5 = ptr p5 ∧ f 6 = .bool true ∧ f 7 = .int .i64 i ∧ Heap w [] [blk t (tabC g.p E R k V) 149, grp (devL g d), blk p5 (refTab s d 64 E R k V) 91] W ∧ RefOk W (ids (tE g t d E R k V) ++ [p5]) s d 64 ∧ GOk g 64 ∧ RG d E R k V) ?_ ?_
    ·refine k_trF mixed ?_; have H' := H.drew; clear H; have H := H'; clear H'
     refine tqn 0 rfl rfl rfl (fun _ hS => r_mv (v := .pointer _) rfl) trivial ?_
     refine tqn 1 rfl rfl rfl (fun _ hS => r_mv (v := .pointer _) rfl) trivial ?_
     refine tqn 3 rfl rfl rfl (fun _ hS => r_mv (v := .slice _ _ _) rfl) trivial ?_
     refine tqn 4 rfl rfl rfl (fun _ hS => r_mv (v := .int _ _) rfl) trivial ?_
     refine tqn 5 rfl rfl rfl (fun _ hS => r_ix rfl rfl rfl (by omega) Try.underlying85 sz95) trivial ?_
     refine t_up2 2 6 (by kernel_rfl) ?_ ?_
     ·refine up_mk rfl ?_
      refine s_run rfl rfl (r_la H 2 rfl rfl rfl ag91 sz91) ?_
      refine k_nil ?_
      refine t_on trivial ?_
      refine t_up1 6 (by kernel_rfl) ?_
      refine up_mk rfl ?_
      refine s_run rfl rfl (r_lA (enc := fun v : Value => v) (zs := op.cells) (hcell.later H.only (by simp)) rfl rfl ag95 sz95) ?_
      refine k_nil ?_
      refine t_on trivial ?_
      refine t_up1 7 (by kernel_rfl) ?_
      refine up_mk rfl ?_
      refine s_call rfl (hD [p5] _ (H.part (A := [_, _])) (hX _ (Only.of_below (Below.refl _ _).drew _)) (fun j hj => H.idlt j (by rcases List.mem_cons.1 hj with rfl | hj; (exact List.mem_append_right _ (by simp [ids, blk])); cases hj)) ((hok.see.news (G := ids (tE g t d E _ k _)) (fun i hi => H.own i (ids_pre (A := [_, _]) hi))).later H.only (by simp)) (by omega)) (ca59 rfl) ?_
      rintro e W1 ⟨g', t', s2, d', E', R', k', V', rfl, H', hr', hg', hG'⟩
      refine ⟨_, rfl, ?_⟩
      have H1 := Heap.step (A := [_, _]) (L := [_]) H H' (fun i hi => hi); clear H H'; have H := H1; clear H1; simp only [tE, List.cons_append, List.nil_append] at H; have HB := H; clear H; have H := Heap.start HB.ents; have hRl' := hG'.hR.1; have hVl' := hG'.hV.1; obtain ⟨y0, y1, y2, y3, y4, y5, y6, y7, rfl⟩ := list8 hRl'; obtain ⟨x0, x1, x2, x3, x4, x5, x6, x7, rfl⟩ := list8 hVl'
      refine k_nil ?_
      refine t_on trivial ?_
      refine tqn 8 rfl rfl rfl (fun _ hS => r_mv (v := .tuple _) rfl) trivial ?_
      refine tqn 9 rfl rfl rfl (fun _ hS => r_ext (v := .pointer _) rfl rfl) trivial ?_
      refine tqn 10 rfl rfl rfl (fun _ hS => r_ext (v := .pointer _) rfl rfl) trivial ?_
      refine tqn 11 rfl rfl rfl (fun _ hS => r_ext (v := .agg _) rfl rfl) trivial ?_
      refine tqn 12 rfl rfl rfl (fun _ hS => r_ext (v := .bool _) rfl rfl) trivial ?_
      refine tqn 13 rfl rfl rfl (fun _ hS => r_as (v := .pointer _) rfl) trivial ?_
      refine tqn 14 rfl rfl rfl (fun _ hS => r_as (v := .pointer _) rfl) trivial ?_
      refine t_up1 15 (by kernel_rfl) ?_
      refine up_mk rfl ?_
      refine s_sw H 2 rfl rfl rfl rfl rfl rfl rfl sz91 ?_
      clear H; intro _ H; simp only [jA, jB, jC, jD, jE, jF, jG, jH, jI, jJ, jK, Nat.reduceAdd] at H
      refine k_nil ?_
      refine t_on trivial ?_
      refine tqn 16 rfl rfl rfl (fun _ hS => r_as (v := .bool _) rfl) trivial ?_
      refine t_done (by kernel_rfl) ?_
      refine k_met ?_
      exact ⟨g', t', s2, d', E', _, k', _, rfl, rfl, rfl, rfl, rfl, rfl, HB.whole H, hr'.later H.only (fun i hi => memY (A := [_, _]) hi), hg', hG'⟩
     ·refine up_mk rfl ?_
      refine s_run rfl rfl (r_lA (enc := fun v : Value => v) (zs := op.cells) (hcell.later H.only (by simp)) rfl rfl ag95 sz95) ?_
      refine k_nil ?_
      refine t_on trivial ?_
      refine t_up1 2 (by kernel_rfl) ?_
      refine up_mk rfl ?_
      refine s_run rfl rfl (r_la H 2 rfl rfl rfl ag91 sz91) ?_
      refine k_nil ?_
      refine t_on trivial ?_
      refine t_up1 7 (by kernel_rfl) ?_
      refine up_mk rfl ?_
      refine s_call rfl (hD [p5] _ (H.part (A := [_, _])) (hX _ (Only.of_below (Below.refl _ _).drew _)) (fun j hj => H.idlt j (by rcases List.mem_cons.1 hj with rfl | hj; (exact List.mem_append_right _ (by simp [ids, blk])); cases hj)) ((hok.see.news (G := ids (tE g t d E _ k _)) (fun i hi => H.own i (ids_pre (A := [_, _]) hi))).later H.only (by simp)) (by omega)) (ca59 rfl) ?_
      rintro e W1 ⟨g', t', s2, d', E', R', k', V', rfl, H', hr', hg', hG'⟩
      refine ⟨_, rfl, ?_⟩
      have H1 := Heap.step (A := [_, _]) (L := [_]) H H' (fun i hi => hi); clear H H'; have H := H1; clear H1; simp only [tE, List.cons_append, List.nil_append] at H; have HB := H; clear H; have H := Heap.start HB.ents; have hRl' := hG'.hR.1; have hVl' := hG'.hV.1; obtain ⟨y0, y1, y2, y3, y4, y5, y6, y7, rfl⟩ := list8 hRl'; obtain ⟨x0, x1, x2, x3, x4, x5, x6, x7, rfl⟩ := list8 hVl'
      refine k_nil ?_
      refine t_on trivial ?_
      refine tqn 8 rfl rfl rfl (fun _ hS => r_mv (v := .tuple _) rfl) trivial ?_
      refine tqn 9 rfl rfl rfl (fun _ hS => r_ext (v := .pointer _) rfl rfl) trivial ?_
      refine tqn 10 rfl rfl rfl (fun _ hS => r_ext (v := .pointer _) rfl rfl) trivial ?_
      refine tqn 11 rfl rfl rfl (fun _ hS => r_ext (v := .agg _) rfl rfl) trivial ?_
      refine tqn 12 rfl rfl rfl (fun _ hS => r_ext (v := .bool _) rfl rfl) trivial ?_
      refine tqn 13 rfl rfl rfl (fun _ hS => r_as (v := .pointer _) rfl) trivial ?_
      refine tqn 14 rfl rfl rfl (fun _ hS => r_as (v := .pointer _) rfl) trivial ?_
      refine t_up1 15 (by kernel_rfl) ?_
      refine up_mk rfl ?_
      refine s_sw H 2 rfl rfl rfl rfl rfl rfl rfl sz91 ?_
      clear H; intro _ H; simp only [jA, jB, jC, jD, jE, jF, jG, jH, jI, jJ, jK, Nat.reduceAdd] at H
      refine k_nil ?_
      refine t_on trivial ?_
      refine tqn 16 rfl rfl rfl (fun _ hS => r_as (v := .bool _) rfl) trivial ?_
      refine t_done (by kernel_rfl) ?_
      refine k_met ?_
      exact ⟨g', t', s2, d', E', _, k', _, rfl, rfl, rfl, rfl, rfl, rfl, HB.whole H, hr'.later H.only (fun i hi => memY (A := [_, _]) hi), hg', hG'⟩
    clear H hr hX hD hg hG hcell hc3 hRl hVl
    rintro f W ⟨g, t, s, d, E, R, k, V, f0, f3, f4, f5, f6, f7, H, hr, hg, hG⟩
    obtain ⟨f, rfl⟩ := live6 f0 f3 f4 f5 f6 f7
    clear f0 f3 f4 f5 f6 f7
    have hRl := hG.hR.1
    have hVl := hG.hV.1
    obtain ⟨r0, r1, r2, r3, r4, r5, r6, r7, rfl⟩ := list8 hRl
    obtain ⟨v0, v1, v2, v3, v4, v5, v6, v7, rfl⟩ := list8 hVl
    have hSh := fun W hE => lShows t g.p 64 s d E k k _ _ W hE hRl hVl
    have hSa := fun W hE hr => lSame g d s 64 W hE hr (by omega)
    refine c_norm ?_
    refine k_rg ?_
    refine s_run rfl rfl (rmb rfl) ?_
    refine s_run rfl rfl (rmb rfl) ?_
    refine s_run rfl (g_on 50 (by kernel_rfl) rfl) (rmp rfl) ?_
    refine s_run rfl (g_on 50 (by kernel_rfl) rfl) (r_la H 2 rfl rfl rfl ag91 sz91) ?_
    refine s_call (g_on 50 (by kernel_rfl) rfl) (hSh _ (H.one 0 rfl)) (ca60 rfl) ?_
    rintro e W1 ⟨rfl, H'⟩
    refine ⟨_, rfl, ?_⟩
    have H := H.same H'; have hr2 := hr.later (G := []) H' (by simp); clear H'
    refine s_run rfl rfl (r_pkT (v := .bool _) rfl rfl) ?_
    refine s_run rfl rfl (rmb rfl) ?_
    refine s_run rfl (g_on 55 (by kernel_rfl) rfl) (rmp rfl) ?_
    refine s_run rfl (g_on 55 (by kernel_rfl) rfl) (r_fa0 rfl fo91_0) ?_
    refine s_run rfl (g_on 55 (by kernel_rfl) rfl) (r_lp H 2 (vs := refCells s d 64) rfl rfl rfl rfl ag55 sz55) ?_
    refine s_call (g_on 55 (by kernel_rfl) rfl) (hSa _ (H.grp_ents 1 rfl) (hr2.news (by simp))) (ca56 rfl) ?_
    rintro e W1 ⟨rfl, H'⟩
    refine ⟨_, rfl, ?_⟩
    have H := H.same H'; have hr3 := hr2.later (G := []) H' (by simp); clear H'
    refine s_run rfl rfl (r_pkT (v := .bool _) rfl rfl) ?_
    refine s_run rfl rfl (rab rfl) ?_
    refine k_nil ?_
    refine b_norm ?_
    refine c_norm ?_
    refine k_rg ?_
    refine s_run rfl rfl (rmi rfl) ?_
    refine s_run rfl rfl (r_add rfl rfl (wI (by omega))) ?_
    refine s_run rfl rfl (rai rfl) ?_
    refine k_nil ?_
    refine c_round ?_
    refine ⟨_, _, ?_, rfl, i + 1, by omega, by omega, rfl, g, t, s, d, E, _, k, _, rfl, rfl, rfl, rfl, rfl, rfl, H, hr3, hg, hG⟩
    omega
  ·refine k_seq ?_
   refine k_sg ?_
   refine s_run rfl rfl (rmb rfl) ?_
   refine s_run rfl rfl (rmb rfl) ?_
   refine s_run rfl (g_on 17 (by kernel_rfl) rfl) (rmi rfl) ?_
   refine s_run rfl (g_on 17 (by kernel_rfl) rfl) (rms rfl) ?_
   refine s_run rfl (g_on 17 (by kernel_rfl) rfl) (r_len rfl Try.underlying85) ?_
   refine s_run rfl (g_on 17 (by kernel_rfl) rfl) (r_lssT rfl rfl (by omega)) ?_
   refine s_run rfl rfl (r_pkT (v := .bool _) rfl rfl) ?_
   refine s_run rfl rfl (rmb rfl) ?_
   refine s_run rfl (g_on 23 (by kernel_rfl) rfl) (rmi rfl) ?_
   refine s_run rfl (g_on 23 (by kernel_rfl) rfl) (r_lssF rfl rfl (by omega)) ?_
   refine s_run rfl rfl (r_pkT (v := .bool _) rfl rfl) ?_
   refine k_nc ?_
   refine k_f rfl ?_
   refine k_exit ?_
   refine c_exit ?_
   refine c_exit ?_
   refine b_hit ?_
   refine c_norm ?_
   refine k_sg ?_
   refine s_run rfl rfl (rmb rfl) ?_
   refine s_run rfl rfl (rab rfl) ?_
   refine k_nc ?_
   refine k_ret ?_
   refine fin1r (v := .bool _) rfl rfl ?_
   exact ⟨rfl, H.only.below⟩
 ·refine k_seq ?_
  refine k_sg ?_
  refine s_run rfl rfl (rmb rfl) ?_
  refine s_run rfl rfl (rmb rfl) ?_
  refine s_run rfl (g_on 17 (by kernel_rfl) rfl) (rmi rfl) ?_
  refine s_run rfl (g_on 17 (by kernel_rfl) rfl) (rms rfl) ?_
  refine s_run rfl (g_on 17 (by kernel_rfl) rfl) (r_len rfl Try.underlying85) ?_
  refine s_run rfl (g_on 17 (by kernel_rfl) rfl) (r_lssF rfl rfl (by omega)) ?_
  refine s_run rfl rfl (r_pkT (v := .bool _) rfl rfl) ?_
  refine s_run rfl rfl (rmb rfl) ?_
  refine s_off rfl (g_off 23 (by kernel_rfl) rfl rfl) ?_
  refine s_off rfl (g_off 23 (by kernel_rfl) rfl rfl) ?_
  refine s_run rfl rfl (r_pkF (v := .bool _) rfl rfl) ?_
  refine k_nc ?_
  refine k_f rfl ?_
  refine k_exit ?_
  refine c_exit ?_
  refine c_exit ?_
  refine b_hit ?_
  refine c_norm ?_
  refine k_sg ?_
  refine s_run rfl rfl (rmb rfl) ?_
  refine s_run rfl rfl (rab rfl) ?_
  refine k_nc ?_
  refine k_ret ?_
  refine fin1r (v := .bool _) rfl rfl ?_
  exact ⟨rfl, H.only.below⟩
end Go.Proofs.Ytmekhdclnhhhbaa
end

section
namespace Go.Proofs.Ytmekhdclnhhhbaa.lRootsPlays
open Go.ChangeShapes Go.WideShapes Go.ChangeAt Go.RowKit
theorem own : ownKnob Try.prog.godebug = none := by kernel_rfl
theorem laidOut : laidOutB Try.prog = true := by kernel_rfl
set_option maxRecDepth 100000 in
theorem lifted (os : Os) (started : os.Started) (H : Type) (enc : TypeId × Value → H) :
  ReturnsInHanded {} Try.checked os 13 .any (Rows.rootsPlaysSpec.pre6 enc Try.prog Try.f13 Rows.rootsPlaysRow.domain false) (Rows.rootsPlaysSpec.post enc Try.prog Try.f13 false true false false) := by
 refine returnsInHanded_of_change (C := Try.checked) own started (by kernel_rfl) Try.func13
  (ChangeSpec.witness6 (enc := enc) (C := Try.checked) false ⟨#[], #[.slice none 0 0], []⟩ 8 (by kernel_rfl) (by kernel_rfl) (by kernel_rfl) (by kernel_rfl)) ?_
 intro W base args ds gs before hval0 hW hcnd _
 have hval : ∀ (j : Nat) t v, Try.f13.params[j]? = some t → args[j]? = some v → Value.okWide Try.prog W .any base t v := hval0
 have hW' := hW
 obtain ⟨p, q, hA0, hV, rfl, hfz, hnd⟩ := hW
 have hA : DataW.TrodAll enc Try.prog W 0 (fun _ => true) true Try.f13.params.toList args.toList ds p := hA0
 rw [Try.params13] at hA hval
 obtain ⟨v0, vs0, d0, ds0, p0, q0, hargs, rfl, rfl, h0, r0⟩ := trodAll_cons hA
 obtain ⟨rfl, rfl, rfl⟩ := trodAll_nil r0
 obtain rfl : args = #[v0] := by cases args; simp_all
 obtain ⟨rfl, rfl⟩ := trodVars_none hV
 have k0 := h0
 have lt0 : ∀ x ∈ p0, x.block < W.heap.size := by obtain ⟨m, hm⟩ := k0; exact DataW.trod_lt m _ _ _ hm
 obtain ⟨x0, rfl, w0⟩ := open_scriptR W base v0 d0 p0 (hval 0 85 v0 rfl rfl) h0
 clear hA0 hval0
 refine (walk_RootsPlays x0 W w0).mono fun e W' ⟨he, bel⟩ => ?_
 subst he
 exact ⟨_, rfl, _, _, _, [], _, [], hW', trodAll_mk1 (shut_bool Try.underlying4 _), (trodAll_cons_mk (Below.trod laidOut (by kernel_rfl) (of_decide_eq_true (by kernel_rfl)) k0 bel lt0) trodAll_mk0), rfl, bel.frame _, fun h => by cases h⟩
theorem over : Rows.rootsPlaysRow.holds Try.pinned (OpenSpec.ofChange Rows.rootsPlaysSpec) :=
 OpenClaim.holds_of_wide 13 Try.f13 rfl rfl rfl rfl rfl rfl rfl ⟨rfl, rfl, rfl, rfl, rfl⟩ rfl rfl rfl rfl rfl (by kernel_rfl) Try.func13 (by kernel_rfl)
  (of_decide_eq_true (by kernel_rfl)) (by unfold Func.isWrapper; first | (rw [if_pos (by decide +kernel)]; kernel_rfl) | (rw [if_neg (by decide +kernel)]; exact ⟨rfl, rfl⟩))
  (fun os started H enc _ => lifted os started H enc)
theorem proved : Rows.RootsPlaysSaid := over
#print axioms proved
end Go.Proofs.Ytmekhdclnhhhbaa.lRootsPlays
end
