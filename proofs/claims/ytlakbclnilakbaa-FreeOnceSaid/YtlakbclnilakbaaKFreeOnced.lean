/- Parts of the proof, one behind the other. -/
import Derived.Test.YtlakbclnilakbaaKFreeOncec
set_option linter.unusedSimpArgs false
set_option linter.unusedVariables false
set_option linter.unusedSectionVars false
section
namespace Go.Proofs.Ytlakbclnilakbaa
open Go.RowKit
set_option maxRecDepth 100000
set_option maxHeartbeats 4000000
theorem stay_len (f t : Int) (l : List Int) : (stay f t l).length ≤ l.length := List.length_filter_le _ _
theorem cls_len (S : FrS) {k : Nat} (hk : k < 32) : (fList S (k : Int)).length = (cls S k).length := by
 unfold fList
 rw [if_pos (by unfold isC; exact decide_eq_true ⟨by omega, by omega⟩), srt_len, Int.toNat_natCast]
theorem cls_le {w0 W : World} {I : List Nat} {L : List Ent} {T : TypeId} {F : Nat → RowS} {l : FrM} {N k : Nat} (H : Heap w0 I L W) (j : Nat) (hj : L[j]? = some (fam T 160 F)) (hok : FrOk F l N) (hk : k < 32) : (cls (xsOf F) k).length ≤ 5 * N := by
 have h0 := hok.len (k * 5) (by omega)
 have h1 := hok.len (k * 5 + 1) (by omega)
 have h2 := hok.len (k * 5 + 2) (by omega)
 have h3 := hok.len (k * 5 + 3) (by omega)
 have h4 := hok.len (k * 5 + 4) (by omega)
 have g0 := fam_len H j hj (i := k * 5) (by omega)
 have g1 := fam_len H j hj (i := k * 5 + 1) (by omega)
 have g2 := fam_len H j hj (i := k * 5 + 2) (by omega)
 have g3 := fam_len H j hj (i := k * 5 + 3) (by omega)
 have g4 := fam_len H j hj (i := k * 5 + 4) (by omega)
 unfold cls xsOf
 simp only [List.length_append]
 omega
structure RmQ (F : Nat → RowS) (N k : Nat) (fr to : Int) (K : Nat) (F' : Nat → RowS) (l' : FrM) : Prop where
 ok : FrOk F' l' N
 xs : xsOf F' = fRemN (xsOf F) k fr to K
section
variable {p b N : Nat} {F : Nat → RowS} {l : FrM} {w : World}
theorem oRemove (hE : Ents (frE p b F F l) w) (hok : FrOk F l N) (hN : N ≤ 10000) (k fr to : Int) :
  Calls Try.prog 79 [ptrF p, .int .i64 k, .int .i64 fr, .int .i64 to].toArray w fun e w' => e = .returned (.int .i64 (fRemove (xsOf F) k fr to).2) ∧ FrTo p b F l N (fRemove (xsOf F) k fr to).1 w w' := by
 have H := Heap.start hE
 have hC := fun W => cRight k W
 unfold fRemove
 cases hk : isC k with
 | false =>
  simp only [hk] at hC
  rw [if_pos rfl]
  refine k_in (N := 65) Try.func79 rfl rfl rfl ?_
  refine k_sg ?_
  refine s_box1 H rfl rfl rfl ?_
  intro p6 _ H'; clear H; have H := H'; clear H'
  refine s_box1 H rfl rfl rfl ?_
  intro p7 _ H'; clear H; have H := H'; clear H'
  refine s_run rfl rfl (rai rfl) ?_
  refine k_nc ?_
  refine k_seq ?_
  refine k_sg ?_
  refine s_run rfl rfl (rmi rfl) ?_
  refine s_call rfl (hC _) (ca52 rfl) ?_
  rintro e W1 ⟨rfl, H'⟩
  refine ⟨_, rfl, ?_⟩
  have H := H.same H'; clear H'
  refine s_run rfl rfl (r_notF rfl) ?_
  refine k_nc ?_
  refine k_t rfl ?_
  refine k_sg ?_
  refine s_run rfl rfl (rai rfl) ?_
  refine k_nc ?_
  refine k_ret ?_
  refine c_ret ?_
  refine fin1r (v := .int _ _) rfl rfl ?_
  exact ⟨rfl, F, l, H.drop.drop, hok, rfl⟩
 | true =>
 simp only [hk] at hC
 rw [if_neg (by simp)]
 obtain ⟨k, rfl, hk32⟩ := isC_nat hk
 rw [Int.toNat_natCast]
 obtain ⟨I, hI⟩ : ∃ I, ids (frE p b F F l) = I := ⟨_, rfl⟩
 have hL0 := fun {W : World} hE => oLen (p := p) (b := b) (F := F) (l := l) (w := W) hE hok (by omega) k
 simp only [cls_len _ hk32] at hL0
 have hb0 := hok.len (k * 5) (by omega)
 have hlg := fam_len H 2 rfl (i := k * 5) (by omega)
 have hcl := cls_le H 2 rfl hok hk32
 rw [hI] at H
 obtain ⟨A0, n0, c0, xs0, hr0⟩ : ∃ A n c xs, F (k * 5) = ⟨A, n, c, xs⟩ := ⟨_, _, _, _, rfl⟩
 rw [hr0] at hb0 hlg
 replace hb0 : n0 ≤ N := hb0
 replace hlg : xs0.length = n0 := hlg
 have hs0 := stay_len fr to xs0
 refine k_in (N := 65) Try.func79 rfl rfl rfl ?_
 refine k_sg ?_
 refine s_box1 H rfl rfl rfl ?_
 intro p6 _ H'; clear H; have H := H'; clear H'
 refine s_box1 H rfl rfl rfl ?_
 intro p7 _ H'; clear H; have H := H'; clear H'
 refine s_run rfl rfl (rai rfl) ?_
 refine k_nc ?_
 refine k_seq ?_
 refine k_sg ?_
 refine s_run rfl rfl (rmi rfl) ?_
 refine s_call rfl (hC _) (ca52 rfl) ?_
 rintro e W1 ⟨rfl, H'⟩
 refine ⟨_, rfl, ?_⟩
 have H := H.same H'; clear H'
 refine s_run rfl rfl (r_notT rfl) ?_
 refine k_nc ?_
 refine k_f rfl ?_
 refine k_skip ?_
 refine c_norm ?_
 refine k_sg ?_
 refine s_run rfl rfl (rmp rfl) ?_
 refine s_run rfl rfl (rmi rfl) ?_
 refine s_call rfl (hL0 H.drop.drop.ents) (ca17 rfl) ?_
 rintro e W1 ⟨rfl, H'⟩
 refine ⟨_, rfl, ?_⟩
 have H := H.same H'; clear H'
 refine s_run rfl rfl (rai rfl) ?_
 refine k_nc ?_
 refine k_sg ?_
 refine s_run rfl rfl (r_mkf rfl) ?_
 refine s_run rfl rfl (r_as (v := .func _ _ _) rfl) ?_
 refine k_nc ?_
 refine k_seq ?_
 unfold frE at H
 replace H := H.pick 1 rfl
 simp only [List.eraseIdx_cons_succ, List.eraseIdx_cons_zero] at H
 replace H := H.pull 4 rfl (i := k * 5) (by omega)
 simp only [List.set_cons_zero, List.set_cons_succ] at H
 rw [hr0] at H
 unfold rowE at H
 have hD := fun {W : World} hE => sDelete A0 n0 c0 p6 p7 fr to xs0 W hE (by omega)
 refine k_cut (fun f W => f 0 = ptrF p ∧ f 1 = .int .i64 k ∧ f 9 = .int .i64 (cls (xsOf F) k).length ∧ f 10 = closG p6 p7 ∧ Heap w I (ownN 1 (.slice A0 (stay fr to xs0).length c0) (stay fr to xs0).length ((stay fr to xs0).map (Value.int .i64)) 3 :: goneE p6 p7 fr to ++ [blk p (frC (updR F (k * 5) ⟨A0, (stay fr to xs0).length, c0, stay fr to xs0⟩) b) 95, mp kF RowS.v b l, fam 3 160 (updR F (k * 5) RowS.nil)]) W) ?_ ?_
 ·refine k_trF mixed ?_; have H' := H.drew; clear H; have H := H'; clear H'
  refine tqn 0 rfl rfl rfl (fun _ hS => r_mv (v := .pointer _) rfl) trivial ?_
  refine tqn 1 rfl rfl rfl (fun _ hS => r_mv (v := .int _ _) rfl) trivial ?_
  refine tqn 2 rfl rfl rfl (fun _ hS => r_mv (v := .pointer _) rfl) trivial ?_
  refine tqn 3 rfl rfl rfl (fun _ hS => r_mv (v := .int _ _) rfl) trivial ?_
  refine tqn 4 rfl rfl rfl (fun _ hS => r_nc rfl) trivial ?_
  refine tqn 5 rfl rfl rfl (fun _ hS => r_fa0 rfl fo95_0) trivial ?_
  refine tqn 6 rfl rfl rfl (fun _ hS => r_ia0 (i := k) rfl rfl (by omega) (by omega) Try.underlying92 sz25) trivial ?_
  refine tqn 8 rfl rfl rfl (fun _ hS => r_mv (v := .func _ _ _) rfl) trivial ?_
  refine tqn 10 rfl rfl rfl (fun _ hS => r_nc rfl) trivial ?_
  refine tqn 11 rfl rfl rfl (fun _ hS => r_fa0 rfl fo95_0) trivial ?_
  refine t_up1 7 (by kernel_rfl) ?_
  refine up_mk rfl ?_
  refine s_run rfl rfl (r_lo H 3 rfl rfl (by rw [frC_get hk32, hr0]) ag25) ?_
  refine k_nil ?_
  refine t_on trivial ?_
  refine t_up1 9 (by kernel_rfl) ?_
  refine up_mk rfl ?_
  refine s_call rfl (hD (Heap.part (A := [_, _, _]) H)) (ca99 rfl) ?_
  rintro e W1 ⟨rfl, H'⟩
  refine ⟨_, rfl, ?_⟩
  have H := Heap.step (A := [_, _, _]) H H' (fun _ h => h); clear H'; unfold goneE at H; simp only [List.cons_append, List.nil_append] at H
  refine k_nil ?_
  refine t_on trivial ?_
  refine tqn 12 rfl rfl rfl (fun _ hS => r_ia0 (i := k) rfl rfl (by omega) (by omega) Try.underlying92 sz25) trivial ?_
  refine t_up1 13 (by kernel_rfl) ?_
  refine up_mk rfl ?_
  refine s_stC H 3 rfl rfl rfl rfl (frC_get hk32) (frC_set (r := ⟨A0, (stay fr to xs0).length, c0, stay fr to xs0⟩) hk32) rfl sz25 ?_
  clear H; intro _ H; simp only [jA, jB, jC, jD, jE, jF, jG, jH, jI, jJ, jK, Nat.reduceAdd] at H
  refine k_nil ?_
  refine t_on trivial ?_
  refine t_done (by kernel_rfl) ?_
  refine k_met ?_
  exact ⟨rfl, rfl, rfl, rfl, H⟩
 ·clear H
  rintro f W ⟨f0, f1, f9, f10, H⟩
  obtain ⟨f, rfl⟩ := live4 f0 f1 f9 f10
  clear f0 f1 f9 f10
  unfold goneE at H
  simp only [List.cons_append, List.nil_append] at H
  have hg : ∃ F' , RmQ F N k fr to 1 F' l ∧ Heap w I [blk p6 [.int .i64 fr] 3, blk p7 [.int .i64 to] 3, blk p (frC F' b) 95, mp kF RowS.v b l, fam 3 160 F'] W := by
   have h1 := Heap.push (r := ⟨A0, (stay fr to xs0).length, c0, stay fr to xs0⟩) H 4 rfl (i := k * 5) (by omega) (updR_at _ _ _)
   simp only [List.set_cons_zero, List.set_cons_succ] at h1
   rw [updR_upd] at h1
   refine ⟨_, ⟨hok.glob (k := k) (by show (stay fr to xs0).length ≤ _; omega), ?_⟩, h1⟩
   rw [xsOf_upd, fRemN_succ _ _ _ _ _ (by omega), fRemN_zero]
   show updS (xsOf F) (k * 5) (stay fr to xs0) = updS (xsOf F) (k * 5) (stay fr to (F (k * 5)).xs)
   rw [hr0]
  clear H
  obtain ⟨F1, hq1, H⟩ := hg
  refine c_norm ?_
  refine k_seq ?_
  refine k_sg ?_
  refine s_run rfl rfl (rmi rfl) ?_
  refine k_nc ?_
  refine k_b ?_
  refine k_loop (fun z f W => ∃ (K : Nat) (F' : Nat → RowS) (l' : FrM), K ≤ 4 ∧ z = 4 - K ∧ RmQ F N k fr to (K + 1) F' l' ∧ f 0 = ptrF p ∧ f 1 = .int .i64 k ∧ f 9 = .int .i64 (cls (xsOf F) k).length ∧ f 10 = closG p6 p7 ∧ f 35 = .int .i64 K ∧ Heap w I [blk p6 [.int .i64 fr] 3, blk p7 [.int .i64 to] 3, blk p (frC F' b) 95, mp kF RowS.v b l', fam 3 160 F'] W) 4 ⟨0, F1, l, by omega, rfl, hq1, rfl, rfl, rfl, rfl, rfl, H⟩ ?_
  clear H hq1
  rintro z f W ⟨K, F', l', hK, rfl, hq, f0, f1, f9, f10, f35, H⟩
  obtain ⟨f, rfl⟩ := live5 f0 f1 f9 f10 f35
  clear f0 f1 f9 f10 f35
  by_cases hlt : K < 4
  ·have gd := gdF hlt hk32
   have hb1 := hq.ok.len (k * 5 + 1 + K) (by omega)
   have hl1 := fam_len H 4 rfl (i := k * 5 + 1 + K) (by omega)
   have hxs : (F' (k * 5 + 1 + K)).xs = xsOf F (k * 5 + 1 + K) := by
    show xsOf F' _ = _
    rw [hq.xs, show k * 5 + 1 + K = k * 5 + (K + 1) by omega, fRemN_at _ _ _ _ _ _ ⟨by omega, by omega⟩]
   have hst : fRemN (xsOf F) k fr to (K + 1 + 1) = updS (fRemN (xsOf F) k fr to (K + 1)) (k * 5 + 1 + K) (stay fr to (xsOf F (k * 5 + 1 + K))) := by
    rw [fRemN_succ _ _ _ _ _ (by omega), show k * 5 + (K + 1) = k * 5 + 1 + K by omega]
   rcases hq.ok.got K k hlt hk32 with hg | ⟨hg, hnil⟩
   ·obtain ⟨A1, n1, c1, xs1, hr1⟩ : ∃ A n c xs, F' (k * 5 + 1 + K) = ⟨A, n, c, xs⟩ := ⟨_, _, _, _, rfl⟩
    rw [hr1] at hb1 hl1 hxs hg
    replace hb1 : n1 ≤ N := hb1
    replace hl1 : xs1.length = n1 := hl1
    replace hxs : xs1 = xsOf F (k * 5 + 1 + K) := hxs
    have hs1 := stay_len fr to xs1
    have hD1 := fun {W : World} hE => sDelete A1 n1 c1 p6 p7 fr to xs1 W hE (by omega)
    refine k_sg ?_
    refine s_run rfl rfl (r_lssT rfl rfl (by omega)) ?_
    refine k_nc ?_
    refine k_seq ?_
    refine k_t rfl ?_
    refine k_skip ?_
    refine c_norm ?_
    refine k_seq ?_
    refine k_b ?_
    refine k_sg ?_
    refine s_run rfl rfl (rmi rfl) ?_
    refine s_run rfl rfl (rai rfl) ?_
    refine k_nc ?_
    refine k_sg ?_
    refine s_run rfl rfl (rmi rfl) ?_
    refine s_run rfl rfl (rmi rfl) ?_
    refine s_run rfl rfl (r_bd (bd97_0_1 _ _) rfl) ?_
    refine s_al H rfl inf97 ?_
    intro p12 _ H'; clear H; have H := H'; clear H'
    refine s_sw H 0 rfl rfl rfl rfl rfl rfl rfl sz97 ?_
    clear H; intro _ H; simp only [jA, jB, jC, jD, jE, jF, jG, jH, jI, jJ, jK, Nat.reduceAdd] at H
    refine k_nc ?_
    refine k_seq ?_
    refine k_q mixed (by kernel_rfl) H ?_
    refine q_run rfl rfl (fun _ H => r_mv (v := .pointer _) rfl) ?_
    refine q_run rfl rfl (fun _ H => r_nc rfl) ?_
    refine q_run rfl rfl (fun _ H => r_fa0 rfl fo95_1) ?_
    refine q_run rfl rfl (fun _ H => r_lo H 3 rfl rfl (frC_map _ b) ag93) ?_
    refine q_run rfl rfl (fun _ H => r_la H 0 rfl rfl rfl ag97 sz97) ?_
    refine q_run rfl rfl (fun _ H => r_loS H 4 rfl rfl rfl (gd) (hg) Try.underlying93 (zv_of inf25) rfl) ?_
    refine q_run rfl rfl (fun _ H => r_mv (v := .tuple _) rfl) ?_
    refine q_run rfl rfl (fun _ H => r_ext (v := .slice _ _ _) rfl rfl) ?_
    refine q_run rfl rfl (fun _ H => r_ext (v := .bool _) rfl rfl) ?_
    refine q_run rfl rfl (fun _ H => r_as (v := .slice _ _ _) rfl) ?_
    refine q_run rfl rfl (fun _ H => r_as (v := .bool _) rfl) ?_
    refine q_nil ?_
    intro _ H'; clear H; have H := H'; clear H'
    refine c_norm ?_
    refine k_sg ?_
    refine s_run rfl rfl (rmb rfl) ?_
    refine k_nc ?_
    refine k_t rfl ?_
    replace H := H.pick 2 rfl
    simp only [List.eraseIdx_cons_succ, List.eraseIdx_cons_zero] at H
    replace H := H.pick 2 rfl
    simp only [List.eraseIdx_cons_succ, List.eraseIdx_cons_zero] at H
    replace H := H.pull 5 rfl (i := k * 5 + 1 + K) (by omega)
    simp only [List.set_cons_zero, List.set_cons_succ] at H
    rw [hr1] at H
    unfold rowE at H
    have hF : ∀ {W' : World}, Heap w I [ownN 1 (.slice A1 (stay fr to xs1).length c1) (stay fr to xs1).length ((stay fr to xs1).map (Value.int .i64)) 3, blk p6 [.int .i64 fr] 3, blk p7 [.int .i64 to] 3, blk p12 [.int .i64 K, .int .i64 k] 97, blk p (frC F' b) 95, mp kF RowS.v b (mput l' ((K : Int), (k : Int)) ⟨A1, (stay fr to xs1).length, c1, stay fr to xs1⟩), fam 3 160 (updR F' (k * 5 + 1 + K) RowS.nil)] W' → ∃ F'' l'', RmQ F N k fr to (K + 1 + 1) F'' l'' ∧ Heap w I [blk p6 [.int .i64 fr] 3, blk p7 [.int .i64 to] 3, blk p (frC F'' b) 95, mp kF RowS.v b l'', fam 3 160 F''] W' := fun H => by
     have h1 := Heap.push (r := ⟨A1, (stay fr to xs1).length, c1, stay fr to xs1⟩) H 5 rfl (i := k * 5 + 1 + K) (by omega) (updR_at _ _ _)
     simp only [List.set_cons_zero, List.set_cons_succ] at h1
     rw [updR_upd] at h1
     refine ⟨_, _, ⟨hq.ok.own hlt hk32 (r := ⟨A1, (stay fr to xs1).length, c1, stay fr to xs1⟩) (by show (stay fr to xs1).length ≤ _; omega), ?_⟩, ?_⟩
     ·rw [xsOf_upd, hst, hq.xs, ← hxs]
     ·rw [frC_own hlt]
      exact h1.subl [0, 1, 3, 4, 5] rfl rfl
    refine k_trF mixed ?_; have H' := H.drew; clear H; have H := H'; clear H'
    refine tqh 0 rfl rfl rfl (fun _ hS => r_mv (v := .pointer _) rfl) trivial ?_
    refine tqh 1 rfl rfl rfl (fun _ hS => r_nc rfl) trivial ?_
    refine tqh 2 rfl rfl rfl (fun _ hS => r_fa0 rfl fo95_1) trivial ?_
    refine tqh 5 rfl rfl rfl (fun _ hS => r_mv (v := .slice _ _ _) rfl) trivial ?_
    refine tqh 6 rfl rfl rfl (fun _ hS => r_mv (v := .func _ _ _) rfl) trivial ?_
    refine t_up3 3 4 7 (by kernel_rfl) ?_ ?_ ?_
    ·refine up_mk rfl ?_
     refine s_run rfl rfl (r_lo H 4 rfl rfl (frC_map _ b) ag93) ?_
     refine k_nil ?_
     refine t_on trivial ?_
     refine t_up2 4 7 (by kernel_rfl) ?_ ?_
     ·refine up_mk rfl ?_
      refine s_run rfl rfl (r_la H 3 rfl rfl rfl ag97 sz97) ?_
      refine k_nil ?_
      refine t_on trivial ?_
      refine t_up1 7 (by kernel_rfl) ?_
      refine up_mk rfl ?_
      refine s_call rfl (hD1 (Heap.part (A := [_, _, _]) H)) (ca99 rfl) ?_
      rintro e W1 ⟨rfl, H'⟩
      refine ⟨_, rfl, ?_⟩
      have H := Heap.step (A := [_, _, _]) H H' (fun _ h => h); clear H'; unfold goneE at H; simp only [List.cons_append, List.nil_append] at H
      refine k_nil ?_
      refine t_on trivial ?_
      refine t_up1 8 (by kernel_rfl) ?_
      refine up_mk rfl ?_
      refine s_mu (q := ⟨A1, (stay fr to xs1).length, c1, stay fr to xs1⟩) H 5 rfl rfl rfl rfl rfl (gd) Try.underlying93 ?_
      clear H; intro _ H; simp only [jA, jB, jC, jD, jE, jF, jG, jH, jI, jJ, jK, Nat.reduceAdd] at H
      refine k_nil ?_
      refine t_on trivial ?_
      refine t_done (by kernel_rfl) ?_
      refine b_norm ?_
      refine c_norm ?_
      refine k_rg ?_
      refine s_run rfl rfl (r_add rfl rfl (wI (by omega))) ?_
      refine s_run rfl rfl (rmi rfl) ?_
      refine k_nil ?_
      refine c_round ?_
      obtain ⟨F'', l'', hq2, H2⟩ := hF H; exact ⟨_, _, by omega, rfl, K + 1, F'', l'', by omega, rfl, hq2, rfl, rfl, rfl, rfl, rfl, H2⟩
     ·refine up_mk rfl ?_
      refine s_call rfl (hD1 (Heap.part (A := [_, _, _]) H)) (ca99 rfl) ?_
      rintro e W1 ⟨rfl, H'⟩
      refine ⟨_, rfl, ?_⟩
      have H := Heap.step (A := [_, _, _]) H H' (fun _ h => h); clear H'; unfold goneE at H; simp only [List.cons_append, List.nil_append] at H
      refine k_nil ?_
      refine t_on trivial ?_
      refine t_up1 4 (by kernel_rfl) ?_
      refine up_mk rfl ?_
      refine s_run rfl rfl (r_la H 3 rfl rfl rfl ag97 sz97) ?_
      refine k_nil ?_
      refine t_on trivial ?_
      refine t_up1 8 (by kernel_rfl) ?_
      refine up_mk rfl ?_
      refine s_mu (q := ⟨A1, (stay fr to xs1).length, c1, stay fr to xs1⟩) H 5 rfl rfl rfl rfl rfl (gd) Try.underlying93 ?_
      clear H; intro _ H; simp only [jA, jB, jC, jD, jE, jF, jG, jH, jI, jJ, jK, Nat.reduceAdd] at H
      refine k_nil ?_
      refine t_on trivial ?_
      refine t_done (by kernel_rfl) ?_
      refine b_norm ?_
      refine c_norm ?_
      refine k_rg ?_
      refine s_run rfl rfl (r_add rfl rfl (wI (by omega))) ?_
      refine s_run rfl rfl (rmi rfl) ?_
      refine k_nil ?_
      refine c_round ?_
      obtain ⟨F'', l'', hq2, H2⟩ := hF H; exact ⟨_, _, by omega, rfl, K + 1, F'', l'', by omega, rfl, hq2, rfl, rfl, rfl, rfl, rfl, H2⟩
    ·refine up_mk rfl ?_
     refine s_run rfl rfl (r_la H 3 rfl rfl rfl ag97 sz97) ?_
     refine k_nil ?_
     refine t_on trivial ?_
     refine t_up2 3 7 (by kernel_rfl) ?_ ?_
     ·refine up_mk rfl ?_
      refine s_run rfl rfl (r_lo H 4 rfl rfl (frC_map _ b) ag93) ?_
      refine k_nil ?_
      refine t_on trivial ?_
      refine t_up1 7 (by kernel_rfl) ?_
      refine up_mk rfl ?_
      refine s_call rfl (hD1 (Heap.part (A := [_, _, _]) H)) (ca99 rfl) ?_
      rintro e W1 ⟨rfl, H'⟩
      refine ⟨_, rfl, ?_⟩
      have H := Heap.step (A := [_, _, _]) H H' (fun _ h => h); clear H'; unfold goneE at H; simp only [List.cons_append, List.nil_append] at H
      refine k_nil ?_
      refine t_on trivial ?_
      refine t_up1 8 (by kernel_rfl) ?_
      refine up_mk rfl ?_
      refine s_mu (q := ⟨A1, (stay fr to xs1).length, c1, stay fr to xs1⟩) H 5 rfl rfl rfl rfl rfl (gd) Try.underlying93 ?_
      clear H; intro _ H; simp only [jA, jB, jC, jD, jE, jF, jG, jH, jI, jJ, jK, Nat.reduceAdd] at H
      refine k_nil ?_
      refine t_on trivial ?_
      refine t_done (by kernel_rfl) ?_
      refine b_norm ?_
      refine c_norm ?_
      refine k_rg ?_
      refine s_run rfl rfl (r_add rfl rfl (wI (by omega))) ?_
      refine s_run rfl rfl (rmi rfl) ?_
      refine k_nil ?_
      refine c_round ?_
      obtain ⟨F'', l'', hq2, H2⟩ := hF H; exact ⟨_, _, by omega, rfl, K + 1, F'', l'', by omega, rfl, hq2, rfl, rfl, rfl, rfl, rfl, H2⟩
     ·refine up_mk rfl ?_
      refine s_call rfl (hD1 (Heap.part (A := [_, _, _]) H)) (ca99 rfl) ?_
      rintro e W1 ⟨rfl, H'⟩
      refine ⟨_, rfl, ?_⟩
      have H := Heap.step (A := [_, _, _]) H H' (fun _ h => h); clear H'; unfold goneE at H; simp only [List.cons_append, List.nil_append] at H
      refine k_nil ?_
      refine t_on trivial ?_
      refine t_up1 3 (by kernel_rfl) ?_
      refine up_mk rfl ?_
      refine s_run rfl rfl (r_lo H 4 rfl rfl (frC_map _ b) ag93) ?_
      refine k_nil ?_
      refine t_on trivial ?_
      refine t_up1 8 (by kernel_rfl) ?_
      refine up_mk rfl ?_
      refine s_mu (q := ⟨A1, (stay fr to xs1).length, c1, stay fr to xs1⟩) H 5 rfl rfl rfl rfl rfl (gd) Try.underlying93 ?_
      clear H; intro _ H; simp only [jA, jB, jC, jD, jE, jF, jG, jH, jI, jJ, jK, Nat.reduceAdd] at H
      refine k_nil ?_
      refine t_on trivial ?_
      refine t_done (by kernel_rfl) ?_
      refine b_norm ?_
      refine c_norm ?_
      refine k_rg ?_
      refine s_run rfl rfl (r_add rfl rfl (wI (by omega))) ?_
      refine s_run rfl rfl (rmi rfl) ?_
      refine k_nil ?_
      refine c_round ?_
      obtain ⟨F'', l'', hq2, H2⟩ := hF H; exact ⟨_, _, by omega, rfl, K + 1, F'', l'', by omega, rfl, hq2, rfl, rfl, rfl, rfl, rfl, H2⟩
    ·refine up_mk rfl ?_
     refine s_call rfl (hD1 (Heap.part (A := [_, _, _]) H)) (ca99 rfl) ?_
     rintro e W1 ⟨rfl, H'⟩
     refine ⟨_, rfl, ?_⟩
     have H := Heap.step (A := [_, _, _]) H H' (fun _ h => h); clear H'; unfold goneE at H; simp only [List.cons_append, List.nil_append] at H
     refine k_nil ?_
     refine t_on trivial ?_
     refine t_up2 3 4 (by kernel_rfl) ?_ ?_
     ·refine up_mk rfl ?_
      refine s_run rfl rfl (r_lo H 4 rfl rfl (frC_map _ b) ag93) ?_
      refine k_nil ?_
      refine t_on trivial ?_
      refine t_up1 4 (by kernel_rfl) ?_
      refine up_mk rfl ?_
      refine s_run rfl rfl (r_la H 3 rfl rfl rfl ag97 sz97) ?_
      refine k_nil ?_
      refine t_on trivial ?_
      refine t_up1 8 (by kernel_rfl) ?_
      refine up_mk rfl ?_
      refine s_mu (q := ⟨A1, (stay fr to xs1).length, c1, stay fr to xs1⟩) H 5 rfl rfl rfl rfl rfl (gd) Try.underlying93 ?_
      clear H; intro _ H; simp only [jA, jB, jC, jD, jE, jF, jG, jH, jI, jJ, jK, Nat.reduceAdd] at H
      refine k_nil ?_
      refine t_on trivial ?_
      refine t_done (by kernel_rfl) ?_
      refine b_norm ?_
      refine c_norm ?_
      refine k_rg ?_
      refine s_run rfl rfl (r_add rfl rfl (wI (by omega))) ?_
      refine s_run rfl rfl (rmi rfl) ?_
      refine k_nil ?_
      refine c_round ?_
      obtain ⟨F'', l'', hq2, H2⟩ := hF H; exact ⟨_, _, by omega, rfl, K + 1, F'', l'', by omega, rfl, hq2, rfl, rfl, rfl, rfl, rfl, H2⟩
     ·refine up_mk rfl ?_
      refine s_run rfl rfl (r_la H 3 rfl rfl rfl ag97 sz97) ?_
      refine k_nil ?_
      refine t_on trivial ?_
      refine t_up1 3 (by kernel_rfl) ?_
      refine up_mk rfl ?_
      refine s_run rfl rfl (r_lo H 4 rfl rfl (frC_map _ b) ag93) ?_
      refine k_nil ?_
      refine t_on trivial ?_
      refine t_up1 8 (by kernel_rfl) ?_
      refine up_mk rfl ?_
      refine s_mu (q := ⟨A1, (stay fr to xs1).length, c1, stay fr to xs1⟩) H 5 rfl rfl rfl rfl rfl (gd) Try.underlying93 ?_
      clear H; intro _ H; simp only [jA, jB, jC, jD, jE, jF, jG, jH, jI, jJ, jK, Nat.reduceAdd] at H
      refine k_nil ?_
      refine t_on trivial ?_
      refine t_done (by kernel_rfl) ?_
      refine b_norm ?_
      refine c_norm ?_
      refine k_rg ?_
      refine s_run rfl rfl (r_add rfl rfl (wI (by omega))) ?_
      refine s_run rfl rfl (rmi rfl) ?_
      refine k_nil ?_
      refine c_round ?_
      obtain ⟨F'', l'', hq2, H2⟩ := hF H; exact ⟨_, _, by omega, rfl, K + 1, F'', l'', by omega, rfl, hq2, rfl, rfl, rfl, rfl, rfl, H2⟩
   ·refine k_sg ?_
    refine s_run rfl rfl (r_lssT rfl rfl (by omega)) ?_
    refine k_nc ?_
    refine k_seq ?_
    refine k_t rfl ?_
    refine k_skip ?_
    refine c_norm ?_
    refine k_seq ?_
    refine k_b ?_
    refine k_sg ?_
    refine s_run rfl rfl (rmi rfl) ?_
    refine s_run rfl rfl (rai rfl) ?_
    refine k_nc ?_
    refine k_sg ?_
    refine s_run rfl rfl (rmi rfl) ?_
    refine s_run rfl rfl (rmi rfl) ?_
    refine s_run rfl rfl (r_bd (bd97_0_1 _ _) rfl) ?_
    refine s_al H rfl inf97 ?_
    intro p12 _ H'; clear H; have H := H'; clear H'
    refine s_sw H 0 rfl rfl rfl rfl rfl rfl rfl sz97 ?_
    clear H; intro _ H; simp only [jA, jB, jC, jD, jE, jF, jG, jH, jI, jJ, jK, Nat.reduceAdd] at H
    refine k_nc ?_
    refine k_seq ?_
    refine k_q mixed (by kernel_rfl) H ?_
    refine q_run rfl rfl (fun _ H => r_mv (v := .pointer _) rfl) ?_
    refine q_run rfl rfl (fun _ H => r_nc rfl) ?_
    refine q_run rfl rfl (fun _ H => r_fa0 rfl fo95_1) ?_
    refine q_run rfl rfl (fun _ H => r_lo H 3 rfl rfl (frC_map _ b) ag93) ?_
    refine q_run rfl rfl (fun _ H => r_la H 0 rfl rfl rfl ag97 sz97) ?_
    refine q_run rfl rfl (fun _ H => r_loN H 4 rfl rfl rfl (gd) (hg) Try.underlying93 (zv_of inf25)) ?_
    refine q_run rfl rfl (fun _ H => r_mv (v := .tuple _) rfl) ?_
    refine q_run rfl rfl (fun _ H => r_ext (v := .slice _ _ _) rfl rfl) ?_
    refine q_run rfl rfl (fun _ H => r_ext (v := .bool _) rfl rfl) ?_
    refine q_run rfl rfl (fun _ H => r_as (v := .slice _ _ _) rfl) ?_
    refine q_run rfl rfl (fun _ H => r_as (v := .bool _) rfl) ?_
    refine q_nil ?_
    intro _ H'; clear H; have H := H'; clear H'
    refine c_norm ?_
    refine k_sg ?_
    refine s_run rfl rfl (rmb rfl) ?_
    refine k_nc ?_
    refine k_f rfl ?_
    refine k_skip ?_
    refine b_norm ?_
    refine c_norm ?_
    refine k_rg ?_
    refine s_run rfl rfl (r_add rfl rfl (wI (by omega))) ?_
    refine s_run rfl rfl (rmi rfl) ?_
    refine k_nil ?_
    refine c_round ?_
    refine ⟨_, _, ?_, rfl, K + 1, F', l', by omega, rfl, ⟨hq.ok, ?_⟩, rfl, rfl, rfl, rfl, rfl, H.drop⟩
    ·omega
    ·rw [hst, ← hxs, hnil]
     show _ = updS _ _ []
     have e : fRemN (xsOf F) k fr to (K + 1) (k * 5 + 1 + K) = [] := by rw [← hq.xs]; show (F' (k * 5 + 1 + K)).xs = []; rw [hnil]; rfl
     have := updS_self (fRemN (xsOf F) k fr to (K + 1)) (k * 5 + 1 + K)
     rw [e] at this
     rw [this]; exact hq.xs
  ·obtain rfl : K = 4 := by omega
   have hL1 := fun {W : World} hE => oLen (p := p) (b := b) (F := F') (l := l') (w := W) hE hq.ok (by omega) k
   simp only [cls_len _ hk32, hq.xs] at hL1
   have hcl2 := cls_le H 4 rfl hq.ok hk32
   rw [hq.xs] at hcl2
   refine k_sg ?_
   refine s_run rfl rfl (r_lssF rfl rfl (by omega)) ?_
   refine k_nc ?_
   refine k_seq ?_
   refine k_f rfl ?_
   refine k_exit ?_
   refine c_exit ?_
   refine c_exit ?_
   refine b_hit ?_
   refine c_norm ?_
   refine k_sg ?_
   refine s_run rfl rfl (rmi rfl) ?_
   refine s_run rfl rfl (rmp rfl) ?_
   refine s_run rfl rfl (rmi rfl) ?_
   refine s_call rfl (hL1 H.drop.drop.ents) (ca17 rfl) ?_
   rintro e W1 ⟨rfl, H'⟩
   refine ⟨_, rfl, ?_⟩
   have H := H.same H'; clear H'
   refine s_run rfl rfl (r_sub rfl rfl (wI (by omega))) ?_
   refine s_run rfl rfl (rai rfl) ?_
   refine k_nc ?_
   refine k_ret ?_
   refine fin1r (v := .int _ _) rfl rfl ?_
   exact ⟨rfl, F', l', by rw [hI]; exact H.drop.drop, hq.ok, hq.xs⟩
end
end Go.Proofs.Ytlakbclnilakbaa
end

section
namespace Go.Proofs.Ytlakbclnilakbaa
open Go.RowKit
set_option maxRecDepth 100000
set_option maxHeartbeats 4000000
def fC (D : Nat → RowS) : List Value := fnC 160 fun i => (D i).v
def fV (D : Nat → RowS) : Value := .agg (fC D).toArray
theorem dgt {D : Nat → RowS} {k m : Nat} (hk : k < 32) (hm : m < 5) : (fC D)[0 + k * 5 + m]? = some (.slice (D (k * 5 + m)).A (D (k * 5 + m)).n (D (k * 5 + m)).c) := by
 unfold fC; rw [fnC_get (by omega), Nat.zero_add]; rfl
theorem fC_set {D : Nat → RowS} {k m : Nat} {r : RowS} (hk : k < 32) (hm : m < 5) : (fC D).set (0 + k * 5 + m) (.slice r.A r.n r.c) = fC (updR D (k * 5 + m) r) := by
 unfold fC
 rw [fnC_set]
 refine fnC_congr fun i hi => ?_
 rw [Nat.zero_add]
 unfold updR
 split <;> rfl
theorem inf29 : Inf Try.prog 29 (fV fun _ => RowS.nil) 160 3840 := inf_of (by kernel_rfl)
structure DOk (K : List Nat) (w : World) (D : Nat → RowS) (N : Nat) : Prop where
 sees : ∀ i, i < 160 → Sees (Value.int .i64) w K (D i).A (D i).xs
 len : ∀ i, i < 160 → (D i).xs.length = (D i).n
 cap : ∀ i, i < 160 → (D i).n ≤ (D i).c
 num : ∀ i, i < 160 → (D i).n ≤ N
theorem DOk.later {K G : List Nat} {w W : World} {D : Nat → RowS} {N : Nat} (h : DOk K w D N) (hO : Only G w W) (hG : ∀ i ∈ G, i ∈ K) : DOk K W D N := ⟨fun i hi => (h.sees i hi).later hO hG, h.len, h.cap, h.num⟩
theorem DOk.mono {K G : List Nat} {w : World} {D : Nat → RowS} {N M : Nat} (h : DOk K w D N) (hG : ∀ i ∈ G, i ∈ K) (hM : N ≤ M) : DOk G w D M := ⟨fun i hi => (h.sees i hi).mono hG, h.len, h.cap, fun i hi => Nat.le_trans (h.num i hi) hM⟩
theorem DOk.upd {K : List Nat} {w : World} {D : Nat → RowS} {N i : Nat} {r : RowS} (h : DOk K w D N) (hS : Sees (Value.int .i64) w K r.A r.xs) (hl : r.xs.length = r.n) (hc : r.n ≤ r.c) (hn : r.n ≤ N) : DOk K w (updR D i r) N :=
 ⟨fun j hj => by unfold updR; split; exact hS; exact h.sees j hj, fun j hj => by unfold updR; split; exact hl; exact h.len j hj, fun j hj => by unfold updR; split; exact hc; exact h.cap j hj, fun j hj => by unfold updR; split; exact hn; exact h.num j hj⟩
theorem dClass (k : Int) (w : World) : Calls Try.prog 56 [.int .i64 k].toArray w fun e w' => e = .returned (.bool (isC k)) ∧ Only [] w w' := by
 have H := Heap.nil w
 unfold isC
 by_cases h1 : 0 ≤ k
 ·by_cases h2 : k < 32
  ·rw [decide_eq_true ⟨h1, h2⟩]
   refine k_in (N := 9) Try.func56 rfl rfl rfl ?_
   refine k_sg ?_
   refine s_run rfl rfl (rab rfl) ?_
   refine k_nc ?_
   refine k_sg ?_
   refine s_run rfl rfl (rmi rfl) ?_
   refine s_run rfl rfl (r_geqT rfl rfl (by omega)) ?_
   refine s_run rfl rfl (rmb rfl) ?_
   refine s_run rfl (g_on 5 (by kernel_rfl) rfl) (rmi rfl) ?_
   refine s_run rfl (g_on 5 (by kernel_rfl) rfl) (r_lssT rfl rfl (by omega)) ?_
   refine s_run rfl rfl (r_pkT (v := .bool _) rfl rfl) ?_
   refine s_run rfl rfl (rab rfl) ?_
   refine k_nc ?_
   refine k_ret ?_
   refine fin1r (v := .bool _) rfl rfl ?_
   exact ⟨rfl, H.only⟩
  ·rw [decide_eq_false (fun h => h2 h.2)]
   refine k_in (N := 9) Try.func56 rfl rfl rfl ?_
   refine k_sg ?_
   refine s_run rfl rfl (rab rfl) ?_
   refine k_nc ?_
   refine k_sg ?_
   refine s_run rfl rfl (rmi rfl) ?_
   refine s_run rfl rfl (r_geqT rfl rfl (by omega)) ?_
   refine s_run rfl rfl (rmb rfl) ?_
   refine s_run rfl (g_on 5 (by kernel_rfl) rfl) (rmi rfl) ?_
   refine s_run rfl (g_on 5 (by kernel_rfl) rfl) (r_lssF rfl rfl (by omega)) ?_
   refine s_run rfl rfl (r_pkT (v := .bool _) rfl rfl) ?_
   refine s_run rfl rfl (rab rfl) ?_
   refine k_nc ?_
   refine k_ret ?_
   refine fin1r (v := .bool _) rfl rfl ?_
   exact ⟨rfl, H.only⟩
 ·rw [decide_eq_false (fun h => h1 h.1)]
  refine k_in (N := 9) Try.func56 rfl rfl rfl ?_
  refine k_sg ?_
  refine s_run rfl rfl (rab rfl) ?_
  refine k_nc ?_
  refine k_sg ?_
  refine s_run rfl rfl (rmi rfl) ?_
  refine s_run rfl rfl (r_geqF rfl rfl (by omega)) ?_
  refine s_run rfl rfl (rmb rfl) ?_
  refine s_off rfl (g_off 5 (by kernel_rfl) rfl rfl) ?_
  refine s_off rfl (g_off 5 (by kernel_rfl) rfl rfl) ?_
  refine s_run rfl rfl (r_pkF (v := .bool _) rfl rfl) ?_
  refine s_run rfl rfl (rab rfl) ?_
  refine k_nc ?_
  refine k_ret ?_
  refine fin1r (v := .bool _) rfl rfl ?_
  exact ⟨rfl, H.only⟩
theorem dOwner (k : Int) (w : World) : Calls Try.prog 81 [.int .i64 k].toArray w fun e w' => e = .returned (.bool (isM k)) ∧ Only [] w w' := by
 have H := Heap.nil w
 unfold isM
 by_cases h1 : 0 ≤ k
 ·by_cases h2 : k < 4
  ·rw [decide_eq_true ⟨h1, h2⟩]
   refine k_in (N := 9) Try.func81 rfl rfl rfl ?_
   refine k_sg ?_
   refine s_run rfl rfl (rab rfl) ?_
   refine k_nc ?_
   refine k_sg ?_
   refine s_run rfl rfl (rmi rfl) ?_
   refine s_run rfl rfl (r_geqT rfl rfl (by omega)) ?_
   refine s_run rfl rfl (rmb rfl) ?_
   refine s_run rfl (g_on 5 (by kernel_rfl) rfl) (rmi rfl) ?_
   refine s_run rfl (g_on 5 (by kernel_rfl) rfl) (r_lssT rfl rfl (by omega)) ?_
   refine s_run rfl rfl (r_pkT (v := .bool _) rfl rfl) ?_
   refine s_run rfl rfl (rab rfl) ?_
   refine k_nc ?_
   refine k_ret ?_
   refine fin1r (v := .bool _) rfl rfl ?_
   exact ⟨rfl, H.only⟩
  ·rw [decide_eq_false (fun h => h2 h.2)]
   refine k_in (N := 9) Try.func81 rfl rfl rfl ?_
   refine k_sg ?_
   refine s_run rfl rfl (rab rfl) ?_
   refine k_nc ?_
   refine k_sg ?_
   refine s_run rfl rfl (rmi rfl) ?_
   refine s_run rfl rfl (r_geqT rfl rfl (by omega)) ?_
   refine s_run rfl rfl (rmb rfl) ?_
   refine s_run rfl (g_on 5 (by kernel_rfl) rfl) (rmi rfl) ?_
   refine s_run rfl (g_on 5 (by kernel_rfl) rfl) (r_lssF rfl rfl (by omega)) ?_
   refine s_run rfl rfl (r_pkT (v := .bool _) rfl rfl) ?_
   refine s_run rfl rfl (rab rfl) ?_
   refine k_nc ?_
   refine k_ret ?_
   refine fin1r (v := .bool _) rfl rfl ?_
   exact ⟨rfl, H.only⟩
 ·rw [decide_eq_false (fun h => h1 h.1)]
  refine k_in (N := 9) Try.func81 rfl rfl rfl ?_
  refine k_sg ?_
  refine s_run rfl rfl (rab rfl) ?_
  refine k_nc ?_
  refine k_sg ?_
  refine s_run rfl rfl (rmi rfl) ?_
  refine s_run rfl rfl (r_geqF rfl rfl (by omega)) ?_
  refine s_run rfl rfl (rmb rfl) ?_
  refine s_off rfl (g_off 5 (by kernel_rfl) rfl rfl) ?_
  refine s_off rfl (g_off 5 (by kernel_rfl) rfl rfl) ?_
  refine s_run rfl rfl (r_pkF (v := .bool _) rfl rfl) ?_
  refine s_run rfl rfl (rab rfl) ?_
  refine k_nc ?_
  refine k_ret ?_
  refine fin1r (v := .bool _) rfl rfl ?_
  exact ⟨rfl, H.only⟩
theorem dJoin {A B : Option Addr} {n c m d : Nat} {xs ys : List Int} {w : World} (hA : Sees (Value.int .i64) w [] A xs) (hB : Sees (Value.int .i64) w [] B ys) (hn : xs.length = n) (hm : ys.length = m) (hN : n ≤ 100000 ∧ m ≤ 100000) :
  Calls Try.prog 97 [.slice A n c, .slice B m d].toArray w fun e w' => ∃ C q, e = .returned (.slice C (n + m) q) ∧ Heap w [] [ownN 1 (.slice C (n + m) q) (n + m) ((xs ++ ys).map (Value.int .i64)) 3] w' := by
 have H := Heap.nil w
 refine k_in (N := 10) Try.func97 rfl rfl rfl ?_
 refine k_sg ?_
 refine s_run rfl rfl (ras rfl) ?_
 refine k_nc ?_
 refine k_sg ?_
 refine s_bs0 1 (by omega) H rfl Try.underlying25 inf3 ?_
 intro _ _ H'; clear H; have H := H'; clear H'
 refine s_run rfl rfl (rms rfl) ?_
 refine s_apps (enc := (Value.int .i64)) (xs := []) H 0 rfl rfl rfl rfl (hA) (hn) (fun _ => rfl) (by omega) Try.underlying25 inf3 rfl ?_
 intro A1 c1 _ _ H'; simp only [List.set_cons_zero, List.set_cons_succ, List.take_succ_cons, List.take_zero, List.drop_succ_cons, List.drop_zero, List.cons_append, List.nil_append, List.append_nil, List.length_cons, List.length_nil, Nat.reduceAdd] at H'; clear H; have H := H'; clear H'
 refine s_run rfl rfl (rms rfl) ?_
 refine s_apps (enc := (Value.int .i64))  H 0 rfl rfl rfl rfl (hB) (hm) (fun _ => rfl) (by omega) Try.underlying25 inf3 rfl ?_
 intro A2 c2 _ _ H'; simp only [List.set_cons_zero, List.set_cons_succ, List.take_succ_cons, List.take_zero, List.drop_succ_cons, List.drop_zero, List.cons_append, List.nil_append, List.append_nil, List.length_cons, List.length_nil, Nat.reduceAdd] at H'; clear H; have H := H'; clear H'
 refine s_run rfl rfl (ras rfl) ?_
 refine k_nc ?_
 refine k_ret ?_
 refine fin1r (v := .slice _ _ _) rfl rfl ?_
 rw [Nat.zero_add] at H ⊢
 exact ⟨A2, c2, rfl, H⟩
theorem dOwn {K : List Nat} {D : Nat → RowS} {N : Nat} {w : World} (hD : DOk K w D N) (m k : Int) :
  Calls Try.prog 51 [fV D, .int .i64 m, .int .i64 k].toArray w fun e w' => e = .returned (.int .i64 (fOwn (xsOf D) m k)) ∧ Only [] w w' := by
 have H := Heap.nil w
 have hC := fun W => dClass k W
 have hM := fun W => dOwner m W
 unfold fOwn fV
 cases hk : isC k with
 | false =>
  rw [if_neg (by simp)]
  simp only [hk] at hC
  refine k_in (N := 23) Try.func51 rfl rfl rfl ?_
  refine k_sg ?_
  refine s_box H rfl rfl ?_
  intro p3 _ H'; clear H; have H := H'; clear H'
  refine s_run rfl rfl (rai rfl) ?_
  refine k_nc ?_
  refine k_seq ?_
  refine k_sg ?_
  refine s_run rfl rfl (rmi rfl) ?_
  refine s_call rfl (hC _) (ca56 rfl) ?_
  rintro e W1 ⟨rfl, H'⟩
  refine ⟨_, rfl, ?_⟩
  have H := H.same H'; clear H'
  refine s_run rfl rfl (r_notF rfl) ?_
  refine s_run rfl rfl (rmb rfl) ?_
  refine s_off rfl (g_off 10 (by kernel_rfl) rfl rfl) ?_
  refine s_off rfl (g_off 10 (by kernel_rfl) rfl rfl) ?_
  refine s_off rfl (g_off 10 (by kernel_rfl) rfl rfl) ?_
  refine s_run rfl rfl (r_pkT (v := .bool _) rfl rfl) ?_
  refine k_nc ?_
  refine k_t rfl ?_
  refine k_sg ?_
  refine s_run rfl rfl (rai rfl) ?_
  refine k_nc ?_
  refine k_ret ?_
  refine c_ret ?_
  refine fin1r (v := .int _ _) rfl rfl ?_
  exact ⟨rfl, H.only⟩
 | true =>
  simp only [hk] at hC
  cases hm : isM m with
  | false =>
   rw [if_neg (by simp)]
   simp only [hm] at hM
   refine k_in (N := 23) Try.func51 rfl rfl rfl ?_
   refine k_sg ?_
   refine s_box H rfl rfl ?_
   intro p3 _ H'; clear H; have H := H'; clear H'
   refine s_run rfl rfl (rai rfl) ?_
   refine k_nc ?_
   refine k_seq ?_
   refine k_sg ?_
   refine s_run rfl rfl (rmi rfl) ?_
   refine s_call rfl (hC _) (ca56 rfl) ?_
   rintro e W1 ⟨rfl, H'⟩
   refine ⟨_, rfl, ?_⟩
   have H := H.same H'; clear H'
   refine s_run rfl rfl (r_notT rfl) ?_
   refine s_run rfl rfl (rmb rfl) ?_
   refine s_run rfl (g_on 10 (by kernel_rfl) rfl) (rmi rfl) ?_
   refine s_call (g_on 10 (by kernel_rfl) rfl) (hM _) (ca81 rfl) ?_
   rintro e W1 ⟨rfl, H'⟩
   refine ⟨_, rfl, ?_⟩
   have H := H.same H'; clear H'
   refine s_run rfl (g_on 10 (by kernel_rfl) rfl) (r_notF rfl) ?_
   refine s_run rfl rfl (r_pkF (v := .bool _) rfl rfl) ?_
   refine k_nc ?_
   refine k_t rfl ?_
   refine k_sg ?_
   refine s_run rfl rfl (rai rfl) ?_
   refine k_nc ?_
   refine k_ret ?_
   refine c_ret ?_
   refine fin1r (v := .int _ _) rfl rfl ?_
   exact ⟨rfl, H.only⟩
  | true =>
   rw [if_pos ⟨rfl, rfl⟩]
   simp only [hm] at hM
   obtain ⟨k, rfl, hk32⟩ := isC_nat hk
   obtain ⟨m, rfl, hm4⟩ := isM_nat hm
   rw [Int.toNat_natCast, Int.toNat_natCast]
   have hl := hD.len (k * 5 + 1 + m) (by omega)
   rw [show ((xsOf D) (k * 5 + 1 + m)).length = (D (k * 5 + 1 + m)).n from hl]
   have hg := dgt (D := D) (m := 1 + m) hk32 (by omega)
   rw [show k * 5 + (1 + m) = k * 5 + 1 + m by omega] at hg
   refine k_in (N := 23) Try.func51 rfl rfl rfl ?_
   refine k_sg ?_
   refine s_box H rfl rfl ?_
   intro p3 _ H'; clear H; have H := H'; clear H'
   refine s_run rfl rfl (rai rfl) ?_
   refine k_nc ?_
   refine k_seq ?_
   refine k_sg ?_
   refine s_run rfl rfl (rmi rfl) ?_
   refine s_call rfl (hC _) (ca56 rfl) ?_
   rintro e W1 ⟨rfl, H'⟩
   refine ⟨_, rfl, ?_⟩
   have H := H.same H'; clear H'
   refine s_run rfl rfl (r_notT rfl) ?_
   refine s_run rfl rfl (rmb rfl) ?_
   refine s_run rfl (g_on 10 (by kernel_rfl) rfl) (rmi rfl) ?_
   refine s_call (g_on 10 (by kernel_rfl) rfl) (hM _) (ca81 rfl) ?_
   rintro e W1 ⟨rfl, H'⟩
   refine ⟨_, rfl, ?_⟩
   have H := H.same H'; clear H'
   refine s_run rfl (g_on 10 (by kernel_rfl) rfl) (r_notT rfl) ?_
   refine s_run rfl rfl (r_pkF (v := .bool _) rfl rfl) ?_
   refine k_nc ?_
   refine k_f rfl ?_
   refine k_skip ?_
   refine c_norm ?_
   refine k_sg ?_
   refine s_run rfl rfl (rmi rfl) ?_
   refine s_run rfl rfl (rmi rfl) ?_
   refine s_run rfl rfl (r_add rfl rfl (wI (by omega))) ?_
   refine s_run rfl rfl (r_fa0 rfl fo29_0) ?_
   refine s_run rfl rfl (r_ia (i := k) rfl rfl (by omega) (by omega) Try.underlying27 sz26) ?_
   refine s_run rfl rfl (r_ia1 (i := (1 + m)) rfl rfl (by omega) (by omega) Try.underlying26 sz25) ?_
   refine s_run rfl rfl (r_lo H 0 rfl rfl hg ag25) ?_
   refine s_run rfl rfl (r_len rfl Try.underlying25) ?_
   refine s_run rfl rfl (rai rfl) ?_
   refine k_nc ?_
   refine k_ret ?_
   refine fin1r (v := .int _ _) rfl rfl ?_
   exact ⟨rfl, H.only⟩
end Go.Proofs.Ytlakbclnilakbaa
end

section
namespace Go.Proofs.Ytlakbclnilakbaa
open Go.RowKit
set_option maxRecDepth 100000
set_option maxHeartbeats 4000000
theorem liveF7 {f : Nat → Value} {k1 k2 k3 k4 k5 k6 k7 : Nat} {v1 v2 v3 v4 v5 v6 v7 : Value} (h1 : f k1 = v1) (h2 : f k2 = v2) (h3 : f k3 = v3) (h4 : f k4 = v4) (h5 : f k5 = v5) (h6 : f k6 = v6) (h7 : f k7 = v7) : ∃ g, f = upd (upd (upd (upd (upd (upd (upd g k1 v1) k2 v2) k3 v3) k4 v4) k5 v5) k6 v6) k7 v7 := ⟨f, by rw [upd_same h1, upd_same h2, upd_same h3, upd_same h4, upd_same h5, upd_same h6, upd_same h7]⟩
theorem fold_sIns_len (l s : List Int) : (l.foldl sIns s).length = s.length + l.length := by
 induction l generalizing s with
 | nil => rfl
 | cons x l ih => rw [List.foldl_cons, ih, sIns_len, List.length_cons]; omega
def preTo (S : FrS) (k : Nat) : Nat → List Int
 | 0 => []
 | m + 1 => preTo S k m ++ S (k * 5 + m)
theorem preTo_cls (S : FrS) (k : Nat) : preTo S k 5 = cls S k := by simp [preTo, cls]
theorem preTo_len (S : FrS) (k M : Nat) (h : ∀ i, i < 160 → (S i).length ≤ M) (hk : k < 32) : ∀ m, m ≤ 5 → (preTo S k m).length ≤ m * M
 | 0, _ => by simp [preTo]
 | m + 1, hm => by
  have h1 := preTo_len S k M h hk m (by omega)
  have h2 := h (k * 5 + m) (by omega)
  rw [preTo, List.length_append, Nat.succ_mul]; omega
theorem dList {K : List Nat} {D : Nat → RowS} {N : Nat} {w : World} (hD : DOk [] w D N) (hN : N ≤ 10000) (hK : ∀ i ∈ K, i < w.heap.size) (k : Int) :
  Calls Try.prog 14 [fV D, .int .i64 k].toArray w fun e w' => ∃ A' c', e = .returned (.slice A' (fList (xsOf D) k).length c') ∧ Sees (Value.int .i64) w' K A' (fList (xsOf D) k) ∧ Only [] w w' := by
 have H := Heap.nil w
 have hC := fun W => dClass k W
 unfold fV fList
 cases hk : isC k with
 | false =>
  simp only [hk] at hC
  rw [if_neg (by simp)]
  refine k_in (N := 68) Try.func14 rfl rfl rfl ?_
  refine k_sg ?_
  refine s_box H rfl rfl ?_
  intro p2 _ H'; clear H; have H := H'; clear H'
  refine s_run rfl rfl (ras rfl) ?_
  refine k_nc ?_
  refine k_sg ?_
  refine s_run rfl rfl (ras rfl) ?_
  refine k_nc ?_
  refine k_seq ?_
  refine k_sg ?_
  refine s_run rfl rfl (rai rfl) ?_
  refine k_nc ?_
  refine k_b ?_
  refine k_loop (fun z f W => f 1 = .int .i64 k ∧ f 5 = .slice none 0 0 ∧ f 6 = .int .i64 0 ∧ Heap w [] [] W) 0 ⟨rfl, rfl, rfl, H.drop⟩ ?_
  clear H
  rintro z f W ⟨f1, f5, f6, H⟩
  obtain ⟨f, rfl⟩ := live3 f1 f5 f6
  clear f1 f5 f6
  refine k_seq ?_
  refine k_sg ?_
  refine s_run rfl rfl (rmi rfl) ?_
  refine s_call rfl (hC _) (ca56 rfl) ?_
  rintro e W1 ⟨rfl, H'⟩
  refine ⟨_, rfl, ?_⟩
  have H := H.same H'; clear H'
  refine s_run rfl rfl (rmb rfl) ?_
  refine s_off rfl (g_off 13 (by kernel_rfl) rfl rfl) ?_
  refine s_off rfl (g_off 13 (by kernel_rfl) rfl rfl) ?_
  refine s_run rfl rfl (r_pkF (v := .bool _) rfl rfl) ?_
  refine k_nc ?_
  refine k_f rfl ?_
  refine k_exit ?_
  refine c_exit ?_
  refine c_exit ?_
  refine b_hit ?_
  refine c_norm ?_
  refine k_sg ?_
  refine s_run rfl rfl (rms rfl) ?_
  refine s_run rfl rfl (ras rfl) ?_
  refine k_nc ?_
  refine k_ret ?_
  refine fin1r (v := .slice _ _ _) rfl rfl ?_
  exact ⟨none, 0, rfl, Sees.nil, H.only⟩
 | true =>
 simp only [hk] at hC
 rw [if_pos rfl]
 obtain ⟨k, rfl, hk32⟩ := isC_nat hk
 rw [Int.toNat_natCast]
 have hle : ∀ i, i < 160 → (xsOf D i).length ≤ N := fun i hi => by
  have h1 := hD.len i hi
  have h2 := hD.num i hi
  show (D i).xs.length ≤ N
  omega
 have hpl := preTo_len (xsOf D) k N hle hk32
 refine k_in (N := 68) Try.func14 rfl rfl rfl ?_
 refine k_sg ?_
 refine s_box H rfl rfl ?_
 intro p2 _ H'; clear H; have H := H'; clear H'
 refine s_run rfl rfl (ras rfl) ?_
 refine k_nc ?_
 refine k_sg ?_
 refine s_run rfl rfl (ras rfl) ?_
 refine k_nc ?_
 refine k_seq ?_
 refine k_sg ?_
 refine s_run rfl rfl (rai rfl) ?_
 refine k_nc ?_
 refine k_b ?_
 refine k_loop (fun z f W => ∃ (m : Nat) (OA : Option Addr) (oc : Nat) (out : List Int), m ≤ 5 ∧ z = 5 - m ∧ out = (preTo (xsOf D) k m).foldl sIns [] ∧ Sees (Value.int .i64) W K OA out ∧ out.length ≤ oc ∧ f 1 = .int .i64 k ∧ f 2 = ptrF p2 ∧ f 5 = .slice OA out.length oc ∧ f 6 = .int .i64 m ∧ Heap w [] [blk p2 (fC D) 29] W) 5 ⟨0, none, 0, [], by omega, rfl, rfl, Sees.nil, by simp, rfl, rfl, rfl, rfl, H⟩ ?_
 clear H
 rintro z f W ⟨m, OA, oc, out, hm, rfl, hout, hSo, hoc, f1, f2, f5, f6, H⟩
 obtain ⟨f, rfl⟩ := live4 f1 f2 f5 f6
 clear f1 f2 f5 f6
 by_cases hlt : m < 5
 ·obtain ⟨R, hR⟩ : ∃ R, xsOf D (k * 5 + m) = R := ⟨_, rfl⟩
  obtain ⟨RA, rn, rc, hrr⟩ : ∃ RA rn rc, D (k * 5 + m) = ⟨RA, rn, rc, R⟩ := ⟨_, _, _, by rw [← hR]; rfl⟩
  have hg := dgt (D := D) hk32 hlt
  have hSr := hD.sees (k * 5 + m) (by omega)
  have hrl := hD.len (k * 5 + m) (by omega)
  have hrn := hD.num (k * 5 + m) (by omega)
  rw [hrr] at hg hSr hrl hrn
  replace hg : (fC D)[0 + k * 5 + m]? = some (.slice RA rn rc) := hg
  replace hSr : Sees (Value.int .i64) w [] RA R := hSr
  replace hrl : R.length = rn := hrl
  replace hrn : rn ≤ N := hrn
  have hp5 := hpl m (by omega)
  have hp5 : (preTo (xsOf D) k m).length ≤ 5 * N := Nat.le_trans hp5 (Nat.mul_le_mul_right _ (by omega))
  refine k_seq ?_
  refine k_sg ?_
  refine s_run rfl rfl (rmi rfl) ?_
  refine s_call rfl (hC _) (ca56 rfl) ?_
  rintro e W1 ⟨rfl, H'⟩
  refine ⟨_, rfl, ?_⟩
  have H := H.same H'; replace hSo := hSo.later H' (by simp); clear H'
  refine s_run rfl rfl (rmb rfl) ?_
  refine s_run rfl (g_on 13 (by kernel_rfl) rfl) (rmi rfl) ?_
  refine s_run rfl (g_on 13 (by kernel_rfl) rfl) (r_lssT rfl rfl (by omega)) ?_
  refine s_run rfl rfl (r_pkT (v := .bool _) rfl rfl) ?_
  refine k_nc ?_
  refine k_t rfl ?_
  refine k_skip ?_
  refine c_norm ?_
  refine k_seq ?_
  refine k_b ?_
  refine k_sg ?_
  refine s_run rfl rfl (rai rfl) ?_
  refine k_nc ?_
  refine k_b ?_
  refine k_loop (fun z f W => ∃ (i : Nat) (OA : Option Addr) (oc : Nat) (out : List Int), i ≤ rn ∧ z = rn - i ∧ out = (preTo (xsOf D) k m ++ R.take i).foldl sIns [] ∧ Sees (Value.int .i64) W K OA out ∧ out.length ≤ oc ∧ f 1 = .int .i64 k ∧ f 2 = ptrF p2 ∧ f 5 = .slice OA out.length oc ∧ f 6 = .int .i64 m ∧ f 7 = .int .i64 i ∧ Heap w [] [blk p2 (fC D) 29] W) rn ⟨0, OA, oc, out, by omega, rfl, by rw [hout]; simp, hSo, hoc, rfl, rfl, rfl, rfl, rfl, H⟩ ?_
  clear H hSo hout hoc
  rintro z f W ⟨i, OA, oc, out, hi, rfl, hout, hSo, hoc, f1, f2, f5, f6, f7, HB⟩
  obtain ⟨f, rfl⟩ := live5 f1 f2 f5 f6 f7
  clear f1 f2 f5 f6 f7
  have hol : out.length ≤ 5 * N + i := by
   rw [hout, fold_sIns_len, List.length_nil, Nat.zero_add, List.length_append, List.length_take]
   omega
  have hFW : ∀ j ∈ K, j < W.heap.size := fun j hj => Nat.lt_of_lt_of_le (hK j hj) HB.only.size
  have H := Heap.nil W
  by_cases hil : i < rn
  ·obtain ⟨x, hx⟩ : ∃ x, R[i]? = some x := ⟨_, List.getElem?_eq_getElem (by omega)⟩
   obtain ⟨b, o, rfl, _, hrd0⟩ := hSr (by omega)
   have hrd := hrd0.later HB.only (by simp)
   have cx := hrd _ _ hx
   have hst2 : (preTo (xsOf D) k m ++ R.take (i + 1)).foldl sIns [] = sIns out x := by rw [← tk_snoc hx, ← List.append_assoc, List.foldl_append, ← hout]; rfl
   have hSo0 := hSo.mono (G := []) (by simp)
   refine k_seq ?_
   refine k_sg ?_
   refine s_run rfl rfl (rmi rfl) ?_
   refine s_run rfl rfl (rmi rfl) ?_
   refine s_run rfl rfl (rmi rfl) ?_
   refine s_run rfl rfl (r_fa0 rfl fo29_0) ?_
   refine s_run rfl rfl (r_ia (i := k) rfl rfl (by omega) (by omega) Try.underlying27 sz26) ?_
   refine s_run rfl rfl (r_ia1 (i := m) rfl rfl (by omega) (by omega) Try.underlying26 sz25) ?_
   refine s_run rfl rfl (r_lo (HB.same H.only) 0 rfl rfl hg ag25) ?_
   refine s_run rfl rfl (r_len rfl Try.underlying25) ?_
   refine s_run rfl rfl (r_lssT rfl rfl (by omega)) ?_
   refine k_nc ?_
   refine k_t rfl ?_
   refine k_skip ?_
   refine c_norm ?_
   refine k_seq ?_
   refine k_b ?_
   refine k_sg ?_
   refine s_run rfl rfl (rmi rfl) ?_
   refine s_run rfl rfl (rmi rfl) ?_
   refine s_run rfl rfl (r_fa0 rfl fo29_0) ?_
   refine s_run rfl rfl (r_ia (i := k) rfl rfl (by omega) (by omega) Try.underlying27 sz26) ?_
   refine s_run rfl rfl (r_ia1 (i := m) rfl rfl (by omega) (by omega) Try.underlying26 sz25) ?_
   refine s_run rfl rfl (r_lo (HB.same H.only) 0 rfl rfl hg ag25) ?_
   refine s_run rfl rfl (rmi rfl) ?_
   refine s_run rfl rfl (r_ix1o (i := i) rfl rfl (by omega) (by omega) Try.underlying25 sz3) ?_
   refine s_run rfl rfl (r_lr H rfl cx (by simp) ag3) ?_
   refine s_run rfl rfl (rai rfl) ?_
   refine k_nc ?_
   refine k_sg ?_
   refine s_run rfl rfl (rai rfl) ?_
   refine k_nc ?_
   refine k_seq ?_
   refine k_b ?_
   refine k_loop (fun z f W2 => ∃ (j : Nat), j ≤ out.length ∧ z = out.length - j ∧ (∀ k y, k < j → out[k]? = some y → y < x) ∧ f 1 = .int .i64 k ∧ f 2 = ptrF p2 ∧ f 5 = .slice OA out.length oc ∧ f 6 = .int .i64 m ∧ f 7 = .int .i64 i ∧ f 8 = .int .i64 x ∧ f 9 = .int .i64 j ∧ Heap W [] [] W2) out.length ⟨0, by omega, rfl, by omega, rfl, rfl, rfl, rfl, rfl, rfl, rfl, H⟩ ?_
   clear H
   rintro z f W2 ⟨j, hj, rfl, hlo, f1, f2, f5, f6, f7, f8, f9, H⟩
   have hp := sIns_at out x j hj hlo
   have hS2 := hSo0.slo j hoc
   obtain ⟨f, rfl⟩ := liveF7 f1 f2 f5 f6 f7 f8 f9
   clear f1 f2 f5 f6 f7 f8 f9
   by_cases hjl : j < out.length
   ·obtain ⟨y, hy⟩ : ∃ y, out[j]? = some y := ⟨_, List.getElem?_eq_getElem hjl⟩
    obtain ⟨b2, o2, rfl, hb2, hrd2⟩ := hSo (by omega)
    have cy := hrd2 _ _ hy
    by_cases hyx : y < x
    ·refine k_seq ?_
     refine k_sg ?_
     refine s_run rfl rfl (rmi rfl) ?_
     refine s_run rfl rfl (rms rfl) ?_
     refine s_run rfl rfl (r_len rfl Try.underlying25) ?_
     refine s_run rfl rfl (r_lssT rfl rfl (by omega)) ?_
     refine s_run rfl rfl (rmb rfl) ?_
     refine s_run rfl (g_on 43 (by kernel_rfl) rfl) (rms rfl) ?_
     refine s_run rfl (g_on 43 (by kernel_rfl) rfl) (rmi rfl) ?_
     refine s_run rfl (g_on 43 (by kernel_rfl) rfl) (r_ix1o (i := j) rfl rfl (by omega) (by omega) Try.underlying25 sz3) ?_
     refine s_run rfl (g_on 43 (by kernel_rfl) rfl) (r_lr H rfl cy (by simp) ag3) ?_
     refine s_run rfl (g_on 43 (by kernel_rfl) rfl) (rmi rfl) ?_
     refine s_run rfl (g_on 43 (by kernel_rfl) rfl) (r_lssT rfl rfl (by omega)) ?_
     refine s_run rfl rfl (r_pkT (v := .bool _) rfl rfl) ?_
     refine k_nc ?_
     refine k_t rfl ?_
     refine k_skip ?_
     refine c_norm ?_
     refine k_b ?_
     refine k_rg ?_
     refine s_run rfl rfl (rmi rfl) ?_
     refine s_run rfl rfl (r_add rfl rfl (wI (by omega))) ?_
     refine s_run rfl rfl (rai rfl) ?_
     refine k_nil ?_
     refine b_norm ?_
     refine c_round ?_
     refine ⟨_, _, ?_, rfl, j + 1, by omega, rfl, fun k u hk hu => ?_, rfl, rfl, rfl, rfl, rfl, rfl, rfl, H⟩
     ·omega
     ·by_cases e : k = j
      ·subst e; rw [hy] at hu; injection hu with hu; subst hu; exact hyx
      ·exact hlo k u (by omega) hu
    ·replace hp := hp (fun u hu => by rw [hy] at hu; injection hu with hu; subst hu; exact hyx)
     have e3 : out.take j ++ [x] ++ out.drop j = sIns out x := by rw [hp]; simp
     have hln : j + 1 + (0 + (out.length - j)) = (sIns out x).length := by rw [sIns_len]; omega
     refine k_seq ?_
     refine k_sg ?_
     refine s_run rfl rfl (rmi rfl) ?_
     refine s_run rfl rfl (rms rfl) ?_
     refine s_run rfl rfl (r_len rfl Try.underlying25) ?_
     refine s_run rfl rfl (r_lssT rfl rfl (by omega)) ?_
     refine s_run rfl rfl (rmb rfl) ?_
     refine s_run rfl (g_on 43 (by kernel_rfl) rfl) (rms rfl) ?_
     refine s_run rfl (g_on 43 (by kernel_rfl) rfl) (rmi rfl) ?_
     refine s_run rfl (g_on 43 (by kernel_rfl) rfl) (r_ix1o (i := j) rfl rfl (by omega) (by omega) Try.underlying25 sz3) ?_
     refine s_run rfl (g_on 43 (by kernel_rfl) rfl) (r_lr H rfl cy (by simp) ag3) ?_
     refine s_run rfl (g_on 43 (by kernel_rfl) rfl) (rmi rfl) ?_
     refine s_run rfl (g_on 43 (by kernel_rfl) rfl) (r_lssF rfl rfl (by omega)) ?_
     refine s_run rfl rfl (r_pkT (v := .bool _) rfl rfl) ?_
     refine k_nc ?_
     refine k_f rfl ?_
     refine k_exit ?_
     refine c_exit ?_
     refine c_exit ?_
     refine b_hit ?_
     refine c_norm ?_
     refine k_sg ?_
     refine s_bs0 1 (by omega) H rfl Try.underlying25 inf3 ?_
     intro _ _ H'; clear H; have H := H'; clear H'
     refine s_run rfl rfl (rms rfl) ?_
     refine s_run rfl rfl (rmi rfl) ?_
     refine s_run rfl rfl (r_sloA (i := j) rfl rfl rfl (by omega) Try.underlying25 sz3) ?_
     refine s_apps (enc := (Value.int .i64)) (xs := []) H 0 rfl rfl rfl rfl (hS2) ((by rw [List.length_drop])) (fun _ => rfl) (by omega) Try.underlying25 inf3 rfl ?_
     intro _ _ _ hA H'; simp only [List.set_cons_zero, List.set_cons_succ, List.take_succ_cons, List.take_zero, List.drop_succ_cons, List.drop_zero, List.cons_append, List.nil_append, List.append_nil, List.length_cons, List.length_nil, Nat.reduceAdd] at H'; clear H; have H := H'; clear H'
     refine s_run rfl rfl (ras rfl) ?_
     refine k_nc ?_
     refine k_rg ?_
     refine s_run rfl rfl (rms rfl) ?_
     refine s_run rfl rfl (rmi rfl) ?_
     refine s_run rfl rfl (rmi rfl) ?_
     refine s_run rfl rfl (r_shm (j := j) (j2 := j) rfl rfl rfl rfl rfl (by omega) (by omega) Try.underlying25 sz3) ?_
     refine s_run rfl rfl (rmi rfl) ?_
     refine s_bsO (enc := (Value.int .i64)) (zs := [x]) H rfl rfl rfl (by omega) (by kernel_rfl) Try.underlying25 inf3 ?_
     intro q5 _ H'; clear H; have H := H'; clear H'
     refine s_apG (enc := (Value.int .i64)) H ((hSo0.later H.only (by simp)).head j) ((by rw [List.length_take]; omega)) ((H.own_sees 0 rfl)) ((show ([x] : List Int).length = 1 from rfl)) (by omega) rfl rfl rfl (fun _ => rfl) (by omega) Try.underlying25 inf3 rfl ?_
     intro _ _ _ H'; clear H; have H := H'; clear H'
     refine s_run rfl rfl (rms rfl) ?_
     refine s_apW (enc := (Value.int .i64)) H 0 rfl rfl rfl rfl ((H.own_sees 2 rfl)) ((by simp)) (fun _ => rfl) (by omega) Try.underlying25 inf3 rfl ?_
     intro A2 c9 _ H'; simp only [List.set_cons_zero, List.set_cons_succ, List.take_succ_cons, List.take_zero, List.drop_succ_cons, List.drop_zero, List.cons_append, List.nil_append, List.append_nil, List.length_cons, List.length_nil, Nat.reduceAdd] at H'; clear H; have H := H'; clear H'
     refine s_run rfl rfl (ras rfl) ?_
     refine k_nil ?_
     refine b_norm ?_
     refine c_norm ?_
     refine k_rg ?_
     refine s_run rfl rfl (rmi rfl) ?_
     refine s_run rfl rfl (r_add rfl rfl (wI (by omega))) ?_
     refine s_run rfl rfl (rai rfl) ?_
     refine k_nil ?_
     refine c_round ?_
     rw [e3, hln] at H; exact ⟨_, _, by omega, rfl, i + 1, A2, c9, _, by omega, rfl, hst2.symm, H.own_fresh 0 rfl hFW, own_cap H 0 rfl, rfl, rfl, by rw [← hln]; rfl, rfl, rfl, HB.same H.only⟩
   ·obtain rfl : j = out.length := by omega
    replace hp := hp (fun u hu => by rw [List.getElem?_eq_none (Nat.le_refl _)] at hu; cases hu)
    have e3 : out.take out.length ++ [x] ++ out.drop out.length = sIns out x := by rw [hp]; simp
    have hln : out.length + 1 + (0 + (out.length - out.length)) = (sIns out x).length := by rw [sIns_len]; omega
    refine k_seq ?_
    refine k_sg ?_
    refine s_run rfl rfl (rmi rfl) ?_
    refine s_run rfl rfl (rms rfl) ?_
    refine s_run rfl rfl (r_len rfl Try.underlying25) ?_
    refine s_run rfl rfl (r_lssF rfl rfl (by omega)) ?_
    refine s_run rfl rfl (rmb rfl) ?_
    refine s_off rfl (g_off 43 (by kernel_rfl) rfl rfl) ?_
    refine s_off rfl (g_off 43 (by kernel_rfl) rfl rfl) ?_
    refine s_off rfl (g_off 43 (by kernel_rfl) rfl rfl) ?_
    refine s_off rfl (g_off 43 (by kernel_rfl) rfl rfl) ?_
    refine s_off rfl (g_off 43 (by kernel_rfl) rfl rfl) ?_
    refine s_off rfl (g_off 43 (by kernel_rfl) rfl rfl) ?_
    refine s_run rfl rfl (r_pkF (v := .bool _) rfl rfl) ?_
    refine k_nc ?_
    refine k_f rfl ?_
    refine k_exit ?_
    refine c_exit ?_
    refine c_exit ?_
    refine b_hit ?_
    refine c_norm ?_
    refine k_sg ?_
    refine s_bs0 1 (by omega) H rfl Try.underlying25 inf3 ?_
    intro _ _ H'; clear H; have H := H'; clear H'
    refine s_run rfl rfl (rms rfl) ?_
    refine s_run rfl rfl (rmi rfl) ?_
    refine s_run rfl rfl (r_sloA (i := out.length) rfl rfl rfl (by omega) Try.underlying25 sz3) ?_
    refine s_apps (enc := (Value.int .i64)) (xs := []) H 0 rfl rfl rfl rfl (hS2) ((by rw [List.length_drop])) (fun _ => rfl) (by omega) Try.underlying25 inf3 rfl ?_
    intro _ _ _ hA H'; simp only [List.set_cons_zero, List.set_cons_succ, List.take_succ_cons, List.take_zero, List.drop_succ_cons, List.drop_zero, List.cons_append, List.nil_append, List.append_nil, List.length_cons, List.length_nil, Nat.reduceAdd] at H'; clear H; have H := H'; clear H'
    refine s_run rfl rfl (ras rfl) ?_
    refine k_nc ?_
    refine k_rg ?_
    refine s_run rfl rfl (rms rfl) ?_
    refine s_run rfl rfl (rmi rfl) ?_
    refine s_run rfl rfl (rmi rfl) ?_
    refine s_run rfl rfl (r_shm (j := out.length) (j2 := out.length) rfl rfl rfl rfl rfl (by omega) (by omega) Try.underlying25 sz3) ?_
    refine s_run rfl rfl (rmi rfl) ?_
    refine s_bsO (enc := (Value.int .i64)) (zs := [x]) H rfl rfl rfl (by omega) (by kernel_rfl) Try.underlying25 inf3 ?_
    intro q5 _ H'; clear H; have H := H'; clear H'
    refine s_apG (enc := (Value.int .i64)) H ((hSo0.later H.only (by simp)).head out.length) ((by rw [List.length_take]; omega)) ((H.own_sees 0 rfl)) ((show ([x] : List Int).length = 1 from rfl)) (by omega) rfl rfl rfl (fun _ => rfl) (by omega) Try.underlying25 inf3 rfl ?_
    intro _ _ _ H'; clear H; have H := H'; clear H'
    refine s_run rfl rfl (rms rfl) ?_
    refine s_apW (enc := (Value.int .i64)) H 0 rfl rfl rfl rfl ((H.own_sees 2 rfl)) ((by simp)) (fun _ => rfl) (by omega) Try.underlying25 inf3 rfl ?_
    intro A2 c9 _ H'; simp only [List.set_cons_zero, List.set_cons_succ, List.take_succ_cons, List.take_zero, List.drop_succ_cons, List.drop_zero, List.cons_append, List.nil_append, List.append_nil, List.length_cons, List.length_nil, Nat.reduceAdd] at H'; clear H; have H := H'; clear H'
    refine s_run rfl rfl (ras rfl) ?_
    refine k_nil ?_
    refine b_norm ?_
    refine c_norm ?_
    refine k_rg ?_
    refine s_run rfl rfl (rmi rfl) ?_
    refine s_run rfl rfl (r_add rfl rfl (wI (by omega))) ?_
    refine s_run rfl rfl (rai rfl) ?_
    refine k_nil ?_
    refine c_round ?_
    rw [e3, hln] at H; exact ⟨_, _, by omega, rfl, i + 1, A2, c9, _, by omega, rfl, hst2.symm, H.own_fresh 0 rfl hFW, own_cap H 0 rfl, rfl, rfl, by rw [← hln]; rfl, rfl, rfl, HB.same H.only⟩
  ·obtain rfl : i = rn := by omega
   rw [show R.take i = R by rw [← hrl]; exact List.take_length] at hout
   refine k_seq ?_
   refine k_sg ?_
   refine s_run rfl rfl (rmi rfl) ?_
   refine s_run rfl rfl (rmi rfl) ?_
   refine s_run rfl rfl (rmi rfl) ?_
   refine s_run rfl rfl (r_fa0 rfl fo29_0) ?_
   refine s_run rfl rfl (r_ia (i := k) rfl rfl (by omega) (by omega) Try.underlying27 sz26) ?_
   refine s_run rfl rfl (r_ia1 (i := m) rfl rfl (by omega) (by omega) Try.underlying26 sz25) ?_
   refine s_run rfl rfl (r_lo (HB.same H.only) 0 rfl rfl hg ag25) ?_
   refine s_run rfl rfl (r_len rfl Try.underlying25) ?_
   refine s_run rfl rfl (r_lssF rfl rfl (by omega)) ?_
   refine k_nc ?_
   refine k_f rfl ?_
   refine k_exit ?_
   refine c_exit ?_
   refine c_exit ?_
   refine b_hit ?_
   refine b_norm ?_
   refine c_norm ?_
   refine k_rg ?_
   refine s_run rfl rfl (rmi rfl) ?_
   refine s_run rfl rfl (r_add rfl rfl (wI (by omega))) ?_
   refine s_run rfl rfl (rai rfl) ?_
   refine k_nil ?_
   refine c_round ?_
   refine ⟨_, _, ?_, rfl, m + 1, OA, oc, out, by omega, rfl, by rw [hout, preTo, hR], hSo.later H.only (by simp), hoc, rfl, rfl, rfl, rfl, HB.same H.only⟩
   omega
 ·obtain rfl : m = 5 := by omega
  rw [preTo_cls, sIns_fold] at hout
  refine k_seq ?_
  refine k_sg ?_
  refine s_run rfl rfl (rmi rfl) ?_
  refine s_call rfl (hC _) (ca56 rfl) ?_
  rintro e W1 ⟨rfl, H'⟩
  refine ⟨_, rfl, ?_⟩
  have H := H.same H'; replace hSo := hSo.later H' (by simp); clear H'
  refine s_run rfl rfl (rmb rfl) ?_
  refine s_run rfl (g_on 13 (by kernel_rfl) rfl) (rmi rfl) ?_
  refine s_run rfl (g_on 13 (by kernel_rfl) rfl) (r_lssF rfl rfl (by omega)) ?_
  refine s_run rfl rfl (r_pkT (v := .bool _) rfl rfl) ?_
  refine k_nc ?_
  refine k_f rfl ?_
  refine k_exit ?_
  refine c_exit ?_
  refine c_exit ?_
  refine b_hit ?_
  refine c_norm ?_
  refine k_sg ?_
  refine s_run rfl rfl (rms rfl) ?_
  refine s_run rfl rfl (ras rfl) ?_
  refine k_nc ?_
  refine k_ret ?_
  refine fin1r (v := .slice _ _ _) rfl rfl ?_
  rw [hout] at hSo
  exact ⟨OA, oc, by rw [hout], hSo, H.only⟩
end Go.Proofs.Ytlakbclnilakbaa
end

section
namespace Go.Proofs.Ytlakbclnilakbaa
open Go.RowKit
set_option maxRecDepth 100000
set_option maxHeartbeats 4000000
theorem fC_len (D : Nat → RowS) : (fC D).length = 160 := fnC_len _ _
theorem srt_memF (l : List Int) (z : Int) : z ∈ srt l ↔ z ∈ l := (srt_perm l).mem_iff
theorem fHas_list (S : FrS) (k a : Int) : fHas S k a = decide (a ∈ fList S k) := by
 unfold fHas fList
 cases hk : isC k with
 | false => simp
 | true => simp only [Bool.true_and, if_true]; rw [decide_eq_decide]; exact (srt_memF _ _).symm
theorem fList_len {K : List Nat} {w : World} {D : Nat → RowS} {N : Nat} (hD : DOk K w D N) (k : Int) : (fList (xsOf D) k).length ≤ 5 * N := by
 unfold fList
 cases hk : isC k with
 | false => simp
 | true =>
  obtain ⟨k, rfl, hk32⟩ := isC_nat hk
  rw [if_pos rfl, srt_len, Int.toNat_natCast, ← preTo_cls]
  refine preTo_len _ _ _ (fun i hi => ?_) hk32 5 (by omega)
  have h1 := hD.len i hi
  have h2 := hD.num i hi
  show (D i).xs.length ≤ N
  omega
theorem dHas {D : Nat → RowS} {N : Nat} {w : World} (hD : DOk [] w D N) (hN : N ≤ 10000) (k a : Int) :
  Calls Try.prog 11 [fV D, .int .i64 k, .int .i64 a].toArray w fun e w' => e = .returned (.bool (fHas (xsOf D) k a)) ∧ Only [] w w' := by
 have H := Heap.nil w
 have hL := fun {W : World} (h : Only [] w W) => dList (K := []) (hD.later h (by simp)) hN (by simp) k
 have hll := fList_len hD k
 rw [fHas_list]
 generalize fList (xsOf D) k = R at *
 unfold fV at *
 refine k_in (N := 24) Try.func11 rfl rfl rfl ?_
 refine k_sg ?_
 refine s_box H rfl rfl ?_
 intro p3 _ H'; clear H; have H := H'; clear H'
 refine s_run rfl rfl (rab rfl) ?_
 refine k_nc ?_
 refine k_sg ?_
 refine s_run rfl rfl (r_la H 0 rfl rfl (fC_len D) ag29 sz29) ?_
 refine s_run rfl rfl (rmi rfl) ?_
 refine s_call rfl (hL H.only) (ca14 rfl) ?_
 rintro e W1 ⟨RA, rc, rfl, hSR, H'⟩
 refine ⟨_, rfl, ?_⟩
 have H := H.same H'; clear H'
 refine s_run rfl rfl (ras rfl) ?_
 refine k_nc ?_
 refine k_seq ?_
 refine k_sg ?_
 refine s_run rfl rfl (rai rfl) ?_
 refine k_nc ?_
 refine k_b ?_
 have hSR0 := hSR
 refine k_loop (fun z f W => ∃ (i : Nat), i ≤ R.length ∧ z = R.length - i ∧ a ∉ R.take i ∧ Sees (Value.int .i64) W [] RA R ∧ f 2 = .int .i64 a ∧ f 7 = .slice RA R.length rc ∧ f 8 = .int .i64 i ∧ Heap w [] [] W) R.length ⟨0, by omega, rfl, by simp, hSR, rfl, rfl, rfl, H.drop⟩ ?_
 clear H hSR hSR0
 rintro z f W ⟨i, hi, rfl, hno, hSR, f2, f7, f8, H⟩
 obtain ⟨f, rfl⟩ := live3 f2 f7 f8
 clear f2 f7 f8
 by_cases hlt : i < R.length
 ·obtain ⟨y, hy⟩ : ∃ y, R[i]? = some y := ⟨_, List.getElem?_eq_getElem hlt⟩
  obtain ⟨b, o, rfl, _, hrd⟩ := hSR (by omega)
  have hc := hrd i y hy
  have hy3 : W.cell? ⟨b, o + i, none⟩ = some (Value.int .i64 y) := hc
  have hS2 := hSR
  have HB := H
  clear H
  have H := Heap.nil W
  by_cases e : y = a
  ·rw [decide_eq_true (show a ∈ R by rw [← e]; exact List.mem_of_getElem? hy)]
   refine k_seq ?_
   refine k_sg ?_
   refine s_run rfl rfl (rmi rfl) ?_
   refine s_run rfl rfl (rms rfl) ?_
   refine s_run rfl rfl (r_len rfl Try.underlying25) ?_
   refine s_run rfl rfl (r_lssT rfl rfl (by omega)) ?_
   refine k_nc ?_
   refine k_t rfl ?_
   refine k_skip ?_
   refine c_norm ?_
   refine k_seq ?_
   refine k_b ?_
   refine k_sg ?_
   refine s_run rfl rfl (rms rfl) ?_
   refine s_run rfl rfl (rmi rfl) ?_
   refine s_run rfl rfl (r_ix1o (i := i) rfl rfl (by omega) (by omega) Try.underlying25 sz3) ?_
   refine s_run rfl rfl (r_lr H rfl hc (by simp) ag3) ?_
   refine s_run rfl rfl (rmi rfl) ?_
   refine s_run rfl rfl (r_eqlT rfl rfl (by omega)) ?_
   refine k_nc ?_
   refine k_t rfl ?_
   refine k_sg ?_
   refine s_run rfl rfl (rab rfl) ?_
   refine k_nc ?_
   refine k_ret ?_
   refine b_ret ?_
   refine c_ret ?_
   refine c_ret ?_
   refine b_ret ?_
   refine c_ret ?_
   refine fin1r (v := .bool _) rfl rfl ?_
   exact ⟨rfl, (HB.same H.only).only⟩
  ·refine k_seq ?_
   refine k_sg ?_
   refine s_run rfl rfl (rmi rfl) ?_
   refine s_run rfl rfl (rms rfl) ?_
   refine s_run rfl rfl (r_len rfl Try.underlying25) ?_
   refine s_run rfl rfl (r_lssT rfl rfl (by omega)) ?_
   refine k_nc ?_
   refine k_t rfl ?_
   refine k_skip ?_
   refine c_norm ?_
   refine k_seq ?_
   refine k_b ?_
   refine k_sg ?_
   refine s_run rfl rfl (rms rfl) ?_
   refine s_run rfl rfl (rmi rfl) ?_
   refine s_run rfl rfl (r_ix1o (i := i) rfl rfl (by omega) (by omega) Try.underlying25 sz3) ?_
   refine s_run rfl rfl (r_lr H rfl hc (by simp) ag3) ?_
   refine s_run rfl rfl (rmi rfl) ?_
   refine s_run rfl rfl (r_eqlF rfl rfl (by omega)) ?_
   refine k_nc ?_
   refine k_f rfl ?_
   refine k_skip ?_
   refine b_norm ?_
   refine c_norm ?_
   refine k_rg ?_
   refine s_run rfl rfl (rmi rfl) ?_
   refine s_run rfl rfl (r_add rfl rfl (wI (by omega))) ?_
   refine s_run rfl rfl (rai rfl) ?_
   refine k_nil ?_
   refine c_round ?_
   refine ⟨_, _, ?_, rfl, i + 1, by omega, rfl, ?_, hSR.later H.only (by simp), rfl, rfl, rfl, HB.same H.only⟩
   ·omega
   ·rw [← tk_snoc hy]; simp [hno, Ne.symm e]
 ·obtain rfl : i = R.length := by omega
  rw [List.take_length] at hno
  rw [decide_eq_false hno]
  refine k_seq ?_
  refine k_sg ?_
  refine s_run rfl rfl (rmi rfl) ?_
  refine s_run rfl rfl (rms rfl) ?_
  refine s_run rfl rfl (r_len rfl Try.underlying25) ?_
  refine s_run rfl rfl (r_lssF rfl rfl (by omega)) ?_
  refine k_nc ?_
  refine k_f rfl ?_
  refine k_exit ?_
  refine c_exit ?_
  refine c_exit ?_
  refine b_hit ?_
  refine c_norm ?_
  refine k_sg ?_
  refine s_run rfl rfl (rab rfl) ?_
  refine k_nc ?_
  refine k_ret ?_
  refine fin1r (v := .bool _) rfl rfl ?_
  exact ⟨rfl, H.only⟩
theorem dPush {K : List Nat} {D : Nat → RowS} {N : Nat} {w : World} (hD : DOk K w D N) (hN : N ≤ 9000) (hK : ∀ i ∈ K, i < w.heap.size) (k a : Int) :
  Calls Try.prog 74 [fV D, .int .i64 k, .int .i64 a].toArray w fun e w' => ∃ D', e = .returned (.tuple [fV D', .int .i64 (fPush (xsOf D) k a).2].toArray) ∧ xsOf D' = (fPush (xsOf D) k a).1 ∧ DOk K w' D' (N + 1) ∧ Only [] w w' := by
 have H := Heap.nil w
 have hC := fun W => dClass k W
 have hD0 : DOk [] w D N := hD.mono (by simp) (Nat.le_refl _)
 have hHa := fun {W : World} (h : Only [] w W) => dHas (hD0.later h (by simp)) (by omega) k a
 have hD1 : DOk K w D (N + 1) := hD.mono (fun _ h => h) (by omega)
 unfold fPush fV at *
 cases hk : isC k with
 | false =>
  simp only [hk] at hC
  rw [if_pos rfl]
  refine k_in (N := 30) Try.func74 rfl rfl rfl ?_
  refine k_sg ?_
  refine s_box H rfl rfl ?_
  intro p3 _ H'; clear H; have H := H'; clear H'
  refine s_al H rfl inf29 ?_
  intro p6 _ H'; clear H; have H := H'; clear H'
  refine s_run rfl rfl (rai rfl) ?_
  refine k_nc ?_
  refine k_seq ?_
  refine k_sg ?_
  refine s_run rfl rfl (rmi rfl) ?_
  refine s_call rfl (hC _) (ca56 rfl) ?_
  rintro e W1 ⟨rfl, H'⟩
  refine ⟨_, rfl, ?_⟩
  have H := H.same H'; clear H'
  refine s_run rfl rfl (r_notF rfl) ?_
  refine k_nc ?_
  refine k_t rfl ?_
  refine k_sg ?_
  refine s_run rfl rfl (r_la H 1 rfl rfl (fC_len D) ag29 sz29) ?_
  refine s_sw H 0 rfl rfl rfl rfl rfl rfl rfl sz29 ?_
  clear H; intro _ H; simp only [jA, jB, jC, jD, jE, jF, jG, jH, jI, jJ, jK, Nat.reduceAdd] at H
  refine s_run rfl rfl (rai rfl) ?_
  refine k_nc ?_
  refine k_ret ?_
  refine c_ret ?_
  refine fx2r rfl (rv_a H 0 rfl rfl rfl ag29 sz29) (rv_t (v := .int _ _) rfl) ?_
  exact ⟨D, rfl, rfl, hD1.later H.only (by simp), H.only⟩
 | true =>
  simp only [hk] at hC
  rw [if_neg (by simp)]
  obtain ⟨k, rfl, hk32⟩ := isC_nat hk
  rw [Int.toNat_natCast]
  cases hh : fHas (xsOf D) k a with
  | true =>
   simp only [hh] at hHa
   rw [if_pos rfl]
   refine k_in (N := 30) Try.func74 rfl rfl rfl ?_
   refine k_sg ?_
   refine s_box H rfl rfl ?_
   intro p3 _ H'; clear H; have H := H'; clear H'
   refine s_al H rfl inf29 ?_
   intro p6 _ H'; clear H; have H := H'; clear H'
   refine s_run rfl rfl (rai rfl) ?_
   refine k_nc ?_
   refine k_seq ?_
   refine k_sg ?_
   refine s_run rfl rfl (rmi rfl) ?_
   refine s_call rfl (hC _) (ca56 rfl) ?_
   rintro e W1 ⟨rfl, H'⟩
   refine ⟨_, rfl, ?_⟩
   have H := H.same H'; clear H'
   refine s_run rfl rfl (r_notT rfl) ?_
   refine k_nc ?_
   refine k_f rfl ?_
   refine k_skip ?_
   refine c_norm ?_
   refine k_seq ?_
   refine k_sg ?_
   refine s_run rfl rfl (r_la H 1 rfl rfl (fC_len D) ag29 sz29) ?_
   refine s_run rfl rfl (rmi rfl) ?_
   refine s_run rfl rfl (rmi rfl) ?_
   refine s_call rfl (hHa H.only) (ca11 rfl) ?_
   rintro e W1 ⟨rfl, H'⟩
   refine ⟨_, rfl, ?_⟩
   have H := H.same H'; clear H'
   refine k_nc ?_
   refine k_t rfl ?_
   refine k_sg ?_
   refine s_run rfl rfl (r_la H 1 rfl rfl (fC_len D) ag29 sz29) ?_
   refine s_sw H 0 rfl rfl rfl rfl rfl rfl rfl sz29 ?_
   clear H; intro _ H; simp only [jA, jB, jC, jD, jE, jF, jG, jH, jI, jJ, jK, Nat.reduceAdd] at H
   refine s_run rfl rfl (rai rfl) ?_
   refine k_nc ?_
   refine k_ret ?_
   refine c_ret ?_
   refine fx2r rfl (rv_a H 0 rfl rfl rfl ag29 sz29) (rv_t (v := .int _ _) rfl) ?_
   exact ⟨D, rfl, rfl, hD1.later H.only (by simp), H.only⟩
  | false =>
   simp only [hh] at hHa
   rw [if_neg (by simp)]
   have hg := dgt (D := D) (m := 0) hk32 (by omega)
   rw [show k * 5 + 0 = k * 5 by omega] at hg
   have hn := hD.num (k * 5) (by omega)
   have hcell := fun {A2 : Option Addr} {c2 : Nat} => fC_set (D := D) (m := 0) (r := ⟨A2, (D (k * 5)).n + 1, c2, (D (k * 5)).xs ++ [a]⟩) hk32 (by omega)
   simp only [show k * 5 + 0 = k * 5 by omega] at hcell
   refine k_in (N := 30) Try.func74 rfl rfl rfl ?_
   refine k_sg ?_
   refine s_box H rfl rfl ?_
   intro p3 _ H'; clear H; have H := H'; clear H'
   refine s_al H rfl inf29 ?_
   intro p6 _ H'; clear H; have H := H'; clear H'
   refine s_run rfl rfl (rai rfl) ?_
   refine k_nc ?_
   refine k_seq ?_
   refine k_sg ?_
   refine s_run rfl rfl (rmi rfl) ?_
   refine s_call rfl (hC _) (ca56 rfl) ?_
   rintro e W1 ⟨rfl, H'⟩
   refine ⟨_, rfl, ?_⟩
   have H := H.same H'; clear H'
   refine s_run rfl rfl (r_notT rfl) ?_
   refine k_nc ?_
   refine k_f rfl ?_
   refine k_skip ?_
   refine c_norm ?_
   refine k_seq ?_
   refine k_sg ?_
   refine s_run rfl rfl (r_la H 1 rfl rfl (fC_len D) ag29 sz29) ?_
   refine s_run rfl rfl (rmi rfl) ?_
   refine s_run rfl rfl (rmi rfl) ?_
   refine s_call rfl (hHa H.only) (ca11 rfl) ?_
   rintro e W1 ⟨rfl, H'⟩
   refine ⟨_, rfl, ?_⟩
   have H := H.same H'; clear H'
   refine k_nc ?_
   refine k_f rfl ?_
   refine k_skip ?_
   refine c_norm ?_
   refine k_seq ?_
   refine k_trF mixed ?_; have H' := H.drew; clear H; have H := H'; clear H'
   refine tqh 0 rfl rfl rfl (fun _ hS => r_mv (v := .int _ _) rfl) trivial ?_
   refine tqh 1 rfl rfl rfl (fun _ hS => r_mv (v := .int _ _) rfl) trivial ?_
   refine tqh 2 rfl rfl rfl (fun _ hS => r_fa0 rfl fo29_0) trivial ?_
   refine tqh 3 rfl rfl rfl (fun _ hS => r_ia (i := k) rfl rfl (by omega) (by omega) Try.underlying27 sz26) trivial ?_
   refine tqh 4 rfl rfl rfl (fun _ hS => r_ia1 (i := 0) rfl rfl (by omega) (by omega) Try.underlying26 sz25) trivial ?_
   refine tqh 6 rfl rfl rfl (fun _ hS => r_mv (v := .int _ _) rfl) trivial ?_
   refine tqh 9 rfl rfl rfl (fun _ hS => r_fa0 rfl fo29_0) trivial ?_
   refine tqh 10 rfl rfl rfl (fun _ hS => r_ia (i := k) rfl rfl (by omega) (by omega) Try.underlying27 sz26) trivial ?_
   refine t_up2 5 7 (by kernel_rfl) ?_ ?_
   ·refine up_mk rfl ?_
    refine s_run rfl rfl (r_lo H 1 rfl rfl hg ag25) ?_
    refine k_nil ?_
    refine t_on trivial ?_
    refine t_up1 7 (by kernel_rfl) ?_
    refine up_mk rfl ?_
    refine s_bsO (enc := (Value.int .i64)) (zs := [a]) H rfl rfl rfl (by omega) (by kernel_rfl) Try.underlying25 inf3 ?_
    intro q7 _ H'; clear H; have H := H'; clear H'
    refine k_nil ?_
    refine t_on trivial ?_
    refine t_up1 8 (by kernel_rfl) ?_
    refine up_mk rfl ?_
    refine s_call rfl (dJoin ((hD0.sees (k * 5) (by omega)).later H.only (by simp)) (own_seesC H 0 rfl) (hD.len (k * 5) (by omega)) (show [a].length = 1 from rfl) ⟨by omega, by omega⟩) (ca97 rfl) ?_
    rintro e W1 ⟨A2, c2, rfl, H'⟩
    refine ⟨_, rfl, ?_⟩
    have H := H.more H'; clear H'; simp only [List.cons_append, List.nil_append] at H
    refine k_nil ?_
    refine t_on trivial ?_
    refine tqh 11 rfl rfl rfl (fun _ hS => r_ia1 (i := 0) rfl rfl (by omega) (by omega) Try.underlying26 sz25) trivial ?_
    refine t_up1 12 (by kernel_rfl) ?_
    refine up_mk rfl ?_
    refine s_stC H 3 rfl rfl rfl rfl hg hcell rfl sz25 ?_
    clear H; intro _ H; simp only [jA, jB, jC, jD, jE, jF, jG, jH, jI, jJ, jK, Nat.reduceAdd] at H
    refine k_nil ?_
    refine t_on trivial ?_
    refine t_done (by kernel_rfl) ?_
    refine c_norm ?_
    refine k_sg ?_
    refine s_run rfl rfl (r_la H 3 rfl rfl (fC_len _) ag29 sz29) ?_
    refine s_sw H 2 rfl rfl rfl rfl rfl rfl rfl sz29 ?_
    clear H; intro _ H; simp only [jA, jB, jC, jD, jE, jF, jG, jH, jI, jJ, jK, Nat.reduceAdd] at H
    refine s_run rfl rfl (rai rfl) ?_
    refine k_nc ?_
    refine k_ret ?_
    refine fx2r rfl (rv_a H 2 rfl rfl rfl ag29 sz29) (rv_t (v := .int _ _) rfl) ?_
    exact ⟨_, rfl, by rw [xsOf_upd]; rfl, (hD1.later H.only (by simp)).upd (r := ⟨A2, (D (k * 5)).n + 1, c2, (D (k * 5)).xs ++ [a]⟩) (H.own_fresh 0 rfl hK) (by rw [List.length_append, hD.len (k * 5) (by omega)]; rfl) (own_cap H 0 rfl) (by show (D (k * 5)).n + 1 ≤ _; omega), H.only⟩
   ·refine up_mk rfl ?_
    refine s_bsO (enc := (Value.int .i64)) (zs := [a]) H rfl rfl rfl (by omega) (by kernel_rfl) Try.underlying25 inf3 ?_
    intro q7 _ H'; clear H; have H := H'; clear H'
    refine k_nil ?_
    refine t_on trivial ?_
    refine t_up1 5 (by kernel_rfl) ?_
    refine up_mk rfl ?_
    refine s_run rfl rfl (r_lo H 2 rfl rfl hg ag25) ?_
    refine k_nil ?_
    refine t_on trivial ?_
    refine t_up1 8 (by kernel_rfl) ?_
    refine up_mk rfl ?_
    refine s_call rfl (dJoin ((hD0.sees (k * 5) (by omega)).later H.only (by simp)) (own_seesC H 0 rfl) (hD.len (k * 5) (by omega)) (show [a].length = 1 from rfl) ⟨by omega, by omega⟩) (ca97 rfl) ?_
    rintro e W1 ⟨A2, c2, rfl, H'⟩
    refine ⟨_, rfl, ?_⟩
    have H := H.more H'; clear H'; simp only [List.cons_append, List.nil_append] at H
    refine k_nil ?_
    refine t_on trivial ?_
    refine tqh 11 rfl rfl rfl (fun _ hS => r_ia1 (i := 0) rfl rfl (by omega) (by omega) Try.underlying26 sz25) trivial ?_
    refine t_up1 12 (by kernel_rfl) ?_
    refine up_mk rfl ?_
    refine s_stC H 3 rfl rfl rfl rfl hg hcell rfl sz25 ?_
    clear H; intro _ H; simp only [jA, jB, jC, jD, jE, jF, jG, jH, jI, jJ, jK, Nat.reduceAdd] at H
    refine k_nil ?_
    refine t_on trivial ?_
    refine t_done (by kernel_rfl) ?_
    refine c_norm ?_
    refine k_sg ?_
    refine s_run rfl rfl (r_la H 3 rfl rfl (fC_len _) ag29 sz29) ?_
    refine s_sw H 2 rfl rfl rfl rfl rfl rfl rfl sz29 ?_
    clear H; intro _ H; simp only [jA, jB, jC, jD, jE, jF, jG, jH, jI, jJ, jK, Nat.reduceAdd] at H
    refine s_run rfl rfl (rai rfl) ?_
    refine k_nc ?_
    refine k_ret ?_
    refine fx2r rfl (rv_a H 2 rfl rfl rfl ag29 sz29) (rv_t (v := .int _ _) rfl) ?_
    exact ⟨_, rfl, by rw [xsOf_upd]; rfl, (hD1.later H.only (by simp)).upd (r := ⟨A2, (D (k * 5)).n + 1, c2, (D (k * 5)).xs ++ [a]⟩) (H.own_fresh 0 rfl hK) (by rw [List.length_append, hD.len (k * 5) (by omega)]; rfl) (own_cap H 0 rfl) (by show (D (k * 5)).n + 1 ≤ _; omega), H.only⟩
end Go.Proofs.Ytlakbclnilakbaa
end

section
namespace Go.Proofs.Ytlakbclnilakbaa
open Go.RowKit
set_option maxRecDepth 100000
set_option maxHeartbeats 4000000
theorem imax (a b : Int) : (if a < b then b else a) = max a b := by split <;> omega
theorem dgO {k m : Nat} (hk : k < 32) (hm : m < 4) (E : Nat → RowS) : (fC E)[0 + k * 5 + (1 + m)]? = some (.slice (E (k * 5 + 1 + m)).A (E (k * 5 + 1 + m)).n (E (k * 5 + 1 + m)).c) := by
 have := dgt (D := E) (m := 1 + m) hk (by omega)
 rw [this, show k * 5 + (1 + m) = k * 5 + 1 + m by omega]
theorem dgG {k : Nat} (hk : k < 32) (E : Nat → RowS) : (fC E)[0 + k * 5 + 0]? = some (.slice (E (k * 5)).A (E (k * 5)).n (E (k * 5)).c) := dgt (D := E) (m := 0) hk (by omega)
theorem dsO {k m : Nat} (hk : k < 32) (hm : m < 4) (E : Nat → RowS) (r : RowS) : (fC E).set (0 + k * 5 + (1 + m)) (.slice r.A r.n r.c) = fC (updR E (k * 5 + 1 + m) r) := by
 rw [fC_set (D := E) (m := 1 + m) hk (by omega), show k * 5 + (1 + m) = k * 5 + 1 + m by omega]
theorem dsG {k : Nat} (hk : k < 32) (E : Nat → RowS) (r : RowS) : (fC E).set (0 + k * 5 + 0) (.slice r.A r.n r.c) = fC (updR E (k * 5) r) := fC_set (D := E) (m := 0) hk (by omega)
theorem dTake {K : List Nat} {D : Nat → RowS} {N : Nat} {w : World} (hD : DOk K w D N) (hN : N ≤ 9000) (hK : ∀ i ∈ K, i < w.heap.size) (m k : Int) :
  Calls Try.prog 75 [fV D, .int .i64 m, .int .i64 k].toArray w fun e w' => ∃ D', e = .returned (.tuple [fV D', .int .i64 (fTake (xsOf D) m k).2.1, .int .i64 (fTake (xsOf D) m k).2.2].toArray) ∧ xsOf D' = (fTake (xsOf D) m k).1 ∧ DOk K w' D' N ∧ Only [] w w' := by
 have H := Heap.nil w
 have hC := fun W => dClass k W
 have hM := fun W => dOwner m W
 have hD0 : DOk [] w D N := hD.mono (by simp) (Nat.le_refl _)
 unfold fTake fV at *
 cases hk : isC k with
 | false =>
  simp only [hk] at hC
  rw [if_pos (.inr rfl)]
  refine k_in (N := 87) Try.func75 rfl rfl rfl ?_
  refine k_sg ?_
  refine s_box H rfl rfl ?_
  intro p3 _ H'; clear H; have H := H'; clear H'
  refine s_al H rfl inf29 ?_
  intro p6 _ H'; clear H; have H := H'; clear H'
  refine s_run rfl rfl (rai rfl) ?_
  refine s_run rfl rfl (rai rfl) ?_
  refine k_nc ?_
  refine k_seq ?_
  refine k_sg ?_
  refine s_run rfl rfl (rmi rfl) ?_
  refine s_call rfl (hC _) (ca56 rfl) ?_
  rintro e W1 ⟨rfl, H'⟩
  refine ⟨_, rfl, ?_⟩
  have H := H.same H'; clear H'
  refine s_run rfl rfl (r_notF rfl) ?_
  refine s_run rfl rfl (rmb rfl) ?_
  refine s_off rfl (g_off 16 (by kernel_rfl) rfl rfl) ?_
  refine s_off rfl (g_off 16 (by kernel_rfl) rfl rfl) ?_
  refine s_off rfl (g_off 16 (by kernel_rfl) rfl rfl) ?_
  refine s_run rfl rfl (r_pkT (v := .bool _) rfl rfl) ?_
  refine k_nc ?_
  refine k_t rfl ?_
  refine k_sg ?_
  refine s_run rfl rfl (r_la H 1 rfl rfl (fC_len D) ag29 sz29) ?_
  refine s_sw H 0 rfl rfl rfl rfl rfl rfl rfl sz29 ?_
  clear H; intro _ H; simp only [jA, jB, jC, jD, jE, jF, jG, jH, jI, jJ, jK, Nat.reduceAdd] at H
  refine s_run rfl rfl (rai rfl) ?_
  refine s_run rfl rfl (rai rfl) ?_
  refine k_nc ?_
  refine k_ret ?_
  refine c_ret ?_
  refine fx3r rfl (rv_a H 0 rfl rfl rfl ag29 sz29) (rv_t (v := .int _ _) rfl) (rv_t (v := .int _ _) rfl) ?_
  exact ⟨D, rfl, rfl, hD.later H.only (by simp), H.only⟩
 | true =>
 cases hm : isM m with
 | false =>
  simp only [hk] at hC
  simp only [hm] at hM
  rw [if_pos (.inl rfl)]
  refine k_in (N := 87) Try.func75 rfl rfl rfl ?_
  refine k_sg ?_
  refine s_box H rfl rfl ?_
  intro p3 _ H'; clear H; have H := H'; clear H'
  refine s_al H rfl inf29 ?_
  intro p6 _ H'; clear H; have H := H'; clear H'
  refine s_run rfl rfl (rai rfl) ?_
  refine s_run rfl rfl (rai rfl) ?_
  refine k_nc ?_
  refine k_seq ?_
  refine k_sg ?_
  refine s_run rfl rfl (rmi rfl) ?_
  refine s_call rfl (hC _) (ca56 rfl) ?_
  rintro e W1 ⟨rfl, H'⟩
  refine ⟨_, rfl, ?_⟩
  have H := H.same H'; clear H'
  refine s_run rfl rfl (r_notT rfl) ?_
  refine s_run rfl rfl (rmb rfl) ?_
  refine s_run rfl (g_on 16 (by kernel_rfl) rfl) (rmi rfl) ?_
  refine s_call (g_on 16 (by kernel_rfl) rfl) (hM _) (ca81 rfl) ?_
  rintro e W1 ⟨rfl, H'⟩
  refine ⟨_, rfl, ?_⟩
  have H := H.same H'; clear H'
  refine s_run rfl (g_on 16 (by kernel_rfl) rfl) (r_notF rfl) ?_
  refine s_run rfl rfl (r_pkF (v := .bool _) rfl rfl) ?_
  refine k_nc ?_
  refine k_t rfl ?_
  refine k_sg ?_
  refine s_run rfl rfl (r_la H 1 rfl rfl (fC_len D) ag29 sz29) ?_
  refine s_sw H 0 rfl rfl rfl rfl rfl rfl rfl sz29 ?_
  clear H; intro _ H; simp only [jA, jB, jC, jD, jE, jF, jG, jH, jI, jJ, jK, Nat.reduceAdd] at H
  refine s_run rfl rfl (rai rfl) ?_
  refine s_run rfl rfl (rai rfl) ?_
  refine k_nc ?_
  refine k_ret ?_
  refine c_ret ?_
  refine fx3r rfl (rv_a H 0 rfl rfl rfl ag29 sz29) (rv_t (v := .int _ _) rfl) (rv_t (v := .int _ _) rfl) ?_
  exact ⟨D, rfl, rfl, hD.later H.only (by simp), H.only⟩
 | true =>
  simp only [hk] at hC
  simp only [hm] at hM
  rw [if_neg (by simp)]
  obtain ⟨k, rfl, hk32⟩ := isC_nat hk
  obtain ⟨m, rfl, hm4⟩ := isM_nat hm
  rw [Int.toNat_natCast, Int.toNat_natCast]
  have hgo := dgO hk32 hm4
  have hgg := dgG hk32
  have hso := dsO hk32 hm4
  have hsg := dsG hk32
  have olen := hD.len (k * 5 + 1 + m) (by omega)
  have onum := hD.num (k * 5 + 1 + m) (by omega)
  have ocap := hD.cap (k * 5 + 1 + m) (by omega)
  have osee := hD.sees (k * 5 + 1 + m) (by omega)
  have glen := hD.len (k * 5) (by omega)
  have gnum := hD.num (k * 5) (by omega)
  have gcap := hD.cap (k * 5) (by omega)
  have gsee := hD.sees (k * 5) (by omega)
  have hgoD := hgo D
  have hggD := hgg D
  obtain ⟨oA, on, oc, oxs, ho⟩ : ∃ A n c xs, D (k * 5 + 1 + m) = ⟨A, n, c, xs⟩ := ⟨_, _, _, _, rfl⟩
  obtain ⟨gA, gn, gc, gxs, hg⟩ : ∃ A n c xs, D (k * 5) = ⟨A, n, c, xs⟩ := ⟨_, _, _, _, rfl⟩
  rw [ho] at olen onum ocap osee hgoD
  rw [hg] at glen gnum gcap gsee hggD
  simp only at olen onum ocap osee hgoD glen gnum gcap gsee hggD
  have eo : xsOf D (k * 5 + 1 + m) = oxs := by unfold xsOf; rw [ho]
  have eg : xsOf D (k * 5) = gxs := by unfold xsOf; rw [hg]
  unfold fFill
  rw [eo, eg]
  by_cases h0 : on = 0
  ·have hx : oxs = [] := List.eq_nil_of_length_eq_zero (by omega)
   rw [if_pos hx, updS_at, glen]
   obtain ⟨fr, hfr⟩ : ∃ fr, gn - 4 = fr := ⟨_, rfl⟩
   have hmx : max (0 : Int) ((gn : Int) - 4) = (fr : Int) := by omega
   rw [hfr]
   have hdl : (gxs.drop fr).length = gn - fr := by rw [List.length_drop, glen]
   have hsd : Sees (Value.int .i64) w [] (sloA gA gc fr 1) (gxs.drop fr) := (gsee.mono (by simp)).slo fr (by omega)
   have e1 := fun {C : Option Addr} {q : Nat} => hso (updR D (k * 5) ⟨gA, fr, fr, gxs.take fr⟩) ⟨C, 0 + (gn - fr), q, gxs.drop fr⟩
   have e2 := hsg D ⟨gA, fr, fr, gxs.take fr⟩
   have e3 := fun {C : Option Addr} {q : Nat} => hgo (updR (updR D (k * 5) ⟨gA, fr, fr, gxs.take fr⟩) (k * 5 + 1 + m) ⟨C, 0 + (gn - fr), q, gxs.drop fr⟩)
   simp only [updR_at] at e3
   have hDf : ∀ {C : Option Addr} {q : Nat} {I : List Ent} {W : World} (H : Heap w [] (ownN 1 (.slice C (0 + (gn - fr)) q) (0 + (gn - fr)) ((gxs.drop fr).map (Value.int .i64)) 3 :: I) W), DOk K W (updR (updR D (k * 5) ⟨gA, fr, fr, gxs.take fr⟩) (k * 5 + 1 + m) ⟨C, 0 + (gn - fr), q, gxs.drop fr⟩) N := fun H =>
    ((hD.later H.only (by simp)).upd (r := ⟨gA, fr, fr, gxs.take fr⟩) ((gsee.head fr).later H.only (by simp)) (by rw [List.length_take]; show min fr _ = fr; omega) (Nat.le_refl _) (by show fr ≤ _; omega)).upd (H.own_fresh 0 rfl hK) (by rw [hdl]; show _ = 0 + (gn - fr); omega) (own_cap H 0 rfl) (by show 0 + (gn - fr) ≤ _; omega)
   by_cases hg0 : gn = 0
   ·rw [if_pos (List.eq_nil_of_length_eq_zero (by omega))]
    refine k_in (N := 87) Try.func75 rfl rfl rfl ?_
    refine k_sg ?_
    refine s_box H rfl rfl ?_
    intro p3 _ H'; clear H; have H := H'; clear H'
    refine s_al H rfl inf29 ?_
    intro p6 _ H'; clear H; have H := H'; clear H'
    refine s_run rfl rfl (rai rfl) ?_
    refine s_run rfl rfl (rai rfl) ?_
    refine k_nc ?_
    refine k_seq ?_
    refine k_sg ?_
    refine s_run rfl rfl (rmi rfl) ?_
    refine s_call rfl (hC _) (ca56 rfl) ?_
    rintro e W1 ⟨rfl, H'⟩
    refine ⟨_, rfl, ?_⟩
    have H := H.same H'; clear H'
    refine s_run rfl rfl (r_notT rfl) ?_
    refine s_run rfl rfl (rmb rfl) ?_
    refine s_run rfl (g_on 16 (by kernel_rfl) rfl) (rmi rfl) ?_
    refine s_call (g_on 16 (by kernel_rfl) rfl) (hM _) (ca81 rfl) ?_
    rintro e W1 ⟨rfl, H'⟩
    refine ⟨_, rfl, ?_⟩
    have H := H.same H'; clear H'
    refine s_run rfl (g_on 16 (by kernel_rfl) rfl) (r_notT rfl) ?_
    refine s_run rfl rfl (r_pkF (v := .bool _) rfl rfl) ?_
    refine k_nc ?_
    refine k_f rfl ?_
    refine k_skip ?_
    refine c_norm ?_
    refine k_seq ?_
    refine k_sg ?_
    refine s_run rfl rfl (rmi rfl) ?_
    refine s_run rfl rfl (rmi rfl) ?_
    refine s_run rfl rfl (r_add rfl rfl (wI (by omega))) ?_
    refine s_run rfl rfl (r_fa0 rfl fo29_0) ?_
    refine s_run rfl rfl (r_ia (i := k) rfl rfl (by omega) (by omega) Try.underlying27 sz26) ?_
    refine s_run rfl rfl (r_ia1 (i := (1 + m)) rfl rfl (by omega) (by omega) Try.underlying26 sz25) ?_
    refine s_run rfl rfl (r_lo H 1 rfl rfl hgoD ag25) ?_
    refine s_run rfl rfl (r_len rfl Try.underlying25) ?_
    refine s_run rfl rfl (r_eqlT rfl rfl (by omega)) ?_
    refine k_nc ?_
    refine k_t rfl ?_
    refine k_sg ?_
    refine s_run rfl rfl (rmi rfl) ?_
    refine s_run rfl rfl (r_fa0 rfl fo29_0) ?_
    refine s_run rfl rfl (r_ia (i := k) rfl rfl (by omega) (by omega) Try.underlying27 sz26) ?_
    refine s_run rfl rfl (r_ia1 (i := 0) rfl rfl (by omega) (by omega) Try.underlying26 sz25) ?_
    refine s_run rfl rfl (r_lo H 1 rfl rfl hggD ag25) ?_
    refine s_run rfl rfl (ras rfl) ?_
    refine k_nc ?_
    refine k_sg ?_
    refine s_run rfl rfl (rms rfl) ?_
    refine s_run rfl rfl (r_len rfl Try.underlying25) ?_
    refine s_run rfl rfl (r_sub rfl rfl (wI (by omega))) ?_
    refine s_run rfl rfl (r_max rfl rfl (imax _ _)) ?_
    refine s_run rfl rfl (rai rfl) ?_
    refine k_nc ?_
    refine k_trF mixed ?_; have H' := H.drew; clear H; have H := H'; clear H'
    refine tqh 0 rfl rfl rfl (fun _ hS => r_mv (v := .int _ _) rfl) trivial ?_
    refine tqh 1 rfl rfl rfl (fun _ hS => r_mv (v := .int _ _) rfl) trivial ?_
    refine tqh 2 rfl rfl rfl (fun _ hS => r_mv (v := .int _ _) rfl) trivial ?_
    refine tqh 3 rfl rfl rfl (fun _ hS => r_add rfl rfl (wI (by omega))) trivial ?_
    refine tqh 4 rfl rfl rfl (fun _ hS => r_mv (v := .slice _ _ _) rfl) trivial ?_
    refine tqh 5 rfl rfl rfl (fun _ hS => r_mv (v := .int _ _) rfl) trivial ?_
    refine tqh 6 rfl rfl rfl (fun _ hS => r_mv (v := .int _ _) rfl) trivial ?_
    refine tqh 7 rfl rfl rfl (fun _ hS => r_shm (j := fr) (j2 := fr) rfl rfl hmx rfl hmx (by omega) (by omega) Try.underlying25 sz3) trivial ?_
    refine tqh 8 rfl rfl rfl (fun _ hS => r_mv (v := .slice _ _ _) rfl) trivial ?_
    refine tqh 9 rfl rfl rfl (fun _ hS => r_mv (v := .int _ _) rfl) trivial ?_
    refine tqh 10 rfl rfl rfl (fun _ hS => r_sloA (i := fr) rfl rfl hmx (by omega) Try.underlying25 sz3) trivial ?_
    refine tqh 12 rfl rfl rfl (fun _ hS => r_fa0 rfl fo29_0) trivial ?_
    refine tqh 13 rfl rfl rfl (fun _ hS => r_ia (i := k) rfl rfl (by omega) (by omega) Try.underlying27 sz26) trivial ?_
    refine tqh 14 rfl rfl rfl (fun _ hS => r_ia1 (i := 0) rfl rfl (by omega) (by omega) Try.underlying26 sz25) trivial ?_
    refine tqh 16 rfl rfl rfl (fun _ hS => r_fa0 rfl fo29_0) trivial ?_
    refine tqh 17 rfl rfl rfl (fun _ hS => r_ia (i := k) rfl rfl (by omega) (by omega) Try.underlying27 sz26) trivial ?_
    refine t_up1 11 (by kernel_rfl) ?_
    refine up_mk rfl ?_
    refine s_call rfl (dJoin (A := none) (n := 0) (xs := []) Sees.nil (hsd.later H.only (by simp)) rfl hdl ⟨by omega, by omega⟩) (ca97 rfl) ?_
    rintro e W1 ⟨C, q, rfl, H'⟩
    refine ⟨_, rfl, ?_⟩
    have H := H.more H'; clear H'; simp only [List.cons_append, List.nil_append] at H; have hq := own_cap H 0 rfl
    refine k_nil ?_
    refine t_on trivial ?_
    refine t_up1 15 (by kernel_rfl) ?_
    refine up_mk rfl ?_
    refine s_stC H 2 rfl rfl rfl rfl hggD e2 rfl sz25 ?_
    clear H; intro _ H; simp only [jA, jB, jC, jD, jE, jF, jG, jH, jI, jJ, jK, Nat.reduceAdd] at H
    refine k_nil ?_
    refine t_on trivial ?_
    refine tqh 18 rfl rfl rfl (fun _ hS => r_ia1 (i := (1 + m)) rfl rfl (by omega) (by omega) Try.underlying26 sz25) trivial ?_
    refine t_up1 19 (by kernel_rfl) ?_
    refine up_mk rfl ?_
    refine s_stC H 2 rfl rfl rfl rfl (by rw [hgo, updR_off _ _ (by omega), ho]) e1 rfl sz25 ?_
    clear H; intro _ H; simp only [jA, jB, jC, jD, jE, jF, jG, jH, jI, jJ, jK, Nat.reduceAdd] at H
    refine k_nil ?_
    refine t_on trivial ?_
    refine t_done (by kernel_rfl) ?_
    refine c_norm ?_
    refine k_sg ?_
    refine s_run rfl rfl (rmi rfl) ?_
    refine s_run rfl rfl (rmi rfl) ?_
    refine s_run rfl rfl (r_add rfl rfl (wI (by omega))) ?_
    refine s_run rfl rfl (r_fa0 rfl fo29_0) ?_
    refine s_run rfl rfl (r_ia (i := k) rfl rfl (by omega) (by omega) Try.underlying27 sz26) ?_
    refine s_run rfl rfl (r_ia1 (i := (1 + m)) rfl rfl (by omega) (by omega) Try.underlying26 sz25) ?_
    refine s_run rfl rfl (r_lo H 2 rfl rfl e3 ag25) ?_
    refine s_run rfl rfl (ras rfl) ?_
    refine k_nc ?_
    refine k_seq ?_
    refine k_sg ?_
    refine s_run rfl rfl (rms rfl) ?_
    refine s_run rfl rfl (r_len rfl Try.underlying25) ?_
    refine s_run rfl rfl (r_eqlT rfl rfl (by omega)) ?_
    refine k_nc ?_
    refine k_t rfl ?_
    refine k_sg ?_
    refine s_run rfl rfl (r_la H 2 rfl rfl (fC_len _) ag29 sz29) ?_
    refine s_sw H 1 rfl rfl rfl rfl rfl rfl rfl sz29 ?_
    clear H; intro _ H; simp only [jA, jB, jC, jD, jE, jF, jG, jH, jI, jJ, jK, Nat.reduceAdd] at H
    refine s_run rfl rfl (rai rfl) ?_
    refine s_run rfl rfl (rai rfl) ?_
    refine k_nc ?_
    refine k_ret ?_
    refine c_ret ?_
    refine fx3r rfl (rv_a H 1 rfl rfl rfl ag29 sz29) (rv_t (v := .int _ _) rfl) (rv_t (v := .int _ _) rfl) ?_
    exact ⟨_, rfl, by rw [xsOf_upd, xsOf_upd], hDf H, H.only⟩
   ·obtain ⟨n2, hn2⟩ : ∃ n2, gn - fr = n2 + 1 := ⟨gn - fr - 1, by omega⟩
    rw [if_neg (fun e => by rw [e] at hdl; simp at hdl; omega), hdl, hn2, show n2 + 1 - 1 = n2 by omega]
    obtain ⟨x, hxn⟩ : ∃ x, (gxs.drop fr)[n2]? = some x := ⟨_, List.getElem?_eq_getElem (by omega)⟩
    rw [show (gxs.drop fr).getD n2 0 = x by rw [List.getD_eq_getElem?_getD, hxn]; rfl]
    have e4 := fun {C : Option Addr} {q : Nat} => hso (updR (updR D (k * 5) ⟨gA, fr, fr, gxs.take fr⟩) (k * 5 + 1 + m) ⟨C, 0 + (gn - fr), q, gxs.drop fr⟩) ⟨C, n2, n2, (gxs.drop fr).take n2⟩
    refine k_in (N := 87) Try.func75 rfl rfl rfl ?_
    refine k_sg ?_
    refine s_box H rfl rfl ?_
    intro p3 _ H'; clear H; have H := H'; clear H'
    refine s_al H rfl inf29 ?_
    intro p6 _ H'; clear H; have H := H'; clear H'
    refine s_run rfl rfl (rai rfl) ?_
    refine s_run rfl rfl (rai rfl) ?_
    refine k_nc ?_
    refine k_seq ?_
    refine k_sg ?_
    refine s_run rfl rfl (rmi rfl) ?_
    refine s_call rfl (hC _) (ca56 rfl) ?_
    rintro e W1 ⟨rfl, H'⟩
    refine ⟨_, rfl, ?_⟩
    have H := H.same H'; clear H'
    refine s_run rfl rfl (r_notT rfl) ?_
    refine s_run rfl rfl (rmb rfl) ?_
    refine s_run rfl (g_on 16 (by kernel_rfl) rfl) (rmi rfl) ?_
    refine s_call (g_on 16 (by kernel_rfl) rfl) (hM _) (ca81 rfl) ?_
    rintro e W1 ⟨rfl, H'⟩
    refine ⟨_, rfl, ?_⟩
    have H := H.same H'; clear H'
    refine s_run rfl (g_on 16 (by kernel_rfl) rfl) (r_notT rfl) ?_
    refine s_run rfl rfl (r_pkF (v := .bool _) rfl rfl) ?_
    refine k_nc ?_
    refine k_f rfl ?_
    refine k_skip ?_
    refine c_norm ?_
    refine k_seq ?_
    refine k_sg ?_
    refine s_run rfl rfl (rmi rfl) ?_
    refine s_run rfl rfl (rmi rfl) ?_
    refine s_run rfl rfl (r_add rfl rfl (wI (by omega))) ?_
    refine s_run rfl rfl (r_fa0 rfl fo29_0) ?_
    refine s_run rfl rfl (r_ia (i := k) rfl rfl (by omega) (by omega) Try.underlying27 sz26) ?_
    refine s_run rfl rfl (r_ia1 (i := (1 + m)) rfl rfl (by omega) (by omega) Try.underlying26 sz25) ?_
    refine s_run rfl rfl (r_lo H 1 rfl rfl hgoD ag25) ?_
    refine s_run rfl rfl (r_len rfl Try.underlying25) ?_
    refine s_run rfl rfl (r_eqlT rfl rfl (by omega)) ?_
    refine k_nc ?_
    refine k_t rfl ?_
    refine k_sg ?_
    refine s_run rfl rfl (rmi rfl) ?_
    refine s_run rfl rfl (r_fa0 rfl fo29_0) ?_
    refine s_run rfl rfl (r_ia (i := k) rfl rfl (by omega) (by omega) Try.underlying27 sz26) ?_
    refine s_run rfl rfl (r_ia1 (i := 0) rfl rfl (by omega) (by omega) Try.underlying26 sz25) ?_
    refine s_run rfl rfl (r_lo H 1 rfl rfl hggD ag25) ?_
    refine s_run rfl rfl (ras rfl) ?_
    refine k_nc ?_
    refine k_sg ?_
    refine s_run rfl rfl (rms rfl) ?_
    refine s_run rfl rfl (r_len rfl Try.underlying25) ?_
    refine s_run rfl rfl (r_sub rfl rfl (wI (by omega))) ?_
    refine s_run rfl rfl (r_max rfl rfl (imax _ _)) ?_
    refine s_run rfl rfl (rai rfl) ?_
    refine k_nc ?_
    refine k_trF mixed ?_; have H' := H.drew; clear H; have H := H'; clear H'
    refine tqh 0 rfl rfl rfl (fun _ hS => r_mv (v := .int _ _) rfl) trivial ?_
    refine tqh 1 rfl rfl rfl (fun _ hS => r_mv (v := .int _ _) rfl) trivial ?_
    refine tqh 2 rfl rfl rfl (fun _ hS => r_mv (v := .int _ _) rfl) trivial ?_
    refine tqh 3 rfl rfl rfl (fun _ hS => r_add rfl rfl (wI (by omega))) trivial ?_
    refine tqh 4 rfl rfl rfl (fun _ hS => r_mv (v := .slice _ _ _) rfl) trivial ?_
    refine tqh 5 rfl rfl rfl (fun _ hS => r_mv (v := .int _ _) rfl) trivial ?_
    refine tqh 6 rfl rfl rfl (fun _ hS => r_mv (v := .int _ _) rfl) trivial ?_
    refine tqh 7 rfl rfl rfl (fun _ hS => r_shm (j := fr) (j2 := fr) rfl rfl hmx rfl hmx (by omega) (by omega) Try.underlying25 sz3) trivial ?_
    refine tqh 8 rfl rfl rfl (fun _ hS => r_mv (v := .slice _ _ _) rfl) trivial ?_
    refine tqh 9 rfl rfl rfl (fun _ hS => r_mv (v := .int _ _) rfl) trivial ?_
    refine tqh 10 rfl rfl rfl (fun _ hS => r_sloA (i := fr) rfl rfl hmx (by omega) Try.underlying25 sz3) trivial ?_
    refine tqh 12 rfl rfl rfl (fun _ hS => r_fa0 rfl fo29_0) trivial ?_
    refine tqh 13 rfl rfl rfl (fun _ hS => r_ia (i := k) rfl rfl (by omega) (by omega) Try.underlying27 sz26) trivial ?_
    refine tqh 14 rfl rfl rfl (fun _ hS => r_ia1 (i := 0) rfl rfl (by omega) (by omega) Try.underlying26 sz25) trivial ?_
    refine tqh 16 rfl rfl rfl (fun _ hS => r_fa0 rfl fo29_0) trivial ?_
    refine tqh 17 rfl rfl rfl (fun _ hS => r_ia (i := k) rfl rfl (by omega) (by omega) Try.underlying27 sz26) trivial ?_
    refine t_up1 11 (by kernel_rfl) ?_
    refine up_mk rfl ?_
    refine s_call rfl (dJoin (A := none) (n := 0) (xs := []) Sees.nil (hsd.later H.only (by simp)) rfl hdl ⟨by omega, by omega⟩) (ca97 rfl) ?_
    rintro e W1 ⟨C, q, rfl, H'⟩
    refine ⟨_, rfl, ?_⟩
    have H := H.more H'; clear H'; simp only [List.cons_append, List.nil_append] at H; have hq := own_cap H 0 rfl; obtain ⟨bq, rfl⟩ := Heap.own_some H 0 rfl (by omega)
    refine k_nil ?_
    refine t_on trivial ?_
    refine t_up1 15 (by kernel_rfl) ?_
    refine up_mk rfl ?_
    refine s_stC H 2 rfl rfl rfl rfl hggD e2 rfl sz25 ?_
    clear H; intro _ H; simp only [jA, jB, jC, jD, jE, jF, jG, jH, jI, jJ, jK, Nat.reduceAdd] at H
    refine k_nil ?_
    refine t_on trivial ?_
    refine tqh 18 rfl rfl rfl (fun _ hS => r_ia1 (i := (1 + m)) rfl rfl (by omega) (by omega) Try.underlying26 sz25) trivial ?_
    refine t_up1 19 (by kernel_rfl) ?_
    refine up_mk rfl ?_
    refine s_stC H 2 rfl rfl rfl rfl (by rw [hgo, updR_off _ _ (by omega), ho]) e1 rfl sz25 ?_
    clear H; intro _ H; simp only [jA, jB, jC, jD, jE, jF, jG, jH, jI, jJ, jK, Nat.reduceAdd] at H
    refine k_nil ?_
    refine t_on trivial ?_
    refine t_done (by kernel_rfl) ?_
    refine c_norm ?_
    refine k_sg ?_
    refine s_run rfl rfl (rmi rfl) ?_
    refine s_run rfl rfl (rmi rfl) ?_
    refine s_run rfl rfl (r_add rfl rfl (wI (by omega))) ?_
    refine s_run rfl rfl (r_fa0 rfl fo29_0) ?_
    refine s_run rfl rfl (r_ia (i := k) rfl rfl (by omega) (by omega) Try.underlying27 sz26) ?_
    refine s_run rfl rfl (r_ia1 (i := (1 + m)) rfl rfl (by omega) (by omega) Try.underlying26 sz25) ?_
    refine s_run rfl rfl (r_lo H 2 rfl rfl e3 ag25) ?_
    refine s_run rfl rfl (ras rfl) ?_
    refine k_nc ?_
    refine k_seq ?_
    refine k_sg ?_
    refine s_run rfl rfl (rms rfl) ?_
    refine s_run rfl rfl (r_len rfl Try.underlying25) ?_
    refine s_run rfl rfl (r_eqlF rfl rfl (by omega)) ?_
    refine k_nc ?_
    refine k_f rfl ?_
    refine k_skip ?_
    refine c_norm ?_
    refine k_sg ?_
    refine s_run rfl rfl (rms rfl) ?_
    refine s_run rfl rfl (r_len rfl Try.underlying25) ?_
    refine s_run rfl rfl (r_sub rfl rfl (wI (by omega))) ?_
    refine s_run rfl rfl (rai rfl) ?_
    refine k_nc ?_
    refine k_seq ?_
    refine k_trF mixed ?_; have H' := H.drew; clear H; have H := H'; clear H'
    refine tqh 0 rfl rfl rfl (fun _ hS => r_mv (v := .int _ _) rfl) trivial ?_
    refine tqh 1 rfl rfl rfl (fun _ hS => r_mv (v := .int _ _) rfl) trivial ?_
    refine tqh 2 rfl rfl rfl (fun _ hS => r_add rfl rfl (wI (by omega))) trivial ?_
    refine tqh 3 rfl rfl rfl (fun _ hS => r_mv (v := .slice _ _ _) rfl) trivial ?_
    refine tqh 4 rfl rfl rfl (fun _ hS => r_mv (v := .int _ _) rfl) trivial ?_
    refine tqh 5 rfl rfl rfl (fun _ hS => r_mv (v := .int _ _) rfl) trivial ?_
    refine tqh 6 rfl rfl rfl (fun _ hS => r_shm (j := n2) (j2 := n2) rfl rfl (by omega) rfl (by omega) (by omega) (by omega) Try.underlying25 sz3) trivial ?_
    refine tqh 7 rfl rfl rfl (fun _ hS => r_fa0 rfl fo29_0) trivial ?_
    refine tqh 8 rfl rfl rfl (fun _ hS => r_ia (i := k) rfl rfl (by omega) (by omega) Try.underlying27 sz26) trivial ?_
    refine tqh 9 rfl rfl rfl (fun _ hS => r_ia1 (i := (1 + m)) rfl rfl (by omega) (by omega) Try.underlying26 sz25) trivial ?_
    refine t_up1 10 (by kernel_rfl) ?_
    refine up_mk rfl ?_
    refine s_stC H 2 rfl rfl rfl rfl e3 e4 rfl sz25 ?_
    clear H; intro _ H; simp only [jA, jB, jC, jD, jE, jF, jG, jH, jI, jJ, jK, Nat.reduceAdd] at H
    refine k_nil ?_
    refine t_on trivial ?_
    refine t_done (by kernel_rfl) ?_
    refine c_norm ?_
    refine k_seq ?_
    refine k_trF mixed ?_; have H' := H.drew; clear H; have H := H'; clear H'
    refine tqh 1 rfl rfl rfl (fun _ hS => r_mv (v := .slice _ _ _) rfl) trivial ?_
    refine tqh 2 rfl rfl rfl (fun _ hS => r_mv (v := .int _ _) rfl) trivial ?_
    refine tqh 3 rfl rfl rfl (fun _ hS => r_ix1 (i := n2) rfl rfl (by omega) (by omega) Try.underlying25 sz3) trivial ?_
    refine t_up2 0 4 (by kernel_rfl) ?_ ?_
    ·refine up_mk rfl ?_
     refine s_run rfl rfl (r_la H 2 rfl rfl (fC_len _) ag29 sz29) ?_
     refine k_nil ?_
     refine t_on trivial ?_
     refine t_up2 4 5 (by kernel_rfl) ?_ ?_
     ·refine up_mk rfl ?_
      refine s_run rfl rfl (r_ow H 0 rfl rfl hxn ag3) ?_
      refine k_nil ?_
      refine t_on trivial ?_
      refine t_up1 5 (by kernel_rfl) ?_
      refine up_mk rfl ?_
      refine s_sw H 1 rfl rfl rfl rfl rfl rfl rfl sz29 ?_
      clear H; intro _ H; simp only [jA, jB, jC, jD, jE, jF, jG, jH, jI, jJ, jK, Nat.reduceAdd] at H
      refine k_nil ?_
      refine t_on trivial ?_
      refine tqh 6 rfl rfl rfl (fun _ hS => r_as (v := .int _ _) rfl) trivial ?_
      refine tqh 7 rfl rfl rfl (fun _ hS => r_as (v := .int _ _) rfl) trivial ?_
      refine t_done (by kernel_rfl) ?_
      refine c_norm ?_
      refine k_ret ?_
      refine fx3r rfl (rv_a H 1 rfl rfl rfl ag29 sz29) (rv_t (v := .int _ _) rfl) (rv_t (v := .int _ _) rfl) ?_
      exact ⟨_, rfl, by rw [xsOf_upd, xsOf_upd, xsOf_upd], (hDf H).upd (r := ⟨some ⟨bq, 0, none⟩, n2, n2, (gxs.drop fr).take n2⟩) ((H.own_fresh 0 rfl hK).head n2) (by rw [List.length_take, hdl]; show min n2 _ = n2; omega) (Nat.le_refl _) (by show n2 ≤ _; omega), H.only⟩
     ·refine up_mk rfl ?_
      refine s_sw H 1 rfl rfl rfl rfl rfl rfl rfl sz29 ?_
      clear H; intro _ H; simp only [jA, jB, jC, jD, jE, jF, jG, jH, jI, jJ, jK, Nat.reduceAdd] at H
      refine k_nil ?_
      refine t_on trivial ?_
      refine t_up1 4 (by kernel_rfl) ?_
      refine up_mk rfl ?_
      refine s_run rfl rfl (r_ow H 0 rfl rfl hxn ag3) ?_
      refine k_nil ?_
      refine t_on trivial ?_
      refine tqh 6 rfl rfl rfl (fun _ hS => r_as (v := .int _ _) rfl) trivial ?_
      refine tqh 7 rfl rfl rfl (fun _ hS => r_as (v := .int _ _) rfl) trivial ?_
      refine t_done (by kernel_rfl) ?_
      refine c_norm ?_
      refine k_ret ?_
      refine fx3r rfl (rv_a H 1 rfl rfl rfl ag29 sz29) (rv_t (v := .int _ _) rfl) (rv_t (v := .int _ _) rfl) ?_
      exact ⟨_, rfl, by rw [xsOf_upd, xsOf_upd, xsOf_upd], (hDf H).upd (r := ⟨some ⟨bq, 0, none⟩, n2, n2, (gxs.drop fr).take n2⟩) ((H.own_fresh 0 rfl hK).head n2) (by rw [List.length_take, hdl]; show min n2 _ = n2; omega) (Nat.le_refl _) (by show n2 ≤ _; omega), H.only⟩
    ·refine up_mk rfl ?_
     refine s_run rfl rfl (r_ow H 0 rfl rfl hxn ag3) ?_
     refine k_nil ?_
     refine t_on trivial ?_
     refine t_up1 0 (by kernel_rfl) ?_
     refine up_mk rfl ?_
     refine s_run rfl rfl (r_la H 2 rfl rfl (fC_len _) ag29 sz29) ?_
     refine k_nil ?_
     refine t_on trivial ?_
     refine t_up1 5 (by kernel_rfl) ?_
     refine up_mk rfl ?_
     refine s_sw H 1 rfl rfl rfl rfl rfl rfl rfl sz29 ?_
     clear H; intro _ H; simp only [jA, jB, jC, jD, jE, jF, jG, jH, jI, jJ, jK, Nat.reduceAdd] at H
     refine k_nil ?_
     refine t_on trivial ?_
     refine tqh 6 rfl rfl rfl (fun _ hS => r_as (v := .int _ _) rfl) trivial ?_
     refine tqh 7 rfl rfl rfl (fun _ hS => r_as (v := .int _ _) rfl) trivial ?_
     refine t_done (by kernel_rfl) ?_
     refine c_norm ?_
     refine k_ret ?_
     refine fx3r rfl (rv_a H 1 rfl rfl rfl ag29 sz29) (rv_t (v := .int _ _) rfl) (rv_t (v := .int _ _) rfl) ?_
     exact ⟨_, rfl, by rw [xsOf_upd, xsOf_upd, xsOf_upd], (hDf H).upd (r := ⟨some ⟨bq, 0, none⟩, n2, n2, (gxs.drop fr).take n2⟩) ((H.own_fresh 0 rfl hK).head n2) (by rw [List.length_take, hdl]; show min n2 _ = n2; omega) (Nat.le_refl _) (by show n2 ≤ _; omega), H.only⟩
  ·have hx : oxs ≠ [] := fun e => h0 (by rw [e] at olen; simpa using olen.symm)
   rw [if_neg hx, eo, if_neg hx, olen]
   obtain ⟨n1, rfl⟩ : ∃ n1, on = n1 + 1 := ⟨on - 1, by omega⟩
   rw [show n1 + 1 - 1 = n1 by omega]
   obtain ⟨x, hxn⟩ : ∃ x, oxs[n1]? = some x := ⟨_, List.getElem?_eq_getElem (by omega)⟩
   obtain ⟨b, o, rfl, hbK, hrd⟩ := osee (by omega)
   have cx := hrd _ _ hxn
   rw [show oxs.getD n1 0 = x by rw [List.getD_eq_getElem?_getD, hxn]; rfl]
   have e1 := hso D ⟨some ⟨b, o, none⟩, n1, n1, oxs.take n1⟩
   refine k_in (N := 87) Try.func75 rfl rfl rfl ?_
   refine k_sg ?_
   refine s_box H rfl rfl ?_
   intro p3 _ H'; clear H; have H := H'; clear H'
   refine s_al H rfl inf29 ?_
   intro p6 _ H'; clear H; have H := H'; clear H'
   refine s_run rfl rfl (rai rfl) ?_
   refine s_run rfl rfl (rai rfl) ?_
   refine k_nc ?_
   refine k_seq ?_
   refine k_sg ?_
   refine s_run rfl rfl (rmi rfl) ?_
   refine s_call rfl (hC _) (ca56 rfl) ?_
   rintro e W1 ⟨rfl, H'⟩
   refine ⟨_, rfl, ?_⟩
   have H := H.same H'; clear H'
   refine s_run rfl rfl (r_notT rfl) ?_
   refine s_run rfl rfl (rmb rfl) ?_
   refine s_run rfl (g_on 16 (by kernel_rfl) rfl) (rmi rfl) ?_
   refine s_call (g_on 16 (by kernel_rfl) rfl) (hM _) (ca81 rfl) ?_
   rintro e W1 ⟨rfl, H'⟩
   refine ⟨_, rfl, ?_⟩
   have H := H.same H'; clear H'
   refine s_run rfl (g_on 16 (by kernel_rfl) rfl) (r_notT rfl) ?_
   refine s_run rfl rfl (r_pkF (v := .bool _) rfl rfl) ?_
   refine k_nc ?_
   refine k_f rfl ?_
   refine k_skip ?_
   refine c_norm ?_
   refine k_seq ?_
   refine k_sg ?_
   refine s_run rfl rfl (rmi rfl) ?_
   refine s_run rfl rfl (rmi rfl) ?_
   refine s_run rfl rfl (r_add rfl rfl (wI (by omega))) ?_
   refine s_run rfl rfl (r_fa0 rfl fo29_0) ?_
   refine s_run rfl rfl (r_ia (i := k) rfl rfl (by omega) (by omega) Try.underlying27 sz26) ?_
   refine s_run rfl rfl (r_ia1 (i := (1 + m)) rfl rfl (by omega) (by omega) Try.underlying26 sz25) ?_
   refine s_run rfl rfl (r_lo H 1 rfl rfl hgoD ag25) ?_
   refine s_run rfl rfl (r_len rfl Try.underlying25) ?_
   refine s_run rfl rfl (r_eqlF rfl rfl (by omega)) ?_
   refine k_nc ?_
   refine k_f rfl ?_
   refine k_skip ?_
   refine c_norm ?_
   refine k_sg ?_
   refine s_run rfl rfl (rmi rfl) ?_
   refine s_run rfl rfl (rmi rfl) ?_
   refine s_run rfl rfl (r_add rfl rfl (wI (by omega))) ?_
   refine s_run rfl rfl (r_fa0 rfl fo29_0) ?_
   refine s_run rfl rfl (r_ia (i := k) rfl rfl (by omega) (by omega) Try.underlying27 sz26) ?_
   refine s_run rfl rfl (r_ia1 (i := (1 + m)) rfl rfl (by omega) (by omega) Try.underlying26 sz25) ?_
   refine s_run rfl rfl (r_lo H 1 rfl rfl hgoD ag25) ?_
   refine s_run rfl rfl (ras rfl) ?_
   refine k_nc ?_
   refine k_seq ?_
   refine k_sg ?_
   refine s_run rfl rfl (rms rfl) ?_
   refine s_run rfl rfl (r_len rfl Try.underlying25) ?_
   refine s_run rfl rfl (r_eqlF rfl rfl (by omega)) ?_
   refine k_nc ?_
   refine k_f rfl ?_
   refine k_skip ?_
   refine c_norm ?_
   refine k_sg ?_
   refine s_run rfl rfl (rms rfl) ?_
   refine s_run rfl rfl (r_len rfl Try.underlying25) ?_
   refine s_run rfl rfl (r_sub rfl rfl (wI (by omega))) ?_
   refine s_run rfl rfl (rai rfl) ?_
   refine k_nc ?_
   refine k_seq ?_
   refine k_trF mixed ?_; have H' := H.drew; clear H; have H := H'; clear H'
   refine tqh 0 rfl rfl rfl (fun _ hS => r_mv (v := .int _ _) rfl) trivial ?_
   refine tqh 1 rfl rfl rfl (fun _ hS => r_mv (v := .int _ _) rfl) trivial ?_
   refine tqh 2 rfl rfl rfl (fun _ hS => r_add rfl rfl (wI (by omega))) trivial ?_
   refine tqh 3 rfl rfl rfl (fun _ hS => r_mv (v := .slice _ _ _) rfl) trivial ?_
   refine tqh 4 rfl rfl rfl (fun _ hS => r_mv (v := .int _ _) rfl) trivial ?_
   refine tqh 5 rfl rfl rfl (fun _ hS => r_mv (v := .int _ _) rfl) trivial ?_
   refine tqh 6 rfl rfl rfl (fun _ hS => r_shm (j := n1) (j2 := n1) rfl rfl (by omega) rfl (by omega) (by omega) (by omega) Try.underlying25 sz3) trivial ?_
   refine tqh 7 rfl rfl rfl (fun _ hS => r_fa0 rfl fo29_0) trivial ?_
   refine tqh 8 rfl rfl rfl (fun _ hS => r_ia (i := k) rfl rfl (by omega) (by omega) Try.underlying27 sz26) trivial ?_
   refine tqh 9 rfl rfl rfl (fun _ hS => r_ia1 (i := (1 + m)) rfl rfl (by omega) (by omega) Try.underlying26 sz25) trivial ?_
   refine t_up1 10 (by kernel_rfl) ?_
   refine up_mk rfl ?_
   refine s_stC H 1 rfl rfl rfl rfl hgoD e1 rfl sz25 ?_
   clear H; intro _ H; simp only [jA, jB, jC, jD, jE, jF, jG, jH, jI, jJ, jK, Nat.reduceAdd] at H
   refine k_nil ?_
   refine t_on trivial ?_
   refine t_done (by kernel_rfl) ?_
   refine c_norm ?_
   refine k_seq ?_
   refine k_trF mixed ?_; have H' := H.drew; clear H; have H := H'; clear H'
   refine tqh 1 rfl rfl rfl (fun _ hS => r_mv (v := .slice _ _ _) rfl) trivial ?_
   refine tqh 2 rfl rfl rfl (fun _ hS => r_mv (v := .int _ _) rfl) trivial ?_
   refine tqh 3 rfl rfl rfl (fun _ hS => r_ix1o (i := n1) rfl rfl (by omega) (by omega) Try.underlying25 sz3) trivial ?_
   refine t_up2 0 4 (by kernel_rfl) ?_ ?_
   ·refine up_mk rfl ?_
    refine s_run rfl rfl (r_la H 1 rfl rfl (fC_len _) ag29 sz29) ?_
    refine k_nil ?_
    refine t_on trivial ?_
    refine t_up2 4 5 (by kernel_rfl) ?_ ?_
    ·refine up_mk rfl ?_
     refine s_run rfl rfl (r_lr H rfl cx (by simp) ag3) ?_
     refine k_nil ?_
     refine t_on trivial ?_
     refine t_up1 5 (by kernel_rfl) ?_
     refine up_mk rfl ?_
     refine s_sw H 0 rfl rfl rfl rfl rfl rfl rfl sz29 ?_
     clear H; intro _ H; simp only [jA, jB, jC, jD, jE, jF, jG, jH, jI, jJ, jK, Nat.reduceAdd] at H
     refine k_nil ?_
     refine t_on trivial ?_
     refine tqh 6 rfl rfl rfl (fun _ hS => r_as (v := .int _ _) rfl) trivial ?_
     refine tqh 7 rfl rfl rfl (fun _ hS => r_as (v := .int _ _) rfl) trivial ?_
     refine t_done (by kernel_rfl) ?_
     refine c_norm ?_
     refine k_ret ?_
     refine fx3r rfl (rv_a H 0 rfl rfl rfl ag29 sz29) (rv_t (v := .int _ _) rfl) (rv_t (v := .int _ _) rfl) ?_
     exact ⟨_, rfl, by rw [xsOf_upd], (hD.later H.only (by simp)).upd (r := ⟨some ⟨b, o, none⟩, n1, n1, oxs.take n1⟩) ((osee.head n1).later H.only (by simp)) (by rw [List.length_take]; show min n1 _ = n1; omega) (Nat.le_refl _) (by show n1 ≤ _; omega), H.only⟩
    ·refine up_mk rfl ?_
     refine s_sw H 0 rfl rfl rfl rfl rfl rfl rfl sz29 ?_
     clear H; intro _ H; simp only [jA, jB, jC, jD, jE, jF, jG, jH, jI, jJ, jK, Nat.reduceAdd] at H
     refine k_nil ?_
     refine t_on trivial ?_
     refine t_up1 4 (by kernel_rfl) ?_
     refine up_mk rfl ?_
     refine s_run rfl rfl (r_lr H rfl cx (by simp) ag3) ?_
     refine k_nil ?_
     refine t_on trivial ?_
     refine tqh 6 rfl rfl rfl (fun _ hS => r_as (v := .int _ _) rfl) trivial ?_
     refine tqh 7 rfl rfl rfl (fun _ hS => r_as (v := .int _ _) rfl) trivial ?_
     refine t_done (by kernel_rfl) ?_
     refine c_norm ?_
     refine k_ret ?_
     refine fx3r rfl (rv_a H 0 rfl rfl rfl ag29 sz29) (rv_t (v := .int _ _) rfl) (rv_t (v := .int _ _) rfl) ?_
     exact ⟨_, rfl, by rw [xsOf_upd], (hD.later H.only (by simp)).upd (r := ⟨some ⟨b, o, none⟩, n1, n1, oxs.take n1⟩) ((osee.head n1).later H.only (by simp)) (by rw [List.length_take]; show min n1 _ = n1; omega) (Nat.le_refl _) (by show n1 ≤ _; omega), H.only⟩
   ·refine up_mk rfl ?_
    refine s_run rfl rfl (r_lr H rfl cx (by simp) ag3) ?_
    refine k_nil ?_
    refine t_on trivial ?_
    refine t_up1 0 (by kernel_rfl) ?_
    refine up_mk rfl ?_
    refine s_run rfl rfl (r_la H 1 rfl rfl (fC_len _) ag29 sz29) ?_
    refine k_nil ?_
    refine t_on trivial ?_
    refine t_up1 5 (by kernel_rfl) ?_
    refine up_mk rfl ?_
    refine s_sw H 0 rfl rfl rfl rfl rfl rfl rfl sz29 ?_
    clear H; intro _ H; simp only [jA, jB, jC, jD, jE, jF, jG, jH, jI, jJ, jK, Nat.reduceAdd] at H
    refine k_nil ?_
    refine t_on trivial ?_
    refine tqh 6 rfl rfl rfl (fun _ hS => r_as (v := .int _ _) rfl) trivial ?_
    refine tqh 7 rfl rfl rfl (fun _ hS => r_as (v := .int _ _) rfl) trivial ?_
    refine t_done (by kernel_rfl) ?_
    refine c_norm ?_
    refine k_ret ?_
    refine fx3r rfl (rv_a H 0 rfl rfl rfl ag29 sz29) (rv_t (v := .int _ _) rfl) (rv_t (v := .int _ _) rfl) ?_
    exact ⟨_, rfl, by rw [xsOf_upd], (hD.later H.only (by simp)).upd (r := ⟨some ⟨b, o, none⟩, n1, n1, oxs.take n1⟩) ((osee.head n1).later H.only (by simp)) (by rw [List.length_take]; show min n1 _ = n1; omega) (Nat.le_refl _) (by show n1 ≤ _; omega), H.only⟩
end Go.Proofs.Ytlakbclnilakbaa
end

section
namespace Go.Proofs.Ytlakbclnilakbaa
open Go.RowKit
set_option maxRecDepth 100000
set_option maxHeartbeats 4000000
theorem dPut {K : List Nat} {D : Nat → RowS} {N : Nat} {w : World} (hD : DOk K w D N) (hN : N ≤ 9000) (hK : ∀ i ∈ K, i < w.heap.size) (m k a : Int) :
  Calls Try.prog 77 [fV D, .int .i64 m, .int .i64 k, .int .i64 a].toArray w fun e w' => ∃ D', e = .returned (.tuple [fV D', .int .i64 (fPut (xsOf D) m k a).2].toArray) ∧ xsOf D' = (fPut (xsOf D) m k a).1 ∧ DOk K w' D' (N + N + 9) ∧ Only [] w w' := by
 have H := Heap.nil w
 have hC := fun W => dClass k W
 have hM := fun W => dOwner m W
 have hD0 : DOk [] w D N := hD.mono (by simp) (Nat.le_refl _)
 have hD1 : DOk K w D (N + N + 9) := hD.mono (fun _ h => h) (by omega)
 have hHa := fun {W : World} (h : Only [] w W) => dHas (hD0.later h (by simp)) (by omega) k a
 unfold fPut fV at *
 cases hk : isC k with
 | false =>
  simp only [hk] at hC
  rw [if_pos (.inr rfl)]
  refine k_in (N := 67) Try.func77 rfl rfl rfl ?_
  refine k_sg ?_
  refine s_box H rfl rfl ?_
  intro p4 _ H'; clear H; have H := H'; clear H'
  refine s_al H rfl inf29 ?_
  intro p8 _ H'; clear H; have H := H'; clear H'
  refine s_run rfl rfl (rai rfl) ?_
  refine k_nc ?_
  refine k_seq ?_
  refine k_sg ?_
  refine s_run rfl rfl (rmi rfl) ?_
  refine s_call rfl (hC _) (ca56 rfl) ?_
  rintro e W1 ⟨rfl, H'⟩
  refine ⟨_, rfl, ?_⟩
  have H := H.same H'; clear H'
  refine s_run rfl rfl (r_notF rfl) ?_
  refine s_run rfl rfl (rmb rfl) ?_
  refine s_off rfl (g_off 15 (by kernel_rfl) rfl rfl) ?_
  refine s_off rfl (g_off 15 (by kernel_rfl) rfl rfl) ?_
  refine s_off rfl (g_off 15 (by kernel_rfl) rfl rfl) ?_
  refine s_run rfl rfl (r_pkT (v := .bool _) rfl rfl) ?_
  refine k_nc ?_
  refine k_t rfl ?_
  refine k_sg ?_
  refine s_run rfl rfl (r_la H 1 rfl rfl (fC_len D) ag29 sz29) ?_
  refine s_sw H 0 rfl rfl rfl rfl rfl rfl rfl sz29 ?_
  clear H; intro _ H; simp only [jA, jB, jC, jD, jE, jF, jG, jH, jI, jJ, jK, Nat.reduceAdd] at H
  refine s_run rfl rfl (rai rfl) ?_
  refine k_nc ?_
  refine k_ret ?_
  refine c_ret ?_
  refine fx2r rfl (rv_a H 0 rfl rfl rfl ag29 sz29) (rv_t (v := .int _ _) rfl) ?_
  exact ⟨D, rfl, rfl, hD1.later H.only (by simp), H.only⟩
 | true =>
 cases hm : isM m with
 | false =>
  simp only [hk] at hC
  simp only [hm] at hM
  rw [if_pos (.inl rfl)]
  refine k_in (N := 67) Try.func77 rfl rfl rfl ?_
  refine k_sg ?_
  refine s_box H rfl rfl ?_
  intro p4 _ H'; clear H; have H := H'; clear H'
  refine s_al H rfl inf29 ?_
  intro p8 _ H'; clear H; have H := H'; clear H'
  refine s_run rfl rfl (rai rfl) ?_
  refine k_nc ?_
  refine k_seq ?_
  refine k_sg ?_
  refine s_run rfl rfl (rmi rfl) ?_
  refine s_call rfl (hC _) (ca56 rfl) ?_
  rintro e W1 ⟨rfl, H'⟩
  refine ⟨_, rfl, ?_⟩
  have H := H.same H'; clear H'
  refine s_run rfl rfl (r_notT rfl) ?_
  refine s_run rfl rfl (rmb rfl) ?_
  refine s_run rfl (g_on 15 (by kernel_rfl) rfl) (rmi rfl) ?_
  refine s_call (g_on 15 (by kernel_rfl) rfl) (hM _) (ca81 rfl) ?_
  rintro e W1 ⟨rfl, H'⟩
  refine ⟨_, rfl, ?_⟩
  have H := H.same H'; clear H'
  refine s_run rfl (g_on 15 (by kernel_rfl) rfl) (r_notF rfl) ?_
  refine s_run rfl rfl (r_pkF (v := .bool _) rfl rfl) ?_
  refine k_nc ?_
  refine k_t rfl ?_
  refine k_sg ?_
  refine s_run rfl rfl (r_la H 1 rfl rfl (fC_len D) ag29 sz29) ?_
  refine s_sw H 0 rfl rfl rfl rfl rfl rfl rfl sz29 ?_
  clear H; intro _ H; simp only [jA, jB, jC, jD, jE, jF, jG, jH, jI, jJ, jK, Nat.reduceAdd] at H
  refine s_run rfl rfl (rai rfl) ?_
  refine k_nc ?_
  refine k_ret ?_
  refine c_ret ?_
  refine fx2r rfl (rv_a H 0 rfl rfl rfl ag29 sz29) (rv_t (v := .int _ _) rfl) ?_
  exact ⟨D, rfl, rfl, hD1.later H.only (by simp), H.only⟩
 | true =>
 cases hh : fHas (xsOf D) k a with
 | true =>
  simp only [hk] at hC
  simp only [hm] at hM
  simp only [hh] at hHa
  rw [if_neg (by simp), if_pos rfl]
  refine k_in (N := 67) Try.func77 rfl rfl rfl ?_
  refine k_sg ?_
  refine s_box H rfl rfl ?_
  intro p4 _ H'; clear H; have H := H'; clear H'
  refine s_al H rfl inf29 ?_
  intro p8 _ H'; clear H; have H := H'; clear H'
  refine s_run rfl rfl (rai rfl) ?_
  refine k_nc ?_
  refine k_seq ?_
  refine k_sg ?_
  refine s_run rfl rfl (rmi rfl) ?_
  refine s_call rfl (hC _) (ca56 rfl) ?_
  rintro e W1 ⟨rfl, H'⟩
  refine ⟨_, rfl, ?_⟩
  have H := H.same H'; clear H'
  refine s_run rfl rfl (r_notT rfl) ?_
  refine s_run rfl rfl (rmb rfl) ?_
  refine s_run rfl (g_on 15 (by kernel_rfl) rfl) (rmi rfl) ?_
  refine s_call (g_on 15 (by kernel_rfl) rfl) (hM _) (ca81 rfl) ?_
  rintro e W1 ⟨rfl, H'⟩
  refine ⟨_, rfl, ?_⟩
  have H := H.same H'; clear H'
  refine s_run rfl (g_on 15 (by kernel_rfl) rfl) (r_notT rfl) ?_
  refine s_run rfl rfl (r_pkF (v := .bool _) rfl rfl) ?_
  refine k_nc ?_
  refine k_f rfl ?_
  refine k_skip ?_
  refine c_norm ?_
  refine k_seq ?_
  refine k_sg ?_
  refine s_run rfl rfl (r_la H 1 rfl rfl (fC_len D) ag29 sz29) ?_
  refine s_run rfl rfl (rmi rfl) ?_
  refine s_run rfl rfl (rmi rfl) ?_
  refine s_call rfl (hHa H.only) (ca11 rfl) ?_
  rintro e W1 ⟨rfl, H'⟩
  refine ⟨_, rfl, ?_⟩
  have H := H.same H'; clear H'
  refine k_nc ?_
  refine k_t rfl ?_
  refine k_sg ?_
  refine s_run rfl rfl (r_la H 1 rfl rfl (fC_len D) ag29 sz29) ?_
  refine s_sw H 0 rfl rfl rfl rfl rfl rfl rfl sz29 ?_
  clear H; intro _ H; simp only [jA, jB, jC, jD, jE, jF, jG, jH, jI, jJ, jK, Nat.reduceAdd] at H
  refine s_run rfl rfl (rai rfl) ?_
  refine k_nc ?_
  refine k_ret ?_
  refine c_ret ?_
  refine fx2r rfl (rv_a H 0 rfl rfl rfl ag29 sz29) (rv_t (v := .int _ _) rfl) ?_
  exact ⟨D, rfl, rfl, hD1.later H.only (by simp), H.only⟩
 | false =>
  simp only [hk] at hC
  simp only [hm] at hM
  simp only [hh] at hHa
  rw [if_neg (by simp), if_neg (by simp)]
  obtain ⟨k, rfl, hk32⟩ := isC_nat hk
  obtain ⟨m, rfl, hm4⟩ := isM_nat hm
  rw [Int.toNat_natCast, Int.toNat_natCast]
  have hgo := dgO hk32 hm4
  have hgg := dgG hk32
  have hso := dsO hk32 hm4
  have hsg := dsG hk32
  have olen := hD.len (k * 5 + 1 + m) (by omega)
  have onum := hD.num (k * 5 + 1 + m) (by omega)
  have osee := hD0.sees (k * 5 + 1 + m) (by omega)
  have glen := hD.len (k * 5) (by omega)
  have gnum := hD.num (k * 5) (by omega)
  have gsee := hD0.sees (k * 5) (by omega)
  have hgoD := hgo D
  have hggD := hgg D
  obtain ⟨oA, on, oc, oxs, ho⟩ : ∃ A n c xs, D (k * 5 + 1 + m) = ⟨A, n, c, xs⟩ := ⟨_, _, _, _, rfl⟩
  obtain ⟨gA, gn, gc, gxs, hg⟩ : ∃ A n c xs, D (k * 5) = ⟨A, n, c, xs⟩ := ⟨_, _, _, _, rfl⟩
  rw [ho] at olen onum osee hgoD
  rw [hg] at glen gnum gsee hggD
  simp only at olen onum osee hgoD glen gnum gsee hggD
  have eo : xsOf D (k * 5 + 1 + m) = oxs := by unfold xsOf; rw [ho]
  have eg : xsOf D (k * 5) = gxs := by unfold xsOf; rw [hg]
  have hla : (oxs ++ [a]).length = on + 1 := by simp [olen]
  unfold fPutN
  rw [eo, eg, olen]
  by_cases h8 : on + 1 > 8
  ·rw [if_pos h8]
   obtain ⟨hf, hhf⟩ : ∃ hf, (on + 1) / 2 = hf := ⟨_, rfl⟩
   rw [hhf]
   have hquo : (((on + 1 : Nat) : Int)) / 2 = (hf : Int) := by omega
   have hhd : ((oxs ++ [a]).take hf).length = hf := by rw [List.length_take, hla]; omega
   have hdl : ((oxs ++ [a]).drop hf).length = on + 1 - hf := by rw [List.length_drop, hla]
   have e2 := fun {C : Option Addr} {q : Nat} => hsg D ⟨C, gn + hf, q, gxs ++ (oxs ++ [a]).take hf⟩
   have e1 := fun {B C : Option Addr} {p q : Nat} => hso (updR D (k * 5) ⟨B, gn + hf, p, gxs ++ (oxs ++ [a]).take hf⟩) ⟨C, 0 + (on + 1 - hf), q, (oxs ++ [a]).drop hf⟩
   refine k_in (N := 67) Try.func77 rfl rfl rfl ?_
   refine k_sg ?_
   refine s_box H rfl rfl ?_
   intro p4 _ H'; clear H; have H := H'; clear H'
   refine s_al H rfl inf29 ?_
   intro p8 _ H'; clear H; have H := H'; clear H'
   refine s_run rfl rfl (rai rfl) ?_
   refine k_nc ?_
   refine k_seq ?_
   refine k_sg ?_
   refine s_run rfl rfl (rmi rfl) ?_
   refine s_call rfl (hC _) (ca56 rfl) ?_
   rintro e W1 ⟨rfl, H'⟩
   refine ⟨_, rfl, ?_⟩
   have H := H.same H'; clear H'
   refine s_run rfl rfl (r_notT rfl) ?_
   refine s_run rfl rfl (rmb rfl) ?_
   refine s_run rfl (g_on 15 (by kernel_rfl) rfl) (rmi rfl) ?_
   refine s_call (g_on 15 (by kernel_rfl) rfl) (hM _) (ca81 rfl) ?_
   rintro e W1 ⟨rfl, H'⟩
   refine ⟨_, rfl, ?_⟩
   have H := H.same H'; clear H'
   refine s_run rfl (g_on 15 (by kernel_rfl) rfl) (r_notT rfl) ?_
   refine s_run rfl rfl (r_pkF (v := .bool _) rfl rfl) ?_
   refine k_nc ?_
   refine k_f rfl ?_
   refine k_skip ?_
   refine c_norm ?_
   refine k_seq ?_
   refine k_sg ?_
   refine s_run rfl rfl (r_la H 1 rfl rfl (fC_len D) ag29 sz29) ?_
   refine s_run rfl rfl (rmi rfl) ?_
   refine s_run rfl rfl (rmi rfl) ?_
   refine s_call rfl (hHa H.only) (ca11 rfl) ?_
   rintro e W1 ⟨rfl, H'⟩
   refine ⟨_, rfl, ?_⟩
   have H := H.same H'; clear H'
   refine k_nc ?_
   refine k_f rfl ?_
   refine k_skip ?_
   refine c_norm ?_
   refine k_sg ?_
   refine s_run rfl rfl (rmi rfl) ?_
   refine s_run rfl rfl (rmi rfl) ?_
   refine s_run rfl rfl (r_add rfl rfl (wI (by omega))) ?_
   refine s_run rfl rfl (r_fa0 rfl fo29_0) ?_
   refine s_run rfl rfl (r_ia (i := k) rfl rfl (by omega) (by omega) Try.underlying27 sz26) ?_
   refine s_run rfl rfl (r_ia1 (i := (1 + m)) rfl rfl (by omega) (by omega) Try.underlying26 sz25) ?_
   refine s_run rfl rfl (r_lo H 1 rfl rfl hgoD ag25) ?_
   refine s_run rfl rfl (rmi rfl) ?_
   refine s_bsO (enc := (Value.int .i64)) (zs := [a]) H rfl rfl rfl (by omega) (by kernel_rfl) Try.underlying25 inf3 ?_
   intro q34 _ H'; clear H; have H := H'; clear H'
   refine s_call rfl (dJoin (osee.later H.only (by simp)) (own_seesC H 0 rfl) olen (show [a].length = 1 from rfl) ⟨by omega, by omega⟩) (ca97 rfl) ?_
   rintro e W1 ⟨C1, q1, rfl, H'⟩
   refine ⟨_, rfl, ?_⟩
   have H := H.more H'; clear H'; simp only [List.cons_append, List.nil_append] at H; have hq1 := own_cap H 0 rfl
   refine s_run rfl rfl (ras rfl) ?_
   refine k_nc ?_
   refine k_seq ?_
   refine k_sg ?_
   refine s_run rfl rfl (rms rfl) ?_
   refine s_run rfl rfl (r_len rfl Try.underlying25) ?_
   refine s_run rfl rfl (r_gtrT rfl rfl (by omega)) ?_
   refine k_nc ?_
   refine k_t rfl ?_
   refine k_sg ?_
   refine s_run rfl rfl (rms rfl) ?_
   refine s_run rfl rfl (r_len rfl Try.underlying25) ?_
   refine s_run rfl rfl (r_quo rfl rfl (by omega) (wI (by omega))) ?_
   refine s_run rfl rfl (rai rfl) ?_
   refine k_nc ?_
   refine k_seq ?_
   refine k_trF mixed ?_; have H' := H.drew; clear H; have H := H'; clear H'
   refine tqh 0 rfl rfl rfl (fun _ hS => r_mv (v := .int _ _) rfl) trivial ?_
   refine tqh 1 rfl rfl rfl (fun _ hS => r_mv (v := .int _ _) rfl) trivial ?_
   refine tqh 2 rfl rfl rfl (fun _ hS => r_fa0 rfl fo29_0) trivial ?_
   refine tqh 3 rfl rfl rfl (fun _ hS => r_ia (i := k) rfl rfl (by omega) (by omega) Try.underlying27 sz26) trivial ?_
   refine tqh 4 rfl rfl rfl (fun _ hS => r_ia1 (i := 0) rfl rfl (by omega) (by omega) Try.underlying26 sz25) trivial ?_
   refine tqh 6 rfl rfl rfl (fun _ hS => r_mv (v := .slice _ _ _) rfl) trivial ?_
   refine tqh 7 rfl rfl rfl (fun _ hS => r_mv (v := .int _ _) rfl) trivial ?_
   refine tqh 8 rfl rfl rfl (fun _ hS => r_shiA (j := hf) rfl rfl hquo (by omega) Try.underlying25 sz3) trivial ?_
   refine tqh 10 rfl rfl rfl (fun _ hS => r_fa0 rfl fo29_0) trivial ?_
   refine tqh 11 rfl rfl rfl (fun _ hS => r_ia (i := k) rfl rfl (by omega) (by omega) Try.underlying27 sz26) trivial ?_
   refine t_up1 5 (by kernel_rfl) ?_
   refine up_mk rfl ?_
   refine s_run rfl rfl (r_lo H 3 rfl rfl hggD ag25) ?_
   refine k_nil ?_
   refine t_on trivial ?_
   refine t_up1 9 (by kernel_rfl) ?_
   refine up_mk rfl ?_
   refine s_call rfl (dJoin (gsee.later H.only (by simp)) ((own_seesC H 0 rfl).head hf) glen hhd ⟨by omega, by omega⟩) (ca97 rfl) ?_
   rintro e W1 ⟨C2, q2, rfl, H'⟩
   refine ⟨_, rfl, ?_⟩
   have H := H.more H'; clear H'; simp only [List.cons_append, List.nil_append] at H
   refine k_nil ?_
   refine t_on trivial ?_
   refine tqh 12 rfl rfl rfl (fun _ hS => r_ia1 (i := 0) rfl rfl (by omega) (by omega) Try.underlying26 sz25) trivial ?_
   refine t_up1 13 (by kernel_rfl) ?_
   refine up_mk rfl ?_
   refine s_stC H 4 rfl rfl rfl rfl hggD e2 rfl sz25 ?_
   clear H; intro _ H; simp only [jA, jB, jC, jD, jE, jF, jG, jH, jI, jJ, jK, Nat.reduceAdd] at H
   refine k_nil ?_
   refine t_on trivial ?_
   refine t_done (by kernel_rfl) ?_
   refine c_norm ?_
   refine k_rg ?_
   refine s_run rfl rfl (rms rfl) ?_
   refine s_run rfl rfl (rmi rfl) ?_
   refine s_run rfl rfl (r_sloA (i := hf) rfl rfl hquo (by omega) Try.underlying25 sz3) ?_
   refine s_call rfl (dJoin (A := none) (n := 0) (xs := []) Sees.nil ((own_seesC H 1 rfl).slo hf (by rw [hla]; exact hq1)) rfl hdl ⟨by omega, by omega⟩) (ca97 rfl) ?_
   rintro e W1 ⟨C3, q3, rfl, H'⟩
   refine ⟨_, rfl, ?_⟩
   have H := H.more H'; clear H'; simp only [List.cons_append, List.nil_append] at H
   refine s_run rfl rfl (ras rfl) ?_
   refine k_nc ?_
   refine k_sg ?_
   refine s_run rfl rfl (rmi rfl) ?_
   refine s_run rfl rfl (rmi rfl) ?_
   refine s_run rfl rfl (r_add rfl rfl (wI (by omega))) ?_
   refine s_run rfl rfl (rms rfl) ?_
   refine s_run rfl rfl (r_fa0 rfl fo29_0) ?_
   refine s_run rfl rfl (r_ia (i := k) rfl rfl (by omega) (by omega) Try.underlying27 sz26) ?_
   refine s_run rfl rfl (r_ia1 (i := (1 + m)) rfl rfl (by omega) (by omega) Try.underlying26 sz25) ?_
   refine s_stC H 5 rfl rfl rfl rfl (by rw [hgo, updR_off _ _ (by omega), ho]) e1 rfl sz25 ?_
   clear H; intro _ H; simp only [jA, jB, jC, jD, jE, jF, jG, jH, jI, jJ, jK, Nat.reduceAdd] at H
   refine k_nc ?_
   refine k_sg ?_
   refine s_run rfl rfl (r_la H 5 rfl rfl (fC_len _) ag29 sz29) ?_
   refine s_sw H 4 rfl rfl rfl rfl rfl rfl rfl sz29 ?_
   clear H; intro _ H; simp only [jA, jB, jC, jD, jE, jF, jG, jH, jI, jJ, jK, Nat.reduceAdd] at H
   refine s_run rfl rfl (rai rfl) ?_
   refine k_nc ?_
   refine k_ret ?_
   refine fx2r rfl (rv_a H 4 rfl rfl rfl ag29 sz29) (rv_t (v := .int _ _) rfl) ?_
   exact ⟨_, rfl, by rw [xsOf_upd, xsOf_upd], ((hD1.later H.only (by simp)).upd (r := ⟨C2, gn + hf, q2, gxs ++ (oxs ++ [a]).take hf⟩) (H.own_fresh 1 rfl hK) (by rw [List.length_append, hhd, glen]) (own_cap H 1 rfl) (by show gn + hf ≤ _; omega)).upd (r := ⟨C3, 0 + (on + 1 - hf), q3, (oxs ++ [a]).drop hf⟩) (H.own_fresh 0 rfl hK) (by rw [hdl]; show _ = 0 + (on + 1 - hf); omega) (own_cap H 0 rfl) (by show 0 + (on + 1 - hf) ≤ _; omega), H.only⟩
  ·rw [if_neg h8]
   have e1 := fun {C : Option Addr} {q : Nat} => hso D ⟨C, on + 1, q, oxs ++ [a]⟩
   refine k_in (N := 67) Try.func77 rfl rfl rfl ?_
   refine k_sg ?_
   refine s_box H rfl rfl ?_
   intro p4 _ H'; clear H; have H := H'; clear H'
   refine s_al H rfl inf29 ?_
   intro p8 _ H'; clear H; have H := H'; clear H'
   refine s_run rfl rfl (rai rfl) ?_
   refine k_nc ?_
   refine k_seq ?_
   refine k_sg ?_
   refine s_run rfl rfl (rmi rfl) ?_
   refine s_call rfl (hC _) (ca56 rfl) ?_
   rintro e W1 ⟨rfl, H'⟩
   refine ⟨_, rfl, ?_⟩
   have H := H.same H'; clear H'
   refine s_run rfl rfl (r_notT rfl) ?_
   refine s_run rfl rfl (rmb rfl) ?_
   refine s_run rfl (g_on 15 (by kernel_rfl) rfl) (rmi rfl) ?_
   refine s_call (g_on 15 (by kernel_rfl) rfl) (hM _) (ca81 rfl) ?_
   rintro e W1 ⟨rfl, H'⟩
   refine ⟨_, rfl, ?_⟩
   have H := H.same H'; clear H'
   refine s_run rfl (g_on 15 (by kernel_rfl) rfl) (r_notT rfl) ?_
   refine s_run rfl rfl (r_pkF (v := .bool _) rfl rfl) ?_
   refine k_nc ?_
   refine k_f rfl ?_
   refine k_skip ?_
   refine c_norm ?_
   refine k_seq ?_
   refine k_sg ?_
   refine s_run rfl rfl (r_la H 1 rfl rfl (fC_len D) ag29 sz29) ?_
   refine s_run rfl rfl (rmi rfl) ?_
   refine s_run rfl rfl (rmi rfl) ?_
   refine s_call rfl (hHa H.only) (ca11 rfl) ?_
   rintro e W1 ⟨rfl, H'⟩
   refine ⟨_, rfl, ?_⟩
   have H := H.same H'; clear H'
   refine k_nc ?_
   refine k_f rfl ?_
   refine k_skip ?_
   refine c_norm ?_
   refine k_sg ?_
   refine s_run rfl rfl (rmi rfl) ?_
   refine s_run rfl rfl (rmi rfl) ?_
   refine s_run rfl rfl (r_add rfl rfl (wI (by omega))) ?_
   refine s_run rfl rfl (r_fa0 rfl fo29_0) ?_
   refine s_run rfl rfl (r_ia (i := k) rfl rfl (by omega) (by omega) Try.underlying27 sz26) ?_
   refine s_run rfl rfl (r_ia1 (i := (1 + m)) rfl rfl (by omega) (by omega) Try.underlying26 sz25) ?_
   refine s_run rfl rfl (r_lo H 1 rfl rfl hgoD ag25) ?_
   refine s_run rfl rfl (rmi rfl) ?_
   refine s_bsO (enc := (Value.int .i64)) (zs := [a]) H rfl rfl rfl (by omega) (by kernel_rfl) Try.underlying25 inf3 ?_
   intro q34 _ H'; clear H; have H := H'; clear H'
   refine s_call rfl (dJoin (osee.later H.only (by simp)) (own_seesC H 0 rfl) olen (show [a].length = 1 from rfl) ⟨by omega, by omega⟩) (ca97 rfl) ?_
   rintro e W1 ⟨C1, q1, rfl, H'⟩
   refine ⟨_, rfl, ?_⟩
   have H := H.more H'; clear H'; simp only [List.cons_append, List.nil_append] at H; have hq1 := own_cap H 0 rfl
   refine s_run rfl rfl (ras rfl) ?_
   refine k_nc ?_
   refine k_seq ?_
   refine k_sg ?_
   refine s_run rfl rfl (rms rfl) ?_
   refine s_run rfl rfl (r_len rfl Try.underlying25) ?_
   refine s_run rfl rfl (r_gtrF rfl rfl (by omega)) ?_
   refine k_nc ?_
   refine k_f rfl ?_
   refine k_skip ?_
   refine c_norm ?_
   refine k_sg ?_
   refine s_run rfl rfl (rmi rfl) ?_
   refine s_run rfl rfl (rmi rfl) ?_
   refine s_run rfl rfl (r_add rfl rfl (wI (by omega))) ?_
   refine s_run rfl rfl (rms rfl) ?_
   refine s_run rfl rfl (r_fa0 rfl fo29_0) ?_
   refine s_run rfl rfl (r_ia (i := k) rfl rfl (by omega) (by omega) Try.underlying27 sz26) ?_
   refine s_run rfl rfl (r_ia1 (i := (1 + m)) rfl rfl (by omega) (by omega) Try.underlying26 sz25) ?_
   refine s_stC H 3 rfl rfl rfl rfl hgoD e1 rfl sz25 ?_
   clear H; intro _ H; simp only [jA, jB, jC, jD, jE, jF, jG, jH, jI, jJ, jK, Nat.reduceAdd] at H
   refine k_nc ?_
   refine k_sg ?_
   refine s_run rfl rfl (r_la H 3 rfl rfl (fC_len _) ag29 sz29) ?_
   refine s_sw H 2 rfl rfl rfl rfl rfl rfl rfl sz29 ?_
   clear H; intro _ H; simp only [jA, jB, jC, jD, jE, jF, jG, jH, jI, jJ, jK, Nat.reduceAdd] at H
   refine s_run rfl rfl (rai rfl) ?_
   refine k_nc ?_
   refine k_ret ?_
   refine fx2r rfl (rv_a H 2 rfl rfl rfl ag29 sz29) (rv_t (v := .int _ _) rfl) ?_
   exact ⟨_, rfl, by rw [xsOf_upd], (hD1.later H.only (by simp)).upd (r := ⟨C1, on + 1, q1, oxs ++ [a]⟩) (H.own_fresh 0 rfl hK) hla (own_cap H 0 rfl) (by show on + 1 ≤ _; omega), H.only⟩
end Go.Proofs.Ytlakbclnilakbaa
end

section
namespace Go.Proofs.Ytlakbclnilakbaa
open Go.RowKit
set_option maxRecDepth 100000
set_option maxHeartbeats 4000000
theorem Heap.own_freshG {α : Type} {enc : α → Value} {size : Nat} {w0 W : World} {F G : List Nat} {L : List Ent} {A : Option Addr} {n c : Nat} {xs : List α} {T : TypeId} (H : Heap w0 F (ownN size (.slice A n c) n (xs.map enc) T :: L) W) (hF : ∀ i ∈ F, i ∈ ids L) (hG : ∀ i ∈ G, i < w0.heap.size) : Sees enc W G A xs := by
 intro h0
 obtain ⟨b, e, hb, hr⟩ := H.own_seesN 0 rfl h0
 refine ⟨b, 0, e, fun hm => ?_, hr⟩
 have h1 := H.own b (mem_ids.2 ⟨_, List.mem_cons_self, hb⟩)
 have h2 := hG b hm
 have h3 := H.nd
 rw [ids_cons] at h3
 rcases h1 with h1 | h1
 ·exact (List.nodup_append.1 h3).2.2 b hb b (hF b h1) rfl
 ·omega
theorem DOk.on {I K : List Nat} {L : List Ent} {w W : World} {D : Nat → RowS} {N : Nat} (h : DOk K w D N) (H : Heap w I L W) (hIK : ∀ i ∈ I, i ∈ K) : DOk (K ++ ids L) W D N :=
 ⟨fun j hj => ((h.sees j hj).news (G := K ++ ids L) (fun i hi => by
  rcases List.mem_append.1 hi with h1 | h1
  ·exact .inl h1
  ·exact (H.own i h1).imp (hIK i) id)).later H.only (fun i hi => List.mem_append_left _ (hIK i hi)), h.len, h.cap, h.num⟩
theorem on_lt {I K : List Nat} {L : List Ent} {w W : World} (hK : ∀ i ∈ K, i < w.heap.size) (H : Heap w I L W) : ∀ i ∈ K ++ ids L, i < W.heap.size := fun i hi => by
 rcases List.mem_append.1 hi with h | h
 ·exact Nat.lt_of_lt_of_le (hK i h) H.only.size
 ·exact H.idlt i h
theorem dDrain {K : List Nat} {D : Nat → RowS} {N : Nat} {w : World} (hD : DOk K w D N) (hN : N ≤ 9000) (hK : ∀ i ∈ K, i < w.heap.size) (m : Int) :
  Calls Try.prog 78 [fV D, .int .i64 m].toArray w fun e w' => ∃ D', e = .returned (fV D') ∧ xsOf D' = fDrain (xsOf D) m ∧ DOk K w' D' (N + N) ∧ Only [] w w' := by
 have H := Heap.nil w
 have hM := fun W => dOwner m W
 have hD1 : DOk K w D (N + N) := hD.mono (fun _ h => h) (by omega)
 unfold fDrain fV at *
 cases hm : isM m with
 | false =>
  simp only [hm] at hM
  rw [if_neg (by simp)]
  refine k_in (N := 38) Try.func78 rfl rfl rfl ?_
  refine k_sg ?_
  refine s_box H rfl rfl ?_
  intro p2 _ H'; clear H; have H := H'; clear H'
  refine s_al H rfl inf29 ?_
  intro p4 _ H'; clear H; have H := H'; clear H'
  refine k_nc ?_
  refine k_seq ?_
  refine k_sg ?_
  refine s_run rfl rfl (rai rfl) ?_
  refine k_nc ?_
  refine k_b ?_
  refine k_loop (fun z f W => f 1 = .int .i64 m ∧ f 2 = ptrF p2 ∧ f 4 = ptrF p4 ∧ f 5 = .int .i64 0 ∧ Heap w [] [blk p4 (fC fun _ => RowS.nil) 29, blk p2 (fC D) 29] W) 0 ⟨rfl, rfl, rfl, rfl, H⟩ ?_
  clear H
  rintro z f W ⟨f1, f2, f4, f5, H⟩
  obtain ⟨f, rfl⟩ := live4 f1 f2 f4 f5
  clear f1 f2 f4 f5
  refine k_seq ?_
  refine k_sg ?_
  refine s_run rfl rfl (rmi rfl) ?_
  refine s_call rfl (hM _) (ca81 rfl) ?_
  rintro e W1 ⟨rfl, H'⟩
  refine ⟨_, rfl, ?_⟩
  have H := H.same H'; clear H'
  refine s_run rfl rfl (rmb rfl) ?_
  refine s_off rfl (g_off 8 (by kernel_rfl) rfl rfl) ?_
  refine s_off rfl (g_off 8 (by kernel_rfl) rfl rfl) ?_
  refine s_run rfl rfl (r_pkF (v := .bool _) rfl rfl) ?_
  refine k_nc ?_
  refine k_f rfl ?_
  refine k_exit ?_
  refine c_exit ?_
  refine c_exit ?_
  refine b_hit ?_
  refine c_norm ?_
  refine k_sg ?_
  refine s_run rfl rfl (r_la H 1 rfl rfl (fC_len _) ag29 sz29) ?_
  refine s_sw H 0 rfl rfl rfl rfl rfl rfl rfl sz29 ?_
  clear H; intro _ H; simp only [jA, jB, jC, jD, jE, jF, jG, jH, jI, jJ, jK, Nat.reduceAdd] at H
  refine k_nc ?_
  refine k_ret ?_
  refine fx1r rfl (rv_a H 0 rfl rfl rfl ag29 sz29) ?_
  exact ⟨D, rfl, rfl, hD1.later H.only (by simp), H.only⟩
 | true =>
  simp only [hm] at hM
  rw [if_pos rfl]
  obtain ⟨m, rfl, hm4⟩ := isM_nat hm
  rw [Int.toNat_natCast]
  refine k_in (N := 38) Try.func78 rfl rfl rfl ?_
  refine k_sg ?_
  refine s_box H rfl rfl ?_
  intro p2 _ H'; clear H; have H := H'; clear H'
  refine s_al H rfl inf29 ?_
  intro p4 _ H'; clear H; have H := H'; clear H'
  refine k_nc ?_
  refine k_seq ?_
  refine k_sg ?_
  refine s_run rfl rfl (rai rfl) ?_
  refine k_nc ?_
  refine k_b ?_
  have hDon := hD1.on H (by simp)
  have hKon := on_lt hK H
  change DOk (K ++ [p4, p2]) _ _ _ at hDon
  change ∀ i ∈ K ++ [p4, p2], _ at hKon
  refine k_loop (fun z f W => ∃ (J : Nat) (D' : Nat → RowS), J ≤ 32 ∧ z = 32 - J ∧ xsOf D' = fDrainTo (xsOf D) m J ∧ DOk (K ++ [p4, p2]) W D' (N + N) ∧ (∀ i, J * 5 ≤ i → D' i = D i) ∧ (∀ i ∈ K ++ [p4, p2], i < W.heap.size) ∧ f 1 = .int .i64 m ∧ f 2 = ptrF p2 ∧ f 4 = ptrF p4 ∧ f 5 = .int .i64 J ∧ Heap w [] [blk p4 (fC fun _ => RowS.nil) 29, blk p2 (fC D') 29] W) 32 ⟨0, D, by omega, rfl, (fDrainTo_zero _ _).symm, hDon, fun _ _ => rfl, hKon, rfl, rfl, rfl, rfl, H⟩ ?_
  clear H hDon hKon
  rintro z f W ⟨J, D', hJ, rfl, hx, hD', hfar, hKW, f1, f2, f4, f5, HB⟩
  obtain ⟨f, rfl⟩ := live4 f1 f2 f4 f5
  clear f1 f2 f4 f5
  have H := Heap.start HB.ents
  have hI2 : ∀ i ∈ [p4, p2], i ∈ K ++ [p4, p2] := fun i hi => List.mem_append_right _ hi
  by_cases hlt : J < 32
  ·have hgo := dgO (m := m) hlt hm4
   have hgg := dgG hlt
   have hso := dsO (m := m) hlt hm4
   have hsg := dsG hlt
   have olen := hD'.len (J * 5 + 1 + m) (by omega)
   have osee := hD'.sees (J * 5 + 1 + m) (by omega)
   have glen := hD'.len (J * 5) (by omega)
   have gsee := hD'.sees (J * 5) (by omega)
   have onum := hD.num (J * 5 + 1 + m) (by omega)
   have gnum := hD.num (J * 5) (by omega)
   rw [← hfar _ (by omega)] at onum gnum
   have hgoD := hgo D'
   have hggD := hgg D'
   obtain ⟨oA, on, oc, oxs, ho⟩ : ∃ A n c xs, D' (J * 5 + 1 + m) = ⟨A, n, c, xs⟩ := ⟨_, _, _, _, rfl⟩
   obtain ⟨gA, gn, gc, gxs, hg⟩ : ∃ A n c xs, D' (J * 5) = ⟨A, n, c, xs⟩ := ⟨_, _, _, _, rfl⟩
   have eo : xsOf D (J * 5 + 1 + m) = oxs := by unfold xsOf; rw [← hfar _ (by omega), ho]
   have eg : xsOf D (J * 5) = gxs := by unfold xsOf; rw [← hfar _ (by omega), hg]
   rw [ho] at olen onum osee hgoD
   rw [hg] at glen gnum gsee hggD
   simp only at olen onum osee hgoD glen gnum gsee hggD
   have e2 := fun {C : Option Addr} {q : Nat} => hsg D' ⟨C, gn + on, q, gxs ++ oxs⟩
   have e1 := fun {C : Option Addr} {q : Nat} => hso (updR D' (J * 5) ⟨C, gn + on, q, gxs ++ oxs⟩) RowS.nil
   refine k_seq ?_
   refine k_sg ?_
   refine s_run rfl rfl (rmi rfl) ?_
   refine s_call rfl (hM _) (ca81 rfl) ?_
   rintro e W1 ⟨rfl, H'⟩
   refine ⟨_, rfl, ?_⟩
   have H := H.same H'; clear H'
   refine s_run rfl rfl (rmb rfl) ?_
   refine s_run rfl (g_on 8 (by kernel_rfl) rfl) (rmi rfl) ?_
   refine s_run rfl (g_on 8 (by kernel_rfl) rfl) (r_lssT rfl rfl (by omega)) ?_
   refine s_run rfl rfl (r_pkT (v := .bool _) rfl rfl) ?_
   refine k_nc ?_
   refine k_t rfl ?_
   refine k_skip ?_
   refine c_norm ?_
   refine k_seq ?_
   refine k_b ?_
   refine k_seq ?_
   refine k_trF mixed ?_; have H' := H.drew; clear H; have H := H'; clear H'
   refine tqh 0 rfl rfl rfl (fun _ hS => r_mv (v := .int _ _) rfl) trivial ?_
   refine tqh 1 rfl rfl rfl (fun _ hS => r_mv (v := .int _ _) rfl) trivial ?_
   refine tqh 2 rfl rfl rfl (fun _ hS => r_fa0 rfl fo29_0) trivial ?_
   refine tqh 3 rfl rfl rfl (fun _ hS => r_ia (i := J) rfl rfl (by omega) (by omega) Try.underlying27 sz26) trivial ?_
   refine tqh 4 rfl rfl rfl (fun _ hS => r_ia1 (i := 0) rfl rfl (by omega) (by omega) Try.underlying26 sz25) trivial ?_
   refine tqh 6 rfl rfl rfl (fun _ hS => r_mv (v := .int _ _) rfl) trivial ?_
   refine tqh 7 rfl rfl rfl (fun _ hS => r_mv (v := .int _ _) rfl) trivial ?_
   refine tqh 8 rfl rfl rfl (fun _ hS => r_add rfl rfl (wI (by omega))) trivial ?_
   refine tqh 9 rfl rfl rfl (fun _ hS => r_fa0 rfl fo29_0) trivial ?_
   refine tqh 10 rfl rfl rfl (fun _ hS => r_ia (i := J) rfl rfl (by omega) (by omega) Try.underlying27 sz26) trivial ?_
   refine tqh 11 rfl rfl rfl (fun _ hS => r_ia1 (i := (1 + m)) rfl rfl (by omega) (by omega) Try.underlying26 sz25) trivial ?_
   refine tqh 14 rfl rfl rfl (fun _ hS => r_fa0 rfl fo29_0) trivial ?_
   refine tqh 15 rfl rfl rfl (fun _ hS => r_ia (i := J) rfl rfl (by omega) (by omega) Try.underlying27 sz26) trivial ?_
   refine t_up2 5 12 (by kernel_rfl) ?_ ?_
   ·refine up_mk rfl ?_
    refine s_run rfl rfl (r_lo H 1 rfl rfl hggD ag25) ?_
    refine k_nil ?_
    refine t_on trivial ?_
    refine t_up1 12 (by kernel_rfl) ?_
    refine up_mk rfl ?_
    refine s_run rfl rfl (r_lo H 1 rfl rfl hgoD ag25) ?_
    refine k_nil ?_
    refine t_on trivial ?_
    refine t_up1 13 (by kernel_rfl) ?_
    refine up_mk rfl ?_
    refine s_call rfl (dJoin ((gsee.later H.only hI2).mono (by simp)) ((osee.later H.only hI2).mono (by simp)) glen olen ⟨by omega, by omega⟩) (ca97 rfl) ?_
    rintro e W1 ⟨C, q, rfl, H'⟩
    refine ⟨_, rfl, ?_⟩
    have H := H.more H'; clear H'; simp only [List.cons_append, List.nil_append] at H
    refine k_nil ?_
    refine t_on trivial ?_
    refine tqh 16 rfl rfl rfl (fun _ hS => r_ia1 (i := 0) rfl rfl (by omega) (by omega) Try.underlying26 sz25) trivial ?_
    refine t_up1 17 (by kernel_rfl) ?_
    refine up_mk rfl ?_
    refine s_stC H 2 rfl rfl rfl rfl hggD e2 rfl sz25 ?_
    clear H; intro _ H; simp only [jA, jB, jC, jD, jE, jF, jG, jH, jI, jJ, jK, Nat.reduceAdd] at H
    refine k_nil ?_
    refine t_on trivial ?_
    refine t_done (by kernel_rfl) ?_
    refine c_norm ?_
    refine k_rg ?_
    refine s_run rfl rfl (rmi rfl) ?_
    refine s_run rfl rfl (rmi rfl) ?_
    refine s_run rfl rfl (r_add rfl rfl (wI (by omega))) ?_
    refine s_run rfl rfl (r_fa0 rfl fo29_0) ?_
    refine s_run rfl rfl (r_ia (i := J) rfl rfl (by omega) (by omega) Try.underlying27 sz26) ?_
    refine s_run rfl rfl (r_ia1 (i := (1 + m)) rfl rfl (by omega) (by omega) Try.underlying26 sz25) ?_
    refine s_stC H 2 rfl rfl rfl rfl (by rw [hgo, updR_off _ _ (by omega), ho]) e1 rfl sz25 ?_
    clear H; intro _ H; simp only [jA, jB, jC, jD, jE, jF, jG, jH, jI, jJ, jK, Nat.reduceAdd] at H
    refine k_nil ?_
    refine b_norm ?_
    refine c_norm ?_
    refine k_rg ?_
    refine s_run rfl rfl (rmi rfl) ?_
    refine s_run rfl rfl (r_add rfl rfl (wI (by omega))) ?_
    refine s_run rfl rfl (rai rfl) ?_
    refine k_nil ?_
    refine c_round ?_
    have hS1 := H.own_freshG (G := K ++ [p4, p2]) (fun _ h => h) hKW; have hc1 := own_cap H 0 rfl; exact ⟨_, _, by omega, rfl, J + 1, _, by omega, rfl, by rw [xsOf_upd, xsOf_upd, hx, fDrainTo_succ _ _ _ hm4, eo, eg]; rfl, ((hD'.later H.only hI2).upd (r := ⟨C, gn + on, q, gxs ++ oxs⟩) hS1 (by rw [List.length_append, glen, olen]) hc1 (by show gn + on ≤ _; omega)).upd (r := RowS.nil) Sees.nil rfl (Nat.le_refl _) (Nat.zero_le _), fun i hi => by rw [updR_off _ _ (by omega), updR_off _ _ (by omega)]; exact hfar i (by omega), fun i hi => Nat.lt_of_lt_of_le (hKW i hi) H.only.size, rfl, rfl, rfl, rfl, (HB.whole H).drop⟩
   ·refine up_mk rfl ?_
    refine s_run rfl rfl (r_lo H 1 rfl rfl hgoD ag25) ?_
    refine k_nil ?_
    refine t_on trivial ?_
    refine t_up1 5 (by kernel_rfl) ?_
    refine up_mk rfl ?_
    refine s_run rfl rfl (r_lo H 1 rfl rfl hggD ag25) ?_
    refine k_nil ?_
    refine t_on trivial ?_
    refine t_up1 13 (by kernel_rfl) ?_
    refine up_mk rfl ?_
    refine s_call rfl (dJoin ((gsee.later H.only hI2).mono (by simp)) ((osee.later H.only hI2).mono (by simp)) glen olen ⟨by omega, by omega⟩) (ca97 rfl) ?_
    rintro e W1 ⟨C, q, rfl, H'⟩
    refine ⟨_, rfl, ?_⟩
    have H := H.more H'; clear H'; simp only [List.cons_append, List.nil_append] at H
    refine k_nil ?_
    refine t_on trivial ?_
    refine tqh 16 rfl rfl rfl (fun _ hS => r_ia1 (i := 0) rfl rfl (by omega) (by omega) Try.underlying26 sz25) trivial ?_
    refine t_up1 17 (by kernel_rfl) ?_
    refine up_mk rfl ?_
    refine s_stC H 2 rfl rfl rfl rfl hggD e2 rfl sz25 ?_
    clear H; intro _ H; simp only [jA, jB, jC, jD, jE, jF, jG, jH, jI, jJ, jK, Nat.reduceAdd] at H
    refine k_nil ?_
    refine t_on trivial ?_
    refine t_done (by kernel_rfl) ?_
    refine c_norm ?_
    refine k_rg ?_
    refine s_run rfl rfl (rmi rfl) ?_
    refine s_run rfl rfl (rmi rfl) ?_
    refine s_run rfl rfl (r_add rfl rfl (wI (by omega))) ?_
    refine s_run rfl rfl (r_fa0 rfl fo29_0) ?_
    refine s_run rfl rfl (r_ia (i := J) rfl rfl (by omega) (by omega) Try.underlying27 sz26) ?_
    refine s_run rfl rfl (r_ia1 (i := (1 + m)) rfl rfl (by omega) (by omega) Try.underlying26 sz25) ?_
    refine s_stC H 2 rfl rfl rfl rfl (by rw [hgo, updR_off _ _ (by omega), ho]) e1 rfl sz25 ?_
    clear H; intro _ H; simp only [jA, jB, jC, jD, jE, jF, jG, jH, jI, jJ, jK, Nat.reduceAdd] at H
    refine k_nil ?_
    refine b_norm ?_
    refine c_norm ?_
    refine k_rg ?_
    refine s_run rfl rfl (rmi rfl) ?_
    refine s_run rfl rfl (r_add rfl rfl (wI (by omega))) ?_
    refine s_run rfl rfl (rai rfl) ?_
    refine k_nil ?_
    refine c_round ?_
    have hS1 := H.own_freshG (G := K ++ [p4, p2]) (fun _ h => h) hKW; have hc1 := own_cap H 0 rfl; exact ⟨_, _, by omega, rfl, J + 1, _, by omega, rfl, by rw [xsOf_upd, xsOf_upd, hx, fDrainTo_succ _ _ _ hm4, eo, eg]; rfl, ((hD'.later H.only hI2).upd (r := ⟨C, gn + on, q, gxs ++ oxs⟩) hS1 (by rw [List.length_append, glen, olen]) hc1 (by show gn + on ≤ _; omega)).upd (r := RowS.nil) Sees.nil rfl (Nat.le_refl _) (Nat.zero_le _), fun i hi => by rw [updR_off _ _ (by omega), updR_off _ _ (by omega)]; exact hfar i (by omega), fun i hi => Nat.lt_of_lt_of_le (hKW i hi) H.only.size, rfl, rfl, rfl, rfl, (HB.whole H).drop⟩
  ·obtain rfl : J = 32 := by omega
   refine k_seq ?_
   refine k_sg ?_
   refine s_run rfl rfl (rmi rfl) ?_
   refine s_call rfl (hM _) (ca81 rfl) ?_
   rintro e W1 ⟨rfl, H'⟩
   refine ⟨_, rfl, ?_⟩
   have H := H.same H'; clear H'
   refine s_run rfl rfl (rmb rfl) ?_
   refine s_run rfl (g_on 8 (by kernel_rfl) rfl) (rmi rfl) ?_
   refine s_run rfl (g_on 8 (by kernel_rfl) rfl) (r_lssF rfl rfl (by omega)) ?_
   refine s_run rfl rfl (r_pkT (v := .bool _) rfl rfl) ?_
   refine k_nc ?_
   refine k_f rfl ?_
   refine k_exit ?_
   refine c_exit ?_
   refine c_exit ?_
   refine b_hit ?_
   refine c_norm ?_
   refine k_sg ?_
   refine s_run rfl rfl (r_la H 1 rfl rfl (fC_len _) ag29 sz29) ?_
   refine s_sw H 0 rfl rfl rfl rfl rfl rfl rfl sz29 ?_
   clear H; intro _ H; simp only [jA, jB, jC, jD, jE, jF, jG, jH, jI, jJ, jK, Nat.reduceAdd] at H
   refine k_nc ?_
   refine k_ret ?_
   refine fx1r rfl (rv_a H 0 rfl rfl rfl ag29 sz29) ?_
   exact ⟨D', rfl, hx, (hD'.later H.only hI2).mono (fun i hi => List.mem_append_left _ hi) (Nat.le_refl _), (HB.whole H).only⟩
end Go.Proofs.Ytlakbclnilakbaa
end
