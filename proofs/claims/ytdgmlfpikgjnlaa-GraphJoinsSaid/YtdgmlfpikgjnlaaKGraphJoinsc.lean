/- Parts of the proof, one behind the other. -/
import Derived.Deep.Slices
import Derived.Deep.Fields
import Derived.ChangeSame
import Derived.Test.YtdgmlfpikgjnlaaKGraphJoinsb
set_option linter.unusedSimpArgs false
set_option linter.unusedVariables false
section
namespace Go.Proofs.Ytdgmlfpikgjnlaa
open Go.RowKit
set_option maxRecDepth 100000
set_option maxHeartbeats 4000000
theorem dInts (A B : Option Addr) (n c m d : Nat) (xs ys : List Int) (w : World) (hx : Sees (Value.int .i64) w [] A xs) (hy : Sees (Value.int .i64) w [] B ys) (lx : xs.length = n) (ly : ys.length = m) (bx : ∀ p ∈ xs, -9223372036854775808 ≤ p ∧ p ≤ 9223372036854775807) (by_ : ∀ p ∈ ys, -9223372036854775808 ≤ p ∧ p ≤ 9223372036854775807) (n1 : n ≤ 100000) (m1 : m ≤ 100000) :
  Calls Try.prog 49 [.slice A n c, .slice B m d].toArray w fun e w' => e = .returned (.bool (eqB xs ys)) ∧ Only [] w w' :=
 (gints_any A B n c m d xs ys _ _ w (hx.row lx) (hy.row ly) (fun p hp => wf_i64 (bx p hp)) (fun p hp => wf_i64 (by_ p hp)) (by unfold maxLen; omega) (by unfold maxLen; omega)).mono fun e w' ⟨h, q, hq⟩ => ⟨h, by subst hq; exact only_drewN w q⟩
theorem dSame (a b : GrS) (w : World) (ha : GrOk w [] a) (hb : GrOk w [] b) (sa : Sm a) (sb : Sm b) :
  Calls Try.prog 17 [.agg a.cells.toArray, .agg b.cells.toArray].toArray w fun e w' => e = .returned (.bool (sameB a b)) ∧ Only [] w w' := by
 have H := Heap.nil w
 have an := sa.n
 have bn := sb.n
 have am := sa.m
 have bm := sb.m
 have anl := ha.nl
 have bnl := hb.nl
 have hEr := fun W (h : Only [] w W) => dInts a.A b.A a.n a.c b.n b.c a.rs b.rs W (ha.rs.later h (by simp)) (hb.rs.later h (by simp)) ha.rl hb.rl ha.rb hb.rb (by omega) (by omega)
 have hno : a.rs ≠ b.rs ∨ a.m ≠ b.m → sameB a b = false := fun h => decide_eq_false fun h2 => by
  rcases h with h | h
  ·exact h h2.1
  ·have := congrArg List.length h2.2
   rw [a.nodes_len, b.nodes_len] at this; omega
 unfold GrS.cells at *
 by_cases hrs : a.rs = b.rs
 ·rw [eqB_yes _ _ hrs] at hEr
  by_cases hmm : a.m = b.m
  ·refine k_in (N := 74) Try.func17 rfl rfl rfl ?_
   refine k_sg ?_
   refine s_box H rfl rfl ?_
   intro p2 _ H'; clear H; have H := H'; clear H'
   refine s_box H rfl rfl ?_
   intro p3 _ H'; clear H; have H := H'; clear H'
   refine s_run rfl rfl (rab rfl) ?_
   refine k_nc ?_
   refine k_seq ?_
   refine k_sg ?_
   refine s_run rfl rfl (r_fa0 rfl fo30_0) ?_
   refine s_run rfl rfl (r_lo H 1 rfl rfl rfl ag22) ?_
   refine s_run rfl rfl (r_fa0 rfl fo30_0) ?_
   refine s_run rfl rfl (r_lo H 0 rfl rfl rfl ag22) ?_
   refine s_call rfl (hEr _ H.only) (ca49 rfl) ?_
   rintro e W1 ⟨rfl, H'⟩
   refine ⟨_, rfl, ?_⟩
   have H := H.same H'; clear H'
   refine s_run rfl rfl (r_notT rfl) ?_
   refine s_run rfl rfl (rmb rfl) ?_
   refine s_run rfl (g_on 15 (by kernel_rfl) rfl) (r_fa0 rfl fo30_1) ?_
   refine s_run rfl (g_on 15 (by kernel_rfl) rfl) (r_lo H 1 rfl rfl rfl ag28) ?_
   refine s_run rfl (g_on 15 (by kernel_rfl) rfl) (r_len rfl Try.underlying28) ?_
   refine s_run rfl (g_on 15 (by kernel_rfl) rfl) (r_fa0 rfl fo30_1) ?_
   refine s_run rfl (g_on 15 (by kernel_rfl) rfl) (r_lo H 0 rfl rfl rfl ag28) ?_
   refine s_run rfl (g_on 15 (by kernel_rfl) rfl) (r_len rfl Try.underlying28) ?_
   refine s_run rfl (g_on 15 (by kernel_rfl) rfl) (r_neqF rfl rfl (by omega)) ?_
   refine s_run rfl rfl (r_pkF (v := .bool _) rfl rfl) ?_
   refine k_nc ?_
   refine k_f rfl ?_
   refine k_skip ?_
   refine c_norm ?_
   refine k_seq ?_
   refine k_sg ?_
   refine s_run rfl rfl (rai rfl) ?_
   refine k_nc ?_
   refine k_b ?_
   refine k_loop (fun z f W => ∃ i : Nat, i ≤ a.m ∧ z = a.m - i ∧ a.nodes.take i = b.nodes.take i ∧ f 2 = ptr p2 ∧ f 3 = ptr p3 ∧ f 5 = .int .i64 i ∧ Heap w [] [blk p3 [.slice b.A b.n b.c, .slice b.B b.m b.d] 30, blk p2 [.slice a.A a.n a.c, .slice a.B a.m a.d] 30] W) a.m ⟨0, by omega, rfl, rfl, rfl, rfl, rfl, H⟩ ?_
   clear H
   rintro z f W ⟨i, hi, rfl, he, f2, f3, f5, H⟩
   obtain ⟨f, rfl⟩ := live3 f2 f3 f5
   clear f2 f3 f5
   by_cases hlt : i < a.m
   ·obtain ⟨x, hx⟩ : ∃ x, a.ns[i]? = some x := ⟨_, List.getElem?_eq_getElem (by omega)⟩
    obtain ⟨y, hy⟩ : ∃ y, b.ns[i]? = some y := ⟨_, List.getElem?_eq_getElem (by omega)⟩
    have hxm := List.mem_of_getElem? hx
    have hym := List.mem_of_getElem? hy
    obtain ⟨ab, ao, hAB, _, hrx⟩ := ha.ns.1 (by omega)
    obtain ⟨bb, bo, hBB, _, hry⟩ := hb.ns.1 (by omega)
    have hxc := hrx i x hx
    have hyc := hry i y hy
    have hxo := ha.ns.2 x hxm
    have hyo := hb.ns.2 y hym
    have hxs := sa.p x hxm
    have hys := sb.p y hym
    have hxdl := hxo.dl
    have hydl := hyo.dl
    have hEp := fun W (h : Only [] w W) => dInts x.A y.A x.n x.c y.n y.c x.ps y.ps W (hxo.ps.later h (by simp)) (hyo.ps.later h (by simp)) hxo.pl hyo.pl hxo.pb hyo.pb (by omega) (by omega)
    have hnode : (x.ps, x.ds) ≠ (y.ps, y.ds) → sameB a b = false := fun h => decide_eq_false fun h2 => h (by
     have h3 := nodes_get hx
     rw [h2.2, nodes_get hy] at h3
     injection h3 with h3; exact h3.symm)
    unfold NodeS.cells at hxc hyc
    rw [hAB, hBB] at H
    refine k_seq ?_
    refine k_sg ?_
    refine s_run rfl rfl (rmi rfl) ?_
    refine s_run rfl rfl (r_fa0 rfl fo30_1) ?_
    refine s_run rfl rfl (r_lo H 1 rfl rfl rfl ag28) ?_
    refine s_run rfl rfl (r_len rfl Try.underlying28) ?_
    refine s_run rfl rfl (r_lssT rfl rfl (by omega)) ?_
    refine k_nc ?_
    refine k_t rfl ?_
    refine k_skip ?_
    refine c_norm ?_
    refine k_seq ?_
    refine k_b ?_
    refine k_seq ?_
    refine k_cut (fun f W => ∃ p6 p7, f 2 = ptr p2 ∧ f 3 = ptr p3 ∧ f 5 = .int .i64 i ∧ f 6 = ptr p6 ∧ f 7 = ptr p7 ∧ Heap w [] [blk p7 [.slice y.A y.n y.c, .slice y.B y.m y.d] 40, blk p6 [.slice x.A x.n x.c, .slice x.B x.m x.d] 40, blk p3 [.slice b.A b.n b.c, .slice (some ⟨bb, bo, none⟩) b.m b.d] 30, blk p2 [.slice a.A a.n a.c, .slice (some ⟨ab, ao, none⟩) a.m a.d] 30] W) ?_ ?_
    ·have HR := H; clear H; have H := HR.tree; refine k_tr mixed ?_
     refine tqn 0 rfl rfl rfl (fun _ hS => r_fa0 rfl fo30_1) H.only ?_
     refine tqn 1 rfl rfl rfl (fun _ hS => r_lo (HR.same hS) 1 rfl rfl rfl ag28) H.only ?_
     refine tqn 2 rfl rfl rfl (fun _ hS => r_mv (v := .int _ _) rfl) H.only ?_
     refine tqn 3 rfl rfl rfl (fun _ hS => r_ix (i := i) rfl rfl (by omega) (by omega) Try.underlying28 sz40) H.only ?_
     refine tqn 4 rfl rfl rfl (fun _ hS => r_lA (enc := fun v : Value => v) (zs := [.slice x.A x.n x.c, .slice x.B x.m x.d]) (hxc.later (HR.same hS).only (by simp)) rfl rfl ag40 sz40) H.only ?_
     refine tqn 5 rfl rfl rfl (fun _ hS => r_fa0 rfl fo30_1) H.only ?_
     refine tqn 6 rfl rfl rfl (fun _ hS => r_lo (HR.same hS) 0 rfl rfl rfl ag28) H.only ?_
     refine tqn 7 rfl rfl rfl (fun _ hS => r_mv (v := .int _ _) rfl) H.only ?_
     refine tqn 8 rfl rfl rfl (fun _ hS => r_ix (i := i) rfl rfl (by omega) (by omega) Try.underlying28 sz40) H.only ?_
     refine tqn 9 rfl rfl rfl (fun _ hS => r_lA (enc := fun v : Value => v) (zs := [.slice y.A y.n y.c, .slice y.B y.m y.d]) (hyc.later (HR.same hS).only (by simp)) rfl rfl ag40 sz40) H.only ?_
     refine t_up2 10 11 (by kernel_rfl) ?_ ?_
     ·refine up_mk rfl ?_
      refine s_al H rfl inf40 ?_
      intro p6 _ H'; clear H; have H := H'; clear H'
      refine k_nil ?_
      refine t_on H.only ?_
      refine t_up1 11 (by kernel_rfl) ?_
      refine up_mk rfl ?_
      refine s_al H rfl inf40 ?_
      intro p7 _ H'; clear H; have H := H'; clear H'
      refine k_nil ?_
      refine t_on H.only ?_
      refine t_up1 12 (by kernel_rfl) ?_
      refine up_mk rfl ?_
      refine s_sw H 1 rfl rfl rfl rfl rfl rfl rfl sz40 ?_
      clear H; intro _ H; simp only [jA, jB, jC, jD, jE, jF, jG, jH, jI, jJ, jK, Nat.reduceAdd] at H
      refine k_nil ?_
      refine t_on H.only ?_
      refine t_up1 13 (by kernel_rfl) ?_
      refine up_mk rfl ?_
      refine s_sw H 0 rfl rfl rfl rfl rfl rfl rfl sz40 ?_
      clear H; intro _ H; simp only [jA, jB, jC, jD, jE, jF, jG, jH, jI, jJ, jK, Nat.reduceAdd] at H
      refine k_nil ?_
      refine t_on H.only ?_
      refine t_done (by kernel_rfl) ?_
      have H := HR.more H; clear HR; simp only [List.cons_append, List.nil_append] at H
      refine k_met ?_
      exact ⟨_, _, rfl, rfl, rfl, rfl, rfl, H⟩
     ·refine up_mk rfl ?_
      refine s_al H rfl inf40 ?_
      intro p7 _ H'; clear H; have H := H'; clear H'
      refine k_nil ?_
      refine t_on H.only ?_
      refine t_up1 10 (by kernel_rfl) ?_
      refine up_mk rfl ?_
      refine s_al H rfl inf40 ?_
      intro p6 _ H'; clear H; have H := H'; clear H'
      refine k_nil ?_
      refine t_on H.only ?_
      refine t_up1 12 (by kernel_rfl) ?_
      refine up_mk rfl ?_
      refine s_sw H 0 rfl rfl rfl rfl rfl rfl rfl sz40 ?_
      clear H; intro _ H; simp only [jA, jB, jC, jD, jE, jF, jG, jH, jI, jJ, jK, Nat.reduceAdd] at H
      refine k_nil ?_
      refine t_on H.only ?_
      refine t_up1 13 (by kernel_rfl) ?_
      refine up_mk rfl ?_
      refine s_sw H 1 rfl rfl rfl rfl rfl rfl rfl sz40 ?_
      clear H; intro _ H; simp only [jA, jB, jC, jD, jE, jF, jG, jH, jI, jJ, jK, Nat.reduceAdd] at H
      refine k_nil ?_
      refine t_on H.only ?_
      refine t_done (by kernel_rfl) ?_
      replace H := H.pick 1 rfl; simp only [jL, jM] at H
      have H := HR.more H; clear HR; simp only [List.cons_append, List.nil_append] at H
      refine k_met ?_
      exact ⟨_, _, rfl, rfl, rfl, rfl, rfl, H⟩
    ·clear H
     rintro f W ⟨p6, p7, f2, f3, f5, f6, f7, H⟩
     obtain ⟨f, rfl⟩ := live5 f2 f3 f5 f6 f7
     clear f2 f3 f5 f6 f7
     by_cases hp : x.ps = y.ps
     ·rw [eqB_yes _ _ hp] at hEp
      by_cases hd : x.m = y.m
      ·refine c_norm ?_
       refine k_seq ?_
       refine k_sg ?_
       refine s_run rfl rfl (r_fa0 rfl fo40_0) ?_
       refine s_run rfl rfl (r_lo H 1 rfl rfl rfl ag22) ?_
       refine s_run rfl rfl (r_fa0 rfl fo40_0) ?_
       refine s_run rfl rfl (r_lo H 0 rfl rfl rfl ag22) ?_
       refine s_call rfl (hEp _ H.only) (ca49 rfl) ?_
       rintro e W1 ⟨rfl, H'⟩
       refine ⟨_, rfl, ?_⟩
       have H := H.same H'; clear H'
       refine s_run rfl rfl (r_notT rfl) ?_
       refine s_run rfl rfl (rmb rfl) ?_
       refine s_run rfl (g_on 47 (by kernel_rfl) rfl) (r_fa0 rfl fo40_1) ?_
       refine s_run rfl (g_on 47 (by kernel_rfl) rfl) (r_lo H 1 rfl rfl rfl ag37) ?_
       refine s_run rfl (g_on 47 (by kernel_rfl) rfl) (r_len rfl Try.underlying37) ?_
       refine s_run rfl (g_on 47 (by kernel_rfl) rfl) (r_fa0 rfl fo40_1) ?_
       refine s_run rfl (g_on 47 (by kernel_rfl) rfl) (r_lo H 0 rfl rfl rfl ag37) ?_
       refine s_run rfl (g_on 47 (by kernel_rfl) rfl) (r_len rfl Try.underlying37) ?_
       refine s_run rfl (g_on 47 (by kernel_rfl) rfl) (r_neqF rfl rfl (by omega)) ?_
       refine s_run rfl rfl (r_pkF (v := .bool _) rfl rfl) ?_
       refine k_nc ?_
       refine k_f rfl ?_
       refine k_skip ?_
       refine c_norm ?_
       refine k_sg ?_
       refine s_run rfl rfl (rai rfl) ?_
       refine k_nc ?_
       refine k_b ?_
       refine k_loop (fun z f W => ∃ k : Nat, k ≤ x.m ∧ z = x.m - k ∧ x.ds.take k = y.ds.take k ∧ f 2 = ptr p2 ∧ f 3 = ptr p3 ∧ f 5 = .int .i64 i ∧ f 6 = ptr p6 ∧ f 7 = ptr p7 ∧ f 8 = .int .i64 k ∧ Heap w [] [blk p7 [.slice y.A y.n y.c, .slice y.B y.m y.d] 40, blk p6 [.slice x.A x.n x.c, .slice x.B x.m x.d] 40, blk p3 [.slice b.A b.n b.c, .slice (some ⟨bb, bo, none⟩) b.m b.d] 30, blk p2 [.slice a.A a.n a.c, .slice (some ⟨ab, ao, none⟩) a.m a.d] 30] W) x.m ⟨0, by omega, rfl, rfl, rfl, rfl, rfl, rfl, rfl, rfl, H⟩ ?_
       clear H
       rintro z f W ⟨k, hk, rfl, hek, f2, f3, f5, f6, f7, f8, H⟩
       obtain ⟨f, rfl⟩ := live6 f2 f3 f5 f6 f7 f8
       clear f2 f3 f5 f6 f7 f8
       by_cases hkl : k < x.m
       ·obtain ⟨u, hu⟩ : ∃ u, x.ds[k]? = some u := ⟨_, List.getElem?_eq_getElem (by omega)⟩
        obtain ⟨v, hv⟩ : ∃ v, y.ds[k]? = some v := ⟨_, List.getElem?_eq_getElem (by omega)⟩
        obtain ⟨xb, xo, hXB, _, hru⟩ := hxo.ds (by omega)
        obtain ⟨yb, yo, hYB, _, hrv⟩ := hyo.ds (by omega)
        have hcu := hru k u hu
        have hcv := hrv k v hv
        rw [hXB, hYB] at H
        by_cases huv : u = v
        ·refine k_seq ?_
         refine k_sg ?_
         refine s_run rfl rfl (rmi rfl) ?_
         refine s_run rfl rfl (r_fa0 rfl fo40_1) ?_
         refine s_run rfl rfl (r_lo H 1 rfl rfl rfl ag37) ?_
         refine s_run rfl rfl (r_len rfl Try.underlying37) ?_
         refine s_run rfl rfl (r_lssT rfl rfl (by omega)) ?_
         refine k_nc ?_
         refine k_t rfl ?_
         refine k_skip ?_
         refine c_norm ?_
         refine k_seq ?_
         refine k_b ?_
         refine k_seq ?_
         refine k_q mixed (by kernel_rfl) H ?_
         refine q_run rfl rfl (fun _ H => r_fa0 rfl fo40_1) ?_
         refine q_run rfl rfl (fun _ H => r_lo H 1 rfl rfl rfl ag37) ?_
         refine q_run rfl rfl (fun _ H => r_mv (v := .int _ _) rfl) ?_
         refine q_run rfl rfl (fun _ H => r_ix1o (i := k) rfl rfl (by omega) (by omega) Try.underlying37 sz78) ?_
         refine q_run rfl rfl (fun _ H => r_lr H rfl hcu (by simp) ag78) ?_
         refine q_run rfl rfl (fun _ H => r_fa0 rfl fo40_1) ?_
         refine q_run rfl rfl (fun _ H => r_lo H 0 rfl rfl rfl ag37) ?_
         refine q_run rfl rfl (fun _ H => r_mv (v := .int _ _) rfl) ?_
         refine q_run rfl rfl (fun _ H => r_ix1o (i := k) rfl rfl (by omega) (by omega) Try.underlying37 sz78) ?_
         refine q_run rfl rfl (fun _ H => r_lr H rfl hcv (by simp) ag78) ?_
         refine q_run rfl rfl (fun _ H => r_neqF rfl rfl (by omega)) ?_
         refine q_nil ?_
         intro _ H'; clear H; have H := H'; clear H'
         refine c_norm ?_
         refine k_f rfl ?_
         refine k_skip ?_
         refine b_norm ?_
         refine c_norm ?_
         refine k_rg ?_
         refine s_run rfl rfl (rmi rfl) ?_
         refine s_run rfl rfl (r_add rfl rfl (wI (by omega))) ?_
         refine s_run rfl rfl (rai rfl) ?_
         refine k_nil ?_
         refine c_round ?_
         rw [← hXB, ← hYB] at H
         refine ⟨_, _, ?_, rfl, k + 1, by omega, rfl, by rw [List.take_add_one, List.take_add_one, hek, hu, hv, huv], rfl, rfl, rfl, rfl, rfl, rfl, H⟩
         omega
        ·rw [hnode (fun h => huv (by
          injection h with _ h
          rw [h, hv] at hu; injection hu with hu; exact hu.symm))]
         refine k_seq ?_
         refine k_sg ?_
         refine s_run rfl rfl (rmi rfl) ?_
         refine s_run rfl rfl (r_fa0 rfl fo40_1) ?_
         refine s_run rfl rfl (r_lo H 1 rfl rfl rfl ag37) ?_
         refine s_run rfl rfl (r_len rfl Try.underlying37) ?_
         refine s_run rfl rfl (r_lssT rfl rfl (by omega)) ?_
         refine k_nc ?_
         refine k_t rfl ?_
         refine k_skip ?_
         refine c_norm ?_
         refine k_seq ?_
         refine k_b ?_
         refine k_seq ?_
         refine k_q mixed (by kernel_rfl) H ?_
         refine q_run rfl rfl (fun _ H => r_fa0 rfl fo40_1) ?_
         refine q_run rfl rfl (fun _ H => r_lo H 1 rfl rfl rfl ag37) ?_
         refine q_run rfl rfl (fun _ H => r_mv (v := .int _ _) rfl) ?_
         refine q_run rfl rfl (fun _ H => r_ix1o (i := k) rfl rfl (by omega) (by omega) Try.underlying37 sz78) ?_
         refine q_run rfl rfl (fun _ H => r_lr H rfl hcu (by simp) ag78) ?_
         refine q_run rfl rfl (fun _ H => r_fa0 rfl fo40_1) ?_
         refine q_run rfl rfl (fun _ H => r_lo H 0 rfl rfl rfl ag37) ?_
         refine q_run rfl rfl (fun _ H => r_mv (v := .int _ _) rfl) ?_
         refine q_run rfl rfl (fun _ H => r_ix1o (i := k) rfl rfl (by omega) (by omega) Try.underlying37 sz78) ?_
         refine q_run rfl rfl (fun _ H => r_lr H rfl hcv (by simp) ag78) ?_
         refine q_run rfl rfl (fun _ H => r_neqT rfl rfl (by omega)) ?_
         refine q_nil ?_
         intro _ H'; clear H; have H := H'; clear H'
         refine c_norm ?_
         refine k_t rfl ?_
         refine k_sg ?_
         refine s_run rfl rfl (rab rfl) ?_
         refine k_nc ?_
         refine k_ret ?_
         refine b_ret ?_
         refine c_ret ?_
         refine c_ret ?_
         refine b_ret ?_
         refine b_ret ?_
         refine c_ret ?_
         refine c_ret ?_
         refine b_ret ?_
         refine c_ret ?_
         refine fin1r (v := .bool _) rfl rfl ?_
         exact ⟨rfl, H.only⟩
       ·obtain rfl : k = x.m := by omega
        have e1 : x.ds.take x.m = x.ds := by rw [← hxdl]; exact List.take_length
        have e2 : y.ds.take x.m = y.ds := by rw [hd, ← hydl]; exact List.take_length
        rw [e1, e2] at hek
        refine k_seq ?_
        refine k_sg ?_
        refine s_run rfl rfl (rmi rfl) ?_
        refine s_run rfl rfl (r_fa0 rfl fo40_1) ?_
        refine s_run rfl rfl (r_lo H 1 rfl rfl rfl ag37) ?_
        refine s_run rfl rfl (r_len rfl Try.underlying37) ?_
        refine s_run rfl rfl (r_lssF rfl rfl (by omega)) ?_
        refine k_nc ?_
        refine k_f rfl ?_
        refine k_exit ?_
        refine c_exit ?_
        refine c_exit ?_
        refine b_hit ?_
        refine b_norm ?_
        refine c_norm ?_
        refine k_rg ?_
        refine s_run rfl rfl (rmi rfl) ?_
        refine s_run rfl rfl (r_add rfl rfl (wI (by omega))) ?_
        refine s_run rfl rfl (rai rfl) ?_
        refine k_nil ?_
        refine c_round ?_
        rw [← hAB, ← hBB] at H
        refine ⟨_, _, ?_, rfl, i + 1, by omega, rfl, by rw [List.take_add_one, List.take_add_one, he, nodes_get hx, nodes_get hy, hp, hek], rfl, rfl, rfl, H.drop.drop⟩
        omega
      ·rw [hnode (fun h => hd (by
        injection h with _ h
        rw [← hxdl, ← hydl, h]))]
       refine c_norm ?_
       refine k_seq ?_
       refine k_sg ?_
       refine s_run rfl rfl (r_fa0 rfl fo40_0) ?_
       refine s_run rfl rfl (r_lo H 1 rfl rfl rfl ag22) ?_
       refine s_run rfl rfl (r_fa0 rfl fo40_0) ?_
       refine s_run rfl rfl (r_lo H 0 rfl rfl rfl ag22) ?_
       refine s_call rfl (hEp _ H.only) (ca49 rfl) ?_
       rintro e W1 ⟨rfl, H'⟩
       refine ⟨_, rfl, ?_⟩
       have H := H.same H'; clear H'
       refine s_run rfl rfl (r_notT rfl) ?_
       refine s_run rfl rfl (rmb rfl) ?_
       refine s_run rfl (g_on 47 (by kernel_rfl) rfl) (r_fa0 rfl fo40_1) ?_
       refine s_run rfl (g_on 47 (by kernel_rfl) rfl) (r_lo H 1 rfl rfl rfl ag37) ?_
       refine s_run rfl (g_on 47 (by kernel_rfl) rfl) (r_len rfl Try.underlying37) ?_
       refine s_run rfl (g_on 47 (by kernel_rfl) rfl) (r_fa0 rfl fo40_1) ?_
       refine s_run rfl (g_on 47 (by kernel_rfl) rfl) (r_lo H 0 rfl rfl rfl ag37) ?_
       refine s_run rfl (g_on 47 (by kernel_rfl) rfl) (r_len rfl Try.underlying37) ?_
       refine s_run rfl (g_on 47 (by kernel_rfl) rfl) (r_neqT rfl rfl (by omega)) ?_
       refine s_run rfl rfl (r_pkF (v := .bool _) rfl rfl) ?_
       refine k_nc ?_
       refine k_t rfl ?_
       refine k_sg ?_
       refine s_run rfl rfl (rab rfl) ?_
       refine k_nc ?_
       refine k_ret ?_
       refine c_ret ?_
       refine b_ret ?_
       refine c_ret ?_
       refine c_ret ?_
       refine b_ret ?_
       refine c_ret ?_
       refine fin1r (v := .bool _) rfl rfl ?_
       exact ⟨rfl, H.only⟩
     ·rw [eqB_no _ _ hp] at hEp
      rw [hnode (fun h => hp (by injection h))]
      refine c_norm ?_
      refine k_seq ?_
      refine k_sg ?_
      refine s_run rfl rfl (r_fa0 rfl fo40_0) ?_
      refine s_run rfl rfl (r_lo H 1 rfl rfl rfl ag22) ?_
      refine s_run rfl rfl (r_fa0 rfl fo40_0) ?_
      refine s_run rfl rfl (r_lo H 0 rfl rfl rfl ag22) ?_
      refine s_call rfl (hEp _ H.only) (ca49 rfl) ?_
      rintro e W1 ⟨rfl, H'⟩
      refine ⟨_, rfl, ?_⟩
      have H := H.same H'; clear H'
      refine s_run rfl rfl (r_notF rfl) ?_
      refine s_run rfl rfl (rmb rfl) ?_
      refine s_off rfl (g_off 47 (by kernel_rfl) rfl rfl) ?_
      refine s_off rfl (g_off 47 (by kernel_rfl) rfl rfl) ?_
      refine s_off rfl (g_off 47 (by kernel_rfl) rfl rfl) ?_
      refine s_off rfl (g_off 47 (by kernel_rfl) rfl rfl) ?_
      refine s_off rfl (g_off 47 (by kernel_rfl) rfl rfl) ?_
      refine s_off rfl (g_off 47 (by kernel_rfl) rfl rfl) ?_
      refine s_off rfl (g_off 47 (by kernel_rfl) rfl rfl) ?_
      refine s_run rfl rfl (r_pkT (v := .bool _) rfl rfl) ?_
      refine k_nc ?_
      refine k_t rfl ?_
      refine k_sg ?_
      refine s_run rfl rfl (rab rfl) ?_
      refine k_nc ?_
      refine k_ret ?_
      refine c_ret ?_
      refine b_ret ?_
      refine c_ret ?_
      refine c_ret ?_
      refine b_ret ?_
      refine c_ret ?_
      refine fin1r (v := .bool _) rfl rfl ?_
      exact ⟨rfl, H.only⟩
   ·obtain rfl : i = a.m := by omega
    have e1 : a.nodes.take a.m = a.nodes := by rw [← anl, ← a.nodes_len]; exact List.take_length
    have e2 : b.nodes.take a.m = b.nodes := by rw [hmm, ← bnl, ← b.nodes_len]; exact List.take_length
    rw [show sameB a b = true from decide_eq_true ⟨hrs, by rw [← e1, ← e2]; exact he⟩]
    refine k_seq ?_
    refine k_sg ?_
    refine s_run rfl rfl (rmi rfl) ?_
    refine s_run rfl rfl (r_fa0 rfl fo30_1) ?_
    refine s_run rfl rfl (r_lo H 1 rfl rfl rfl ag28) ?_
    refine s_run rfl rfl (r_len rfl Try.underlying28) ?_
    refine s_run rfl rfl (r_lssF rfl rfl (by omega)) ?_
    refine k_nc ?_
    refine k_f rfl ?_
    refine k_exit ?_
    refine c_exit ?_
    refine c_exit ?_
    refine b_hit ?_
    refine c_norm ?_
    refine k_sg ?_
    refine s_run rfl rfl (rab rfl) ?_
    refine k_nc ?_
    refine k_ret ?_
    refine fin1r (v := .bool _) rfl rfl ?_
    exact ⟨rfl, H.only⟩
  ·rw [hno (.inr hmm)]
   refine k_in (N := 74) Try.func17 rfl rfl rfl ?_
   refine k_sg ?_
   refine s_box H rfl rfl ?_
   intro p2 _ H'; clear H; have H := H'; clear H'
   refine s_box H rfl rfl ?_
   intro p3 _ H'; clear H; have H := H'; clear H'
   refine s_run rfl rfl (rab rfl) ?_
   refine k_nc ?_
   refine k_seq ?_
   refine k_sg ?_
   refine s_run rfl rfl (r_fa0 rfl fo30_0) ?_
   refine s_run rfl rfl (r_lo H 1 rfl rfl rfl ag22) ?_
   refine s_run rfl rfl (r_fa0 rfl fo30_0) ?_
   refine s_run rfl rfl (r_lo H 0 rfl rfl rfl ag22) ?_
   refine s_call rfl (hEr _ H.only) (ca49 rfl) ?_
   rintro e W1 ⟨rfl, H'⟩
   refine ⟨_, rfl, ?_⟩
   have H := H.same H'; clear H'
   refine s_run rfl rfl (r_notT rfl) ?_
   refine s_run rfl rfl (rmb rfl) ?_
   refine s_run rfl (g_on 15 (by kernel_rfl) rfl) (r_fa0 rfl fo30_1) ?_
   refine s_run rfl (g_on 15 (by kernel_rfl) rfl) (r_lo H 1 rfl rfl rfl ag28) ?_
   refine s_run rfl (g_on 15 (by kernel_rfl) rfl) (r_len rfl Try.underlying28) ?_
   refine s_run rfl (g_on 15 (by kernel_rfl) rfl) (r_fa0 rfl fo30_1) ?_
   refine s_run rfl (g_on 15 (by kernel_rfl) rfl) (r_lo H 0 rfl rfl rfl ag28) ?_
   refine s_run rfl (g_on 15 (by kernel_rfl) rfl) (r_len rfl Try.underlying28) ?_
   refine s_run rfl (g_on 15 (by kernel_rfl) rfl) (r_neqT rfl rfl (by omega)) ?_
   refine s_run rfl rfl (r_pkF (v := .bool _) rfl rfl) ?_
   refine k_nc ?_
   refine k_t rfl ?_
   refine k_sg ?_
   refine s_run rfl rfl (rab rfl) ?_
   refine k_nc ?_
   refine k_ret ?_
   refine c_ret ?_
   refine fin1r (v := .bool _) rfl rfl ?_
   exact ⟨rfl, H.only⟩
 ·rw [eqB_no _ _ hrs] at hEr
  rw [hno (.inl hrs)]
  refine k_in (N := 74) Try.func17 rfl rfl rfl ?_
  refine k_sg ?_
  refine s_box H rfl rfl ?_
  intro p2 _ H'; clear H; have H := H'; clear H'
  refine s_box H rfl rfl ?_
  intro p3 _ H'; clear H; have H := H'; clear H'
  refine s_run rfl rfl (rab rfl) ?_
  refine k_nc ?_
  refine k_seq ?_
  refine k_sg ?_
  refine s_run rfl rfl (r_fa0 rfl fo30_0) ?_
  refine s_run rfl rfl (r_lo H 1 rfl rfl rfl ag22) ?_
  refine s_run rfl rfl (r_fa0 rfl fo30_0) ?_
  refine s_run rfl rfl (r_lo H 0 rfl rfl rfl ag22) ?_
  refine s_call rfl (hEr _ H.only) (ca49 rfl) ?_
  rintro e W1 ⟨rfl, H'⟩
  refine ⟨_, rfl, ?_⟩
  have H := H.same H'; clear H'
  refine s_run rfl rfl (r_notF rfl) ?_
  refine s_run rfl rfl (rmb rfl) ?_
  refine s_off rfl (g_off 15 (by kernel_rfl) rfl rfl) ?_
  refine s_off rfl (g_off 15 (by kernel_rfl) rfl rfl) ?_
  refine s_off rfl (g_off 15 (by kernel_rfl) rfl rfl) ?_
  refine s_off rfl (g_off 15 (by kernel_rfl) rfl rfl) ?_
  refine s_off rfl (g_off 15 (by kernel_rfl) rfl rfl) ?_
  refine s_off rfl (g_off 15 (by kernel_rfl) rfl rfl) ?_
  refine s_off rfl (g_off 15 (by kernel_rfl) rfl rfl) ?_
  refine s_run rfl rfl (r_pkT (v := .bool _) rfl rfl) ?_
  refine k_nc ?_
  refine k_t rfl ?_
  refine k_sg ?_
  refine s_run rfl rfl (rab rfl) ?_
  refine k_nc ?_
  refine k_ret ?_
  refine c_ret ?_
  refine fin1r (v := .bool _) rfl rfl ?_
  exact ⟨rfl, H.only⟩
end Go.Proofs.Ytdgmlfpikgjnlaa
end

section
namespace Go.Proofs.Ytdgmlfpikgjnlaa
open Go.RowKit
set_option maxRecDepth 100000
set_option maxHeartbeats 2000000
def fewB (g : GrS) : Bool := decide (g.n ≤ 40 ∧ g.m ≤ 60 ∧ ∀ x ∈ g.ns, x.n ≤ 70 ∧ x.m ≤ 200)
theorem few_sm {g : GrS} (h : fewB g = true) : Sm g := by
 obtain ⟨h1, h2, h3⟩ := of_decide_eq_true h
 exact ⟨by omega, by omega, fun x hx => by have := h3 x hx; omega⟩
theorem lFew (g : GrS) (w : World) (hg : GrOk w [] g) :
  Calls Try.prog 14 [.agg g.cells.toArray].toArray w fun e w' => e = .returned (.bool (fewB g)) ∧ Only [] w w' := by
 have H := Heap.nil w
 have hnl := hg.nl
 have hnb := hg.nb
 have hmb := hg.mb
 have hbad : ∀ x ∈ g.ns, ¬ (x.n ≤ 70 ∧ x.m ≤ 200) → fewB g = false := fun x hx h => decide_eq_false fun h2 => h (h2.2.2 x hx)
 unfold GrS.cells
 by_cases h1 : g.n ≤ 40
 ·by_cases h2 : g.m ≤ 60
  ·refine k_in (N := 39) Try.func14 rfl rfl rfl ?_
   refine k_sg ?_
   refine s_box H rfl rfl ?_
   intro p1 _ H'; clear H; have H := H'; clear H'
   refine s_run rfl rfl (rab rfl) ?_
   refine k_nc ?_
   refine k_seq ?_
   refine k_sg ?_
   refine s_run rfl rfl (r_fa0 rfl fo25_0) ?_
   refine s_run rfl rfl (r_lo H 0 rfl rfl rfl ag22) ?_
   refine s_run rfl rfl (r_len rfl Try.underlying22) ?_
   refine s_run rfl rfl (r_gtrF rfl rfl (by omega)) ?_
   refine s_run rfl rfl (rmb rfl) ?_
   refine s_run rfl (g_on 8 (by kernel_rfl) rfl) (r_fa0 rfl fo25_1) ?_
   refine s_run rfl (g_on 8 (by kernel_rfl) rfl) (r_lo H 0 rfl rfl rfl ag23) ?_
   refine s_run rfl (g_on 8 (by kernel_rfl) rfl) (r_len rfl Try.underlying23) ?_
   refine s_run rfl (g_on 8 (by kernel_rfl) rfl) (r_gtrF rfl rfl (by omega)) ?_
   refine s_run rfl rfl (r_pkF (v := .bool _) rfl rfl) ?_
   refine k_nc ?_
   refine k_f rfl ?_
   refine k_skip ?_
   refine c_norm ?_
   refine k_seq ?_
   refine k_sg ?_
   refine s_run rfl rfl (rai rfl) ?_
   refine k_nc ?_
   refine k_b ?_
   refine k_loop (fun z f W => ∃ i : Nat, i ≤ g.m ∧ z = g.m - i ∧ (∀ j x, j < i → g.ns[j]? = some x → x.n ≤ 70 ∧ x.m ≤ 200) ∧ f 1 = ptr p1 ∧ f 3 = .int .i64 i ∧ Heap w [] [blk p1 [.slice g.A g.n g.c, .slice g.B g.m g.d] 25] W) g.m ⟨0, by omega, rfl, by omega, rfl, rfl, H⟩ ?_
   clear H
   rintro z f W ⟨i, hi, rfl, hall, f1, f3, H⟩
   obtain ⟨f, rfl⟩ := live2 f1 f3
   clear f1 f3
   by_cases hlt : i < g.m
   ·obtain ⟨x, hx⟩ : ∃ x, g.ns[i]? = some x := ⟨_, List.getElem?_eq_getElem (by omega)⟩
    have hxm := List.mem_of_getElem? hx
    have hxo := hg.ns.2 x hxm
    have hxn := hxo.nb
    have hxd := hxo.mb
    obtain ⟨b, o, hB, _, hrd⟩ := hg.ns.1 (by omega)
    have hc0 := hrd i x hx 0 _ rfl
    have hc1 := hrd i x hx 1 _ rfl
    rw [hB] at H
    by_cases h70 : x.n ≤ 70
    ·by_cases h200 : x.m ≤ 200
     ·refine k_seq ?_
      refine k_sg ?_
      refine s_run rfl rfl (rmi rfl) ?_
      refine s_run rfl rfl (r_fa0 rfl fo25_1) ?_
      refine s_run rfl rfl (r_lo H 0 rfl rfl rfl ag23) ?_
      refine s_run rfl rfl (r_len rfl Try.underlying23) ?_
      refine s_run rfl rfl (r_lssT rfl rfl (by omega)) ?_
      refine k_nc ?_
      refine k_t rfl ?_
      refine k_skip ?_
      refine c_norm ?_
      refine k_seq ?_
      refine k_b ?_
      refine k_sg ?_
      refine s_run rfl rfl (r_fa0 rfl fo25_1) ?_
      refine s_run rfl rfl (r_lo H 0 rfl rfl rfl ag23) ?_
      refine s_run rfl rfl (rmi rfl) ?_
      refine s_run rfl rfl (r_ix (i := i) rfl rfl (by omega) (by omega) Try.underlying23 sz39) ?_
      refine s_run rfl rfl (r_fa rfl fo39_0) ?_
      refine s_run rfl rfl (r_lr H rfl hc0 (by simp) ag22) ?_
      refine s_run rfl rfl (r_len rfl Try.underlying22) ?_
      refine s_run rfl rfl (r_gtrF rfl rfl (by omega)) ?_
      refine s_run rfl rfl (rmb rfl) ?_
      refine s_run rfl (g_on 29 (by kernel_rfl) rfl) (r_fa0 rfl fo25_1) ?_
      refine s_run rfl (g_on 29 (by kernel_rfl) rfl) (r_lo H 0 rfl rfl rfl ag23) ?_
      refine s_run rfl (g_on 29 (by kernel_rfl) rfl) (rmi rfl) ?_
      refine s_run rfl (g_on 29 (by kernel_rfl) rfl) (r_ix (i := i) rfl rfl (by omega) (by omega) Try.underlying23 sz39) ?_
      refine s_run rfl (g_on 29 (by kernel_rfl) rfl) (r_fa rfl fo39_1) ?_
      refine s_run rfl (g_on 29 (by kernel_rfl) rfl) (r_lr H rfl hc1 (by simp) ag37) ?_
      refine s_run rfl (g_on 29 (by kernel_rfl) rfl) (r_len rfl Try.underlying37) ?_
      refine s_run rfl (g_on 29 (by kernel_rfl) rfl) (r_gtrF rfl rfl (by omega)) ?_
      refine s_run rfl rfl (r_pkF (v := .bool _) rfl rfl) ?_
      refine k_nc ?_
      refine k_f rfl ?_
      refine k_skip ?_
      refine b_norm ?_
      refine c_norm ?_
      refine k_rg ?_
      refine s_run rfl rfl (rmi rfl) ?_
      refine s_run rfl rfl (r_add rfl rfl (wI (by omega))) ?_
      refine s_run rfl rfl (rai rfl) ?_
      refine k_nil ?_
      refine c_round ?_
      rw [← hB] at H
      refine ⟨_, _, ?_, rfl, i + 1, by omega, rfl, fun j y hj hy => ?_, rfl, rfl, H⟩
      ·omega
      ·by_cases e : j = i
       ·subst e; rw [hx] at hy; injection hy with hy; subst hy; exact ⟨h70, h200⟩
       ·exact hall j y (by omega) hy
     ·rw [hbad x hxm (fun h => h200 h.2)]
      refine k_seq ?_
      refine k_sg ?_
      refine s_run rfl rfl (rmi rfl) ?_
      refine s_run rfl rfl (r_fa0 rfl fo25_1) ?_
      refine s_run rfl rfl (r_lo H 0 rfl rfl rfl ag23) ?_
      refine s_run rfl rfl (r_len rfl Try.underlying23) ?_
      refine s_run rfl rfl (r_lssT rfl rfl (by omega)) ?_
      refine k_nc ?_
      refine k_t rfl ?_
      refine k_skip ?_
      refine c_norm ?_
      refine k_seq ?_
      refine k_b ?_
      refine k_sg ?_
      refine s_run rfl rfl (r_fa0 rfl fo25_1) ?_
      refine s_run rfl rfl (r_lo H 0 rfl rfl rfl ag23) ?_
      refine s_run rfl rfl (rmi rfl) ?_
      refine s_run rfl rfl (r_ix (i := i) rfl rfl (by omega) (by omega) Try.underlying23 sz39) ?_
      refine s_run rfl rfl (r_fa rfl fo39_0) ?_
      refine s_run rfl rfl (r_lr H rfl hc0 (by simp) ag22) ?_
      refine s_run rfl rfl (r_len rfl Try.underlying22) ?_
      refine s_run rfl rfl (r_gtrF rfl rfl (by omega)) ?_
      refine s_run rfl rfl (rmb rfl) ?_
      refine s_run rfl (g_on 29 (by kernel_rfl) rfl) (r_fa0 rfl fo25_1) ?_
      refine s_run rfl (g_on 29 (by kernel_rfl) rfl) (r_lo H 0 rfl rfl rfl ag23) ?_
      refine s_run rfl (g_on 29 (by kernel_rfl) rfl) (rmi rfl) ?_
      refine s_run rfl (g_on 29 (by kernel_rfl) rfl) (r_ix (i := i) rfl rfl (by omega) (by omega) Try.underlying23 sz39) ?_
      refine s_run rfl (g_on 29 (by kernel_rfl) rfl) (r_fa rfl fo39_1) ?_
      refine s_run rfl (g_on 29 (by kernel_rfl) rfl) (r_lr H rfl hc1 (by simp) ag37) ?_
      refine s_run rfl (g_on 29 (by kernel_rfl) rfl) (r_len rfl Try.underlying37) ?_
      refine s_run rfl (g_on 29 (by kernel_rfl) rfl) (r_gtrT rfl rfl (by omega)) ?_
      refine s_run rfl rfl (r_pkF (v := .bool _) rfl rfl) ?_
      refine k_nc ?_
      refine k_t rfl ?_
      refine k_sg ?_
      refine s_run rfl rfl (rab rfl) ?_
      refine k_nc ?_
      refine k_ret ?_
      refine b_ret ?_
      refine c_ret ?_
      refine c_ret ?_
      refine b_ret ?_
      refine c_ret ?_
      refine fin1r (v := .bool _) rfl rfl ?_
      exact ⟨rfl, H.only⟩
    ·rw [hbad x hxm (fun h => h70 h.1)]
     refine k_seq ?_
     refine k_sg ?_
     refine s_run rfl rfl (rmi rfl) ?_
     refine s_run rfl rfl (r_fa0 rfl fo25_1) ?_
     refine s_run rfl rfl (r_lo H 0 rfl rfl rfl ag23) ?_
     refine s_run rfl rfl (r_len rfl Try.underlying23) ?_
     refine s_run rfl rfl (r_lssT rfl rfl (by omega)) ?_
     refine k_nc ?_
     refine k_t rfl ?_
     refine k_skip ?_
     refine c_norm ?_
     refine k_seq ?_
     refine k_b ?_
     refine k_sg ?_
     refine s_run rfl rfl (r_fa0 rfl fo25_1) ?_
     refine s_run rfl rfl (r_lo H 0 rfl rfl rfl ag23) ?_
     refine s_run rfl rfl (rmi rfl) ?_
     refine s_run rfl rfl (r_ix (i := i) rfl rfl (by omega) (by omega) Try.underlying23 sz39) ?_
     refine s_run rfl rfl (r_fa rfl fo39_0) ?_
     refine s_run rfl rfl (r_lr H rfl hc0 (by simp) ag22) ?_
     refine s_run rfl rfl (r_len rfl Try.underlying22) ?_
     refine s_run rfl rfl (r_gtrT rfl rfl (by omega)) ?_
     refine s_run rfl rfl (rmb rfl) ?_
     refine s_off rfl (g_off 29 (by kernel_rfl) rfl rfl) ?_
     refine s_off rfl (g_off 29 (by kernel_rfl) rfl rfl) ?_
     refine s_off rfl (g_off 29 (by kernel_rfl) rfl rfl) ?_
     refine s_off rfl (g_off 29 (by kernel_rfl) rfl rfl) ?_
     refine s_off rfl (g_off 29 (by kernel_rfl) rfl rfl) ?_
     refine s_off rfl (g_off 29 (by kernel_rfl) rfl rfl) ?_
     refine s_off rfl (g_off 29 (by kernel_rfl) rfl rfl) ?_
     refine s_off rfl (g_off 29 (by kernel_rfl) rfl rfl) ?_
     refine s_run rfl rfl (r_pkT (v := .bool _) rfl rfl) ?_
     refine k_nc ?_
     refine k_t rfl ?_
     refine k_sg ?_
     refine s_run rfl rfl (rab rfl) ?_
     refine k_nc ?_
     refine k_ret ?_
     refine b_ret ?_
     refine c_ret ?_
     refine c_ret ?_
     refine b_ret ?_
     refine c_ret ?_
     refine fin1r (v := .bool _) rfl rfl ?_
     exact ⟨rfl, H.only⟩
   ·obtain rfl : i = g.m := by omega
    rw [show fewB g = true from decide_eq_true ⟨h1, h2, fun x hx => by
     obtain ⟨j, hj, rfl⟩ := List.mem_iff_getElem.1 hx
     exact hall j _ (by omega) (List.getElem?_eq_getElem hj)⟩]
    refine k_seq ?_
    refine k_sg ?_
    refine s_run rfl rfl (rmi rfl) ?_
    refine s_run rfl rfl (r_fa0 rfl fo25_1) ?_
    refine s_run rfl rfl (r_lo H 0 rfl rfl rfl ag23) ?_
    refine s_run rfl rfl (r_len rfl Try.underlying23) ?_
    refine s_run rfl rfl (r_lssF rfl rfl (by omega)) ?_
    refine k_nc ?_
    refine k_f rfl ?_
    refine k_exit ?_
    refine c_exit ?_
    refine c_exit ?_
    refine b_hit ?_
    refine c_norm ?_
    refine k_sg ?_
    refine s_run rfl rfl (rab rfl) ?_
    refine k_nc ?_
    refine k_ret ?_
    refine fin1r (v := .bool _) rfl rfl ?_
    exact ⟨rfl, H.only⟩
  ·rw [show fewB g = false from decide_eq_false fun h => h2 h.2.1]
   refine k_in (N := 39) Try.func14 rfl rfl rfl ?_
   refine k_sg ?_
   refine s_box H rfl rfl ?_
   intro p1 _ H'; clear H; have H := H'; clear H'
   refine s_run rfl rfl (rab rfl) ?_
   refine k_nc ?_
   refine k_seq ?_
   refine k_sg ?_
   refine s_run rfl rfl (r_fa0 rfl fo25_0) ?_
   refine s_run rfl rfl (r_lo H 0 rfl rfl rfl ag22) ?_
   refine s_run rfl rfl (r_len rfl Try.underlying22) ?_
   refine s_run rfl rfl (r_gtrF rfl rfl (by omega)) ?_
   refine s_run rfl rfl (rmb rfl) ?_
   refine s_run rfl (g_on 8 (by kernel_rfl) rfl) (r_fa0 rfl fo25_1) ?_
   refine s_run rfl (g_on 8 (by kernel_rfl) rfl) (r_lo H 0 rfl rfl rfl ag23) ?_
   refine s_run rfl (g_on 8 (by kernel_rfl) rfl) (r_len rfl Try.underlying23) ?_
   refine s_run rfl (g_on 8 (by kernel_rfl) rfl) (r_gtrT rfl rfl (by omega)) ?_
   refine s_run rfl rfl (r_pkF (v := .bool _) rfl rfl) ?_
   refine k_nc ?_
   refine k_t rfl ?_
   refine k_sg ?_
   refine s_run rfl rfl (rab rfl) ?_
   refine k_nc ?_
   refine k_ret ?_
   refine c_ret ?_
   refine fin1r (v := .bool _) rfl rfl ?_
   exact ⟨rfl, H.only⟩
 ·rw [show fewB g = false from decide_eq_false fun h => h1 h.1]
  refine k_in (N := 39) Try.func14 rfl rfl rfl ?_
  refine k_sg ?_
  refine s_box H rfl rfl ?_
  intro p1 _ H'; clear H; have H := H'; clear H'
  refine s_run rfl rfl (rab rfl) ?_
  refine k_nc ?_
  refine k_seq ?_
  refine k_sg ?_
  refine s_run rfl rfl (r_fa0 rfl fo25_0) ?_
  refine s_run rfl rfl (r_lo H 0 rfl rfl rfl ag22) ?_
  refine s_run rfl rfl (r_len rfl Try.underlying22) ?_
  refine s_run rfl rfl (r_gtrT rfl rfl (by omega)) ?_
  refine s_run rfl rfl (rmb rfl) ?_
  refine s_off rfl (g_off 8 (by kernel_rfl) rfl rfl) ?_
  refine s_off rfl (g_off 8 (by kernel_rfl) rfl rfl) ?_
  refine s_off rfl (g_off 8 (by kernel_rfl) rfl rfl) ?_
  refine s_off rfl (g_off 8 (by kernel_rfl) rfl rfl) ?_
  refine s_run rfl rfl (r_pkT (v := .bool _) rfl rfl) ?_
  refine k_nc ?_
  refine k_t rfl ?_
  refine k_sg ?_
  refine s_run rfl rfl (rab rfl) ?_
  refine k_nc ?_
  refine k_ret ?_
  refine c_ret ?_
  refine fin1r (v := .bool _) rfl rfl ?_
  exact ⟨rfl, H.only⟩
/-- the document's graph: the same rows, in a row of nodes of its own -/
def refG (g : GrS) (NA : Option Addr) (cN : Nat) : GrS := ⟨g.A, g.n, g.c, g.rs, NA, g.m, cN, g.ns⟩
theorem ref_ok {g : GrS} {w W : World} {F : List Nat} {L : List Ent} {NA : Option Addr} {cN : Nat} {T : TypeId} (hg2 : GrOk W [] g) (H : Heap w F L W) (j : Nat) (hj : L[j]? = some (ownN 2 (.slice NA g.m cN) g.m ((flatN g.ns).map C1.v) T)) : GrOk W [] (refG g NA cN) := by
 refine ⟨hg2.rs, hg2.rl, hg2.rb, ⟨fun h0 => ?_, hg2.ns.2⟩, hg2.nl, hg2.nb, hg2.mb⟩
 have h0' : g.ns.length ≠ 0 := h0
 obtain ⟨b, e, _, hr⟩ := H.own_seesN j hj (by rw [flatN_len]; omega)
 refine ⟨b, 0, e, by simp, fun i x hi j u hj => ?_⟩
 obtain ⟨g1, g2⟩ := flatN_get g.ns i x hi
 have hj2 : j < 2 := by have := (List.getElem?_eq_some_iff.1 hj).1; exact this
 rw [show 0 + i * 2 + j = 0 + (i * 2 + j) by omega]
 match j, hj2, hj with
 | 0, _, hj => exact (hr _ _ g1).trans (by simpa [NodeS.cells, C1.v] using hj)
 | 1, _, hj => exact (hr _ _ g2).trans (by simpa [NodeS.cells, C1.v] using hj)
theorem ref_sm {g : GrS} (h : Sm g) (NA : Option Addr) (cN : Nat) : Sm (refG g NA cN) := ⟨h.n, h.m, h.p⟩
theorem lRefE (g : GrS) (w : World) (hg : GrOk w [] g) (hs : Sm g) :
  Calls Try.prog 15 [.agg g.cells.toArray].toArray w fun e w' => ∃ NA cN, e = .returned (.agg (refG g NA cN).cells.toArray) ∧ Heap w [] [ownN 2 (.slice NA g.m cN) g.m ((flatN g.ns).map C1.v) 40] w' := by
 have H := Heap.nil w
 have hnl := hg.nl
 have hm := hs.m
 unfold refG GrS.cells
 refine k_in (N := 34) Try.func15 rfl rfl rfl ?_
 refine k_sg ?_
 refine s_box H rfl rfl ?_
 intro p1 _ H'; clear H; have H := H'; clear H'
 refine s_al H rfl inf30 ?_
 intro p2 _ H'; clear H; have H := H'; clear H'
 refine k_nc ?_
 refine k_sg ?_
 refine s_run rfl rfl (r_fa0 rfl fo25_0) ?_
 refine s_run rfl rfl (r_lo H 1 rfl rfl rfl ag22) ?_
 refine s_run rfl rfl (r_bd (bd30_0 _ _ _) rfl) ?_
 refine s_al H rfl inf30 ?_
 intro p3 _ H'; clear H; have H := H'; clear H'
 refine s_sw H 0 rfl rfl rfl rfl rfl rfl rfl sz30 ?_
 clear H; intro _ H; simp only [jA, jB, jC, jD, jE, jF, jG, jH, jI, jJ, jK, Nat.reduceAdd] at H
 refine k_nc ?_
 refine k_seq ?_
 refine k_sg ?_
 refine s_run rfl rfl (rai rfl) ?_
 refine k_nc ?_
 refine k_b ?_
 replace H := H.own_nil 2 40
 replace H := H.order [1, 0, 2, 3] rfl rfl
 refine k_loop (fun z f W => ∃ (i : Nat) (NA : Option Addr) (cN : Nat), i ≤ g.m ∧ z = g.m - i ∧ f 1 = ptr p1 ∧ f 2 = ptr p2 ∧ f 3 = ptr p3 ∧ f 4 = .int .i64 i ∧ Heap w [] [blk p3 [.slice g.A g.n g.c, .slice NA i cN] 30, ownN 2 (.slice NA i cN) i ((flatN (g.ns.take i)).map C1.v) 40, blk p2 [.slice none 0 0, .slice none 0 0] 30, blk p1 [.slice g.A g.n g.c, .slice g.B g.m g.d] 25] W) g.m ⟨0, none, 0, by omega, rfl, rfl, rfl, rfl, rfl, H⟩ ?_
 clear H
 rintro z f W ⟨i, NA, cN, hi, rfl, f1, f2, f3, f4, H⟩
 obtain ⟨f, rfl⟩ := live4 f1 f2 f3 f4
 clear f1 f2 f3 f4
 by_cases hlt : i < g.m
 ·obtain ⟨x, hx⟩ : ∃ x, g.ns[i]? = some x := ⟨_, List.getElem?_eq_getElem (by omega)⟩
  have hxm := List.mem_of_getElem? hx
  obtain ⟨b, o, hB, _, hrd⟩ := hg.ns.1 (by omega)
  have hc0 := hrd i x hx 0 _ rfl
  have hc1 := hrd i x hx 1 _ rfl
  have hfl : flatN (g.ns.take (i + 1)) = flatN (g.ns.take i) ++ [C1.s x.A x.n x.c, C1.s x.B x.m x.d] := by
   rw [List.take_add_one, hx, Option.toList_some, flatN_snoc]
  rw [hB] at H
  refine k_seq ?_
  refine k_sg ?_
  refine s_run rfl rfl (rmi rfl) ?_
  refine s_run rfl rfl (r_fa0 rfl fo25_1) ?_
  refine s_run rfl rfl (r_lo H 3 rfl rfl rfl ag23) ?_
  refine s_run rfl rfl (r_len rfl Try.underlying23) ?_
  refine s_run rfl rfl (r_lssT rfl rfl (by omega)) ?_
  refine k_nc ?_
  refine k_t rfl ?_
  refine k_skip ?_
  refine c_norm ?_
  refine k_seq ?_
  refine k_b ?_
  refine k_trS (A := [_]) mixed H [3] rfl ?_; have H' := H.drew; clear H; have H := H'; clear H'
  refine tqh 0 rfl rfl rfl (fun _ hS => r_fa0 rfl fo30_1) (H.subl [3] rfl rfl) ?_
  refine tqh 2 rfl rfl rfl (fun _ hS => r_fa0 rfl fo25_1) (H.subl [3] rfl rfl) ?_
  refine tqh 3 rfl rfl rfl (fun _ hS => r_lo hS 0 rfl rfl rfl ag23) (H.subl [3] rfl rfl) ?_
  refine tqh 4 rfl rfl rfl (fun _ hS => r_mv (v := .int _ _) rfl) (H.subl [3] rfl rfl) ?_
  refine tqh 5 rfl rfl rfl (fun _ hS => r_ix (i := i) rfl rfl (by omega) (by omega) Try.underlying23 sz39) (H.subl [3] rfl rfl) ?_
  refine tqh 6 rfl rfl rfl (fun _ hS => r_fa rfl fo39_0) (H.subl [3] rfl rfl) ?_
  refine tqh 7 rfl rfl rfl (fun _ hS => r_lr hS rfl hc0 (by simp) ag22) (H.subl [3] rfl rfl) ?_
  refine tqh 8 rfl rfl rfl (fun _ hS => r_fa0 rfl fo25_1) (H.subl [3] rfl rfl) ?_
  refine tqh 9 rfl rfl rfl (fun _ hS => r_lo hS 0 rfl rfl rfl ag23) (H.subl [3] rfl rfl) ?_
  refine tqh 10 rfl rfl rfl (fun _ hS => r_mv (v := .int _ _) rfl) (H.subl [3] rfl rfl) ?_
  refine tqh 11 rfl rfl rfl (fun _ hS => r_ix (i := i) rfl rfl (by omega) (by omega) Try.underlying23 sz39) (H.subl [3] rfl rfl) ?_
  refine tqh 12 rfl rfl rfl (fun _ hS => r_fa rfl fo39_1) (H.subl [3] rfl rfl) ?_
  refine tqh 13 rfl rfl rfl (fun _ hS => r_lr hS rfl hc1 (by simp) ag37) (H.subl [3] rfl rfl) ?_
  refine tqh 14 rfl rfl rfl (fun _ hS => r_bd (bd40_0_1 _ _ _ _ _ _) rfl) (H.subl [3] rfl rfl) ?_
  refine t_up2 1 15 (by kernel_rfl) ?_ ?_
  ·refine up_mk rfl ?_
   refine s_run rfl rfl (r_lo H 0 rfl rfl rfl ag28) ?_
   refine k_nil ?_
   refine t_on (H.subl [3] rfl rfl) ?_
   refine t_up1 15 (by kernel_rfl) ?_
   refine up_mk rfl ?_
   refine s_bsN (enc := C1.v) (size := 2) (zs := [C1.s x.A x.n x.c, C1.s x.B x.m x.d]) H rfl rfl rfl (by omega) (by kernel_rfl) Try.underlying28 inf40 ?_
   intro _ _ H'; clear H; have H := H'; clear H'
   refine k_nil ?_
   refine t_on (H.subl [4] rfl rfl) ?_
   refine t_up1 16 (by kernel_rfl) ?_
   refine up_mk rfl ?_
   refine s_apB (enc := C1.v) (size := 2) H 1 rfl rfl rfl rfl C1.one (by omega) (by omega) Try.underlying28 inf40 rfl ?_
   intro NA' cN' _ H'; simp only [List.set_cons_zero, List.set_cons_succ, List.take_succ_cons, List.take_zero, List.drop_succ_cons, List.drop_zero, List.cons_append, List.nil_append, List.append_nil, List.length_cons, List.length_nil, Nat.reduceAdd] at H'; clear H; have H := H'; clear H'
   refine k_nil ?_
   refine t_on (H.subl [3] rfl rfl) ?_
   refine tqh 17 rfl rfl rfl (fun _ hS => r_fa0 rfl fo30_1) (H.subl [3] rfl rfl) ?_
   refine t_up1 18 (by kernel_rfl) ?_
   refine up_mk rfl ?_
   refine s_st (u := .slice _ _ _) H 0 rfl rfl rfl rfl rfl rfl sz28 ?_
   clear H; intro _ H; simp only [jA, jB, jC, jD, jE, jF, jG, jH, jI, jJ, jK, Nat.reduceAdd] at H
   refine k_nil ?_
   refine t_on (H.subl [3] rfl rfl) ?_
   refine t_done (by kernel_rfl) ?_
   refine b_norm ?_
   refine c_norm ?_
   refine k_rg ?_
   refine s_run rfl rfl (rmi rfl) ?_
   refine s_run rfl rfl (r_add rfl rfl (wI (by omega))) ?_
   refine s_run rfl rfl (rai rfl) ?_
   refine k_nil ?_
   refine c_round ?_
   refine ⟨_, _, ?_, rfl, i + 1, NA', cN', by omega, rfl, rfl, rfl, rfl, rfl, by rw [hfl, hB]; exact H⟩
   omega
  ·refine up_mk rfl ?_
   refine s_bsN (enc := C1.v) (size := 2) (zs := [C1.s x.A x.n x.c, C1.s x.B x.m x.d]) H rfl rfl rfl (by omega) (by kernel_rfl) Try.underlying28 inf40 ?_
   intro _ _ H'; clear H; have H := H'; clear H'
   refine k_nil ?_
   refine t_on (H.subl [4] rfl rfl) ?_
   refine t_up1 1 (by kernel_rfl) ?_
   refine up_mk rfl ?_
   refine s_run rfl rfl (r_lo H 1 rfl rfl rfl ag28) ?_
   refine k_nil ?_
   refine t_on (H.subl [4] rfl rfl) ?_
   refine t_up1 16 (by kernel_rfl) ?_
   refine up_mk rfl ?_
   refine s_apB (enc := C1.v) (size := 2) H 1 rfl rfl rfl rfl C1.one (by omega) (by omega) Try.underlying28 inf40 rfl ?_
   intro NA' cN' _ H'; simp only [List.set_cons_zero, List.set_cons_succ, List.take_succ_cons, List.take_zero, List.drop_succ_cons, List.drop_zero, List.cons_append, List.nil_append, List.append_nil, List.length_cons, List.length_nil, Nat.reduceAdd] at H'; clear H; have H := H'; clear H'
   refine k_nil ?_
   refine t_on (H.subl [3] rfl rfl) ?_
   refine tqh 17 rfl rfl rfl (fun _ hS => r_fa0 rfl fo30_1) (H.subl [3] rfl rfl) ?_
   refine t_up1 18 (by kernel_rfl) ?_
   refine up_mk rfl ?_
   refine s_st (u := .slice _ _ _) H 0 rfl rfl rfl rfl rfl rfl sz28 ?_
   clear H; intro _ H; simp only [jA, jB, jC, jD, jE, jF, jG, jH, jI, jJ, jK, Nat.reduceAdd] at H
   refine k_nil ?_
   refine t_on (H.subl [3] rfl rfl) ?_
   refine t_done (by kernel_rfl) ?_
   refine b_norm ?_
   refine c_norm ?_
   refine k_rg ?_
   refine s_run rfl rfl (rmi rfl) ?_
   refine s_run rfl rfl (r_add rfl rfl (wI (by omega))) ?_
   refine s_run rfl rfl (rai rfl) ?_
   refine k_nil ?_
   refine c_round ?_
   refine ⟨_, _, ?_, rfl, i + 1, NA', cN', by omega, rfl, rfl, rfl, rfl, rfl, by rw [hfl, hB]; exact H⟩
   omega
 ·obtain rfl : i = g.m := by omega
  have et : g.ns.take g.m = g.ns := by rw [← hnl]; exact List.take_length
  rw [et] at H
  refine k_seq ?_
  refine k_sg ?_
  refine s_run rfl rfl (rmi rfl) ?_
  refine s_run rfl rfl (r_fa0 rfl fo25_1) ?_
  refine s_run rfl rfl (r_lo H 3 rfl rfl rfl ag23) ?_
  refine s_run rfl rfl (r_len rfl Try.underlying23) ?_
  refine s_run rfl rfl (r_lssF rfl rfl (by omega)) ?_
  refine k_nc ?_
  refine k_f rfl ?_
  refine k_exit ?_
  refine c_exit ?_
  refine c_exit ?_
  refine b_hit ?_
  refine c_norm ?_
  refine k_sg ?_
  refine s_run rfl rfl (r_la H 0 rfl rfl rfl ag30 sz30) ?_
  refine s_sw H 2 rfl rfl rfl rfl rfl rfl rfl sz30 ?_
  clear H; intro _ H; simp only [jA, jB, jC, jD, jE, jF, jG, jH, jI, jJ, jK, Nat.reduceAdd] at H
  refine k_nc ?_
  refine k_ret ?_
  refine fx1r rfl (rv_a H 2 rfl rfl rfl ag30 sz30) ?_
  exact ⟨NA, cN, rfl, (H.order [1, 0, 2, 3] rfl rfl : Heap w [] ([_] ++ [_, _, _]) _).drops⟩
end Go.Proofs.Ytdgmlfpikgjnlaa
end

section
namespace Go.Proofs.Ytdgmlfpikgjnlaa
open Go.RowKit
set_option maxRecDepth 100000
set_option maxHeartbeats 2000000
def exG (b4 b6 b8 : Nat) : GrS := ⟨some ⟨b4, 0, none⟩, 1, 1, [1], some ⟨b8, 0, none⟩, 2, 2, [⟨none, 0, 0, [], none, 0, 0, []⟩, ⟨some ⟨b6, 0, none⟩, 1, 1, [0], none, 0, 0, []⟩]⟩
theorem exG_right (b4 b6 b8 : Nat) : rightB (exG b4 b6 b8) = true := by
 unfold rightB exG okN okP
 simp
theorem exG_ord (b4 b6 b8 : Nat) (out : List Int) (h : Gr.IsOrd (Gr.ptr (exG b4 b6 b8).nodes) (exG b4 b6 b8).rs out) : out = [1, 0] :=
 h.same ⟨2, rfl⟩
theorem awake38 (w : World) : Calls Try.prog 13 [].toArray w fun e w' => e = .returned (.bool true) ∧ Only [] w w' := by
 have H := Heap.nil w
 refine k_in (N := 55) Try.func13 rfl rfl rfl ?_
 refine k_sg ?_
 refine s_run rfl rfl (rab rfl) ?_
 refine k_nc ?_
 refine k_sg ?_
 refine s_bsO (enc := (Value.int .i64)) (zs := [1]) H rfl rfl rfl (by omega) (by kernel_rfl) Try.underlying22 inf3 ?_
 intro b4 _ H'; clear H; have H := H'; clear H'
 refine s_run rfl rfl (r_bd (bd39 ) rfl) ?_
 refine s_bsO (enc := (Value.int .i64)) (zs := [0]) H rfl rfl rfl (by omega) (by kernel_rfl) Try.underlying22 inf3 ?_
 intro b6 _ H'; clear H; have H := H'; clear H'
 refine s_run rfl rfl (r_bd (bd39_0 _ _ _) rfl) ?_
 refine s_bsM (enc := C1.v) (size := 2) (zs := [C1.s none 0 0, C1.s none 0 0, C1.s (some ⟨b6, 0, none⟩) 1 1, C1.s none 0 0]) H rfl rfl rfl (by omega) (by omega) (by kernel_rfl) Try.underlying23 inf39 ?_
 intro b8 W8 H'
 clear H; have H := H'; clear H'
 refine s_run rfl rfl (r_bd (bd25_0_1 _ _ _ _ _ _) rfl) ?_
 have hok : GrOk W8 [] (exG b4 b6 b8) := by
  refine ⟨H.own_sees 2 rfl, rfl, by simp [exG], ⟨fun _ => ?_, fun x hx => ?_⟩, rfl, by simp [exG], by simp [exG]⟩
  ·obtain ⟨b, e, _, hr⟩ := H.own_seesN 0 rfl (by simp)
   injection e with e
   injection e with e _ _
   subst e
   refine ⟨b8, 0, rfl, by simp, fun i x hi j u hj => ?_⟩
   match i, j, hi, hj with
   | 0, 0, hi, hj => simp [exG] at hi; subst hi; simp [NodeS.cells] at hj; subst hj; exact hr 0 (C1.s none 0 0) rfl
   | 0, 1, hi, hj => simp [exG] at hi; subst hi; simp [NodeS.cells] at hj; subst hj; exact hr 1 (C1.s none 0 0) rfl
   | 1, 0, hi, hj => simp [exG] at hi; subst hi; simp [NodeS.cells] at hj; subst hj; exact hr 2 (C1.s (some ⟨b6, 0, none⟩) 1 1) rfl
   | 1, 1, hi, hj => simp [exG] at hi; subst hi; simp [NodeS.cells] at hj; subst hj; exact hr 3 (C1.s none 0 0) rfl
   | 0, j + 2, hi, hj => simp [exG] at hi; subst hi; simp [NodeS.cells] at hj
   | 1, j + 2, hi, hj => simp [exG] at hi; subst hi; simp [NodeS.cells] at hj
   | i + 2, j, hi, hj => simp [exG] at hi
  ·simp [exG] at hx
   rcases hx with rfl | rfl
   ·exact ⟨Sees.nil, rfl, Sees.nil, rfl, by simp, by simp, by simp [exG], by simp [exG]⟩
   ·exact ⟨H.own_sees 1 rfl, rfl, Sees.nil, rfl, by simp, by simp, by simp [exG], by simp [exG]⟩
 have hsm : Sm (exG b4 b6 b8) := ⟨by simp [exG], by simp [exG], fun x hx => by
  simp [exG] at hx
  rcases hx with rfl | rfl
  ·exact ⟨by simp [exG], by simp [exG]⟩
  ·exact ⟨by simp [exG], by simp [exG]⟩⟩
 have hC := gCanon1 (exG b4 b6 b8) W8 hok (exG_right b4 b6 b8) hsm
 refine s_call rfl (hC) (ca28 rfl) ?_
 rintro e W1 ⟨⟨g', out, rfl, kg, ho, er, en, e3, e4, _, _⟩, H'⟩
 refine ⟨_, rfl, ?_⟩
 have H := H.same H'; clear H'; have HP := H; clear H; have H := Heap.nil W1; unfold GrS.cells
 refine s_run rfl rfl (rmt rfl) ?_
 refine s_run rfl rfl (r_ext (v := .agg _) rfl rfl) ?_
 refine s_run rfl rfl (r_ext (v := .int _ _) rfl rfl) ?_
 refine s_al H rfl inf25 ?_
 intro p1 _ H'; clear H; have H := H'; clear H'
 refine s_sw H 0 rfl rfl rfl rfl rfl rfl rfl sz25 ?_
 clear H; intro _ H; simp only [jA, jB, jC, jD, jE, jF, jG, jH, jI, jJ, jK, Nat.reduceAdd] at H
 refine s_run rfl rfl (rai rfl) ?_
 refine k_nc ?_
 refine k_sg ?_
 obtain rfl := exG_ord b4 b6 b8 out ho
 have er2 : g'.rs = [0] := er.trans rfl
 have en2 : g'.nodes = [([1], []), ([], [])] := en.trans rfl
 have e32 : g'.n = 1 := e3
 have e42 : g'.m = 2 := e4
 obtain ⟨x0, hx0, hx0p⟩ : ∃ x0, g'.ns[0]? = some x0 ∧ x0.ps = [1] := by
  have h1 : g'.nodes[0]? = some ([1], []) := by rw [en2]; rfl
  unfold GrS.nodes at h1
  rw [List.getElem?_map] at h1
  cases hq : g'.ns[0]? with
  | none => rw [hq] at h1; cases h1
  | some x => rw [hq] at h1; injection h1 with h1; injection h1 with h1 _; exact ⟨x, rfl, h1⟩
 have hxo := kg.ns.2 x0 (List.mem_of_getElem? hx0)
 have hx0n : x0.n = 1 := by rw [← hxo.pl, hx0p]; rfl
 obtain ⟨rb, ro, hRA, _, hrr⟩ := kg.rs (by rw [er2]; simp)
 have hc1 := hrr 0 0 (by rw [er2]; rfl)
 obtain ⟨nb, no, hNB, _, hrn⟩ := kg.ns.1 (by have := (List.getElem?_eq_some_iff.1 hx0).1; omega)
 have hc2 := hrn 0 x0 hx0 0 _ rfl
 obtain ⟨pb, po, hPA, _, hrp⟩ := hxo.ps (by rw [hx0p]; simp)
 have hc3 := hrp 0 1 (by rw [hx0p]; rfl)
 rw [hPA, hx0n] at hc2
 rw [hRA, hNB, e32, e42] at H
 refine s_run rfl rfl (rmi rfl) ?_
 refine s_run rfl rfl (r_eqlT rfl rfl (by omega)) ?_
 refine s_run rfl rfl (rmb rfl) ?_
 refine s_run rfl (g_on 15 (by kernel_rfl) rfl) (r_fa0 rfl fo25_0) ?_
 refine s_run rfl (g_on 15 (by kernel_rfl) rfl) (r_lo H 0 rfl rfl rfl ag22) ?_
 refine s_run rfl (g_on 15 (by kernel_rfl) rfl) (r_len rfl Try.underlying22) ?_
 refine s_run rfl (g_on 15 (by kernel_rfl) rfl) (r_eqlT rfl rfl (by omega)) ?_
 refine s_run rfl rfl (r_pkT (v := .bool _) rfl rfl) ?_
 refine s_run rfl rfl (rmb rfl) ?_
 refine s_run rfl (g_on 21 (by kernel_rfl) rfl) (r_fa0 rfl fo25_0) ?_
 refine s_run rfl (g_on 21 (by kernel_rfl) rfl) (r_lo H 0 rfl rfl rfl ag22) ?_
 refine s_run rfl (g_on 21 (by kernel_rfl) rfl) (r_ix1o (i := 0) rfl rfl (by omega) (by omega) Try.underlying22 sz3) ?_
 refine s_run rfl (g_on 21 (by kernel_rfl) rfl) (r_lr H rfl hc1 (by simp) ag3) ?_
 refine s_run rfl (g_on 21 (by kernel_rfl) rfl) (r_eqlT rfl rfl (by omega)) ?_
 refine s_run rfl rfl (r_pkT (v := .bool _) rfl rfl) ?_
 refine s_run rfl rfl (rmb rfl) ?_
 refine s_run rfl (g_on 28 (by kernel_rfl) rfl) (r_fa0 rfl fo25_1) ?_
 refine s_run rfl (g_on 28 (by kernel_rfl) rfl) (r_lo H 0 rfl rfl rfl ag23) ?_
 refine s_run rfl (g_on 28 (by kernel_rfl) rfl) (r_len rfl Try.underlying23) ?_
 refine s_run rfl (g_on 28 (by kernel_rfl) rfl) (r_eqlT rfl rfl (by omega)) ?_
 refine s_run rfl rfl (r_pkT (v := .bool _) rfl rfl) ?_
 refine s_run rfl rfl (rmb rfl) ?_
 refine s_run rfl (g_on 34 (by kernel_rfl) rfl) (r_fa0 rfl fo25_1) ?_
 refine s_run rfl (g_on 34 (by kernel_rfl) rfl) (r_lo H 0 rfl rfl rfl ag23) ?_
 refine s_run rfl (g_on 34 (by kernel_rfl) rfl) (r_ix (i := 0) rfl rfl (by omega) (by omega) Try.underlying23 sz39) ?_
 refine s_run rfl (g_on 34 (by kernel_rfl) rfl) (r_fa rfl fo39_0) ?_
 refine s_run rfl (g_on 34 (by kernel_rfl) rfl) (r_lr H rfl hc2 (by simp) ag22) ?_
 refine s_run rfl (g_on 34 (by kernel_rfl) rfl) (r_len rfl Try.underlying22) ?_
 refine s_run rfl (g_on 34 (by kernel_rfl) rfl) (r_eqlT rfl rfl (by omega)) ?_
 refine s_run rfl rfl (r_pkT (v := .bool _) rfl rfl) ?_
 refine s_run rfl rfl (rmb rfl) ?_
 refine s_run rfl (g_on 43 (by kernel_rfl) rfl) (r_fa0 rfl fo25_1) ?_
 refine s_run rfl (g_on 43 (by kernel_rfl) rfl) (r_lo H 0 rfl rfl rfl ag23) ?_
 refine s_run rfl (g_on 43 (by kernel_rfl) rfl) (r_ix (i := 0) rfl rfl (by omega) (by omega) Try.underlying23 sz39) ?_
 refine s_run rfl (g_on 43 (by kernel_rfl) rfl) (r_fa rfl fo39_0) ?_
 refine s_run rfl (g_on 43 (by kernel_rfl) rfl) (r_lr H rfl hc2 (by simp) ag22) ?_
 refine s_run rfl (g_on 43 (by kernel_rfl) rfl) (r_ix1o (i := 0) rfl rfl (by omega) (by omega) Try.underlying22 sz3) ?_
 refine s_run rfl (g_on 43 (by kernel_rfl) rfl) (r_lr H rfl hc3 (by simp) ag3) ?_
 refine s_run rfl (g_on 43 (by kernel_rfl) rfl) (r_eqlT rfl rfl (by omega)) ?_
 refine s_run rfl rfl (r_pkT (v := .bool _) rfl rfl) ?_
 refine s_run rfl rfl (rmb rfl) ?_
 refine s_run rfl rfl (r_pkT (v := .bool _) rfl rfl) ?_
 refine s_run rfl rfl (rab rfl) ?_
 refine k_nc ?_
 refine k_ret ?_
 refine fin1r (v := .bool _) rfl rfl ?_
 exact ⟨rfl, HP.only.trans H.only⟩
end Go.Proofs.Ytdgmlfpikgjnlaa
end

section
namespace Go.Proofs.Ytdgmlfpikgjnlaa
section
open Go.ChangeShapes Go.WideShapes Go.Deep
variable {H : Type} {enc : TypeId × Value → H} {w : World} {base : Nat} {spare : Nat → Bool} {held : Bool}
theorem o_add {b o i : Nat} : (⟨b, o, none⟩ : Addr).add i = ⟨b, o + i, none⟩ := by
 unfold Addr.add; split
 ·subst_vars; rfl
 ·rfl
theorem o_sees {k : IntKind} {t e : TypeId} {fuel : Nat} {v : Value} {y : DataW H × List MemPlace} (ht : Try.prog.underlying t = some (.slice e)) (he : Try.prog.underlying e = some (.int k)) (hc : Try.prog.cellsOf e = 1)
  (h : DataW.trod enc Try.prog w base spare held fuel t [v] = some y) :
  ∃ A n c xs, v = .slice A n c ∧ Sees (Value.int k) w [] A xs ∧ xs.length = n ∧ n ≤ c ∧ c ≤ maxLen ∧ ∀ z ∈ xs, (Lit.int k z).wf = true := by
 rcases open_ints ht he hc h with ⟨hcs, _⟩ | ⟨x, l, c, zs, hcs, _, hl, hm, hz, _, hcell, hwf⟩
 ·injection hcs with hv _
  exact ⟨none, 0, 0, [], hv, Sees.nil, rfl, by omega, by decide, by simp⟩
 ·injection hcs with hv _
  have hzl : l ≤ zs.length := by rw [hz]; split <;> omega
  refine ⟨some x, l, c, zs.take l, hv, fun h0 => ?_, by simp; omega, hl, hm, fun z hz => hwf z (List.mem_of_mem_take hz)⟩
  obtain ⟨b, off, spot⟩ := x
  have h0' : 0 < l := by simp at h0; omega
  have hc0 := hcell 0 (by omega)
  have hspot : spot = none := by simpa [Addr.add] using World.cell?_spot hc0
  subst hspot
  refine ⟨b, off, rfl, by simp, fun j z hj => ?_⟩
  have hjl : j < l := by have := (List.getElem?_eq_some_iff.1 hj).1; simp at this; omega
  rw [List.getElem?_take_of_lt hjl] at hj
  have hc2 := hcell j (by omega)
  rw [o_add] at hc2
  rw [hc2]
  simp [List.getD, hj]
theorem o_list {α : Type} {Q : Nat → α → Prop} : ∀ n : Nat, (∀ i, i < n → ∃ x, Q i x) → ∃ l : List α, l.length = n ∧ ∀ i x, l[i]? = some x → Q i x
 | 0, _ => ⟨[], rfl, by simp⟩
 | n + 1, h => by
  obtain ⟨l, hl, hq⟩ := o_list n (fun i hi => h i (by omega))
  obtain ⟨x, hx⟩ := h n (by omega)
  refine ⟨l ++ [x], by simp [hl], fun i y hy => ?_⟩
  by_cases hi : i < l.length
  ·rw [List.getElem?_append_left hi] at hy; exact hq i y hy
  ·have hi2 : i < n + 1 := by have := (List.getElem?_eq_some_iff.1 hy).1; simp at this; omega
   obtain rfl : i = n := by omega
   rw [List.getElem?_append_right (by omega)] at hy
   simp [hl] at hy
   subst hy; exact hx
set_option maxRecDepth 100000 in
theorem o_one {t : TypeId} {fs : Array Field} (h : Try.prog.underlying t = some (.struct fs)) (h2 : (match Try.prog.underlying t with | some (.struct fs) => oneCellFields Try.prog fs | _ => false) = true) : oneCellFields Try.prog fs = true := by
 rw [h] at h2; exact h2
end
end Go.Proofs.Ytdgmlfpikgjnlaa
end

section
namespace Go.Proofs.Ytdgmlfpikgjnlaa
open Go.RowKit
structure NodeO where
 A0 : Option Addr
 n0 : Nat
 c0 : Nat
 xs0 : List Int
 A1 : Option Addr
 n1 : Nat
 c1 : Nat
 xs1 : List Int
def NodeO.cells (u : NodeO) : List Value := [.slice u.A0 u.n0 u.c0, .slice u.A1 u.n1 u.c1]
structure NodeOOk (w : World) (u : NodeO) : Prop where
 s0 : Sees (Value.int .i64) w [] u.A0 u.xs0
 l0 : u.xs0.length = u.n0
 m0 : u.n0 ≤ u.c0 ∧ u.c0 ≤ maxLen
 b0 : ∀ z ∈ u.xs0, (Lit.int .i64 z).wf = true
 s1 : Sees (Value.int .u64) w [] u.A1 u.xs1
 l1 : u.xs1.length = u.n1
 m1 : u.n1 ≤ u.c1 ∧ u.c1 ≤ maxLen
 b1 : ∀ z ∈ u.xs1, (Lit.int .u64 z).wf = true
def ScriptNodeO (w : World) (A : Option Addr) (ops : List NodeO) : Prop := (ops.length ≠ 0 → ∃ b o, A = some ⟨b, o, none⟩ ∧ ∀ i op, ops[i]? = some op → Reads (fun v : Value => v) w b (o + i * 2) op.cells) ∧ ∀ op ∈ ops, NodeOOk w op
theorem NodeOOk.later {w W : World} {u : NodeO} (h : NodeOOk w u) (hO : Only [] w W) : NodeOOk W u := ⟨h.s0.later hO (by simp), h.l0, h.m0, h.b0, h.s1.later hO (by simp), h.l1, h.m1, h.b1⟩
theorem ScriptNodeO.later {w W : World} {A : Option Addr} {ops : List NodeO} (h : ScriptNodeO w A ops) (hO : Only [] w W) : ScriptNodeO W A ops :=
 ⟨fun h0 => by
  obtain ⟨b, o, e, hr⟩ := h.1 h0
  exact ⟨b, o, e, fun i op hi => (hr i op hi).later hO (by simp)⟩, fun op hop => (h.2 op hop).later hO⟩
section
open Go.ChangeShapes Go.WideShapes Go.Deep
variable {H : Type} {enc : TypeId × Value → H} {w : World} {base : Nat} {spare : Nat → Bool} {held : Bool}
set_option maxRecDepth 100000 in
theorem open_NodeO {fuel : Nat} {cs : List Value} {y : DataW H × List MemPlace} (h : DataW.trod enc Try.prog w base spare held fuel 39 cs = some y) : ∃ op : NodeO, cs = op.cells ∧ NodeOOk w op := by
 obtain ⟨xs, n, _, _, hl, hlen, hg⟩ := DataW.trod_struct Try.underlying39 h
 have hone := o_one Try.underlying39 (by kernel_rfl)
 have hcl : cs.length = 2 := hl.trans (by kernel_rfl)
 replace hlen : xs.length = 2 := hlen
 match cs, hcl, xs, hlen with
 | [c0, c1], _, [y0, y1], _ =>
  obtain ⟨o0, k0⟩ := hone_of hone 0 _ rfl
  obtain ⟨o1, k1⟩ := hone_of hone 1 _ rfl
  have g0 := hg 0 _ rfl
  have g1 := hg 1 _ rfl
  rw [o0, k0] at g0
  rw [o1, k1] at g1
  replace g0 := g0.trans (show _ = some y0 from rfl)
  replace g1 := g1.trans (show _ = some y1 from rfl)
  obtain ⟨A0, m0, q0, bs0, e0, hs0, hb0, hmc0, hcm0, hw0⟩ := o_sees Try.underlying22 Try.underlying3 (by kernel_rfl) (show DataW.trod enc Try.prog w base spare held n 22 [c0] = some y0 from g0)
  obtain ⟨A1, m1, q1, bs1, e1, hs1, hb1, hmc1, hcm1, hw1⟩ := o_sees Try.underlying37 Try.underlying78 (by kernel_rfl) (show DataW.trod enc Try.prog w base spare held n 37 [c1] = some y1 from g1)
  subst e0
  subst e1
  exact ⟨⟨A0, m0, q0, bs0, A1, m1, q1, bs1⟩, rfl, hs0, hb0, ⟨hmc0, hcm0⟩, hw0, hs1, hb1, ⟨hmc1, hcm1⟩, hw1⟩

def NodeO.s (u : NodeO) : NodeS := ⟨u.A0, u.n0, u.c0, u.xs0, u.A1, u.n1, u.c1, u.xs1⟩
theorem NodeO.ok {W : World} {u : NodeO} (h : NodeOOk W u) : NodeOk W [] u.s := by
 refine ⟨h.s0, h.l0, h.s1, h.l1, fun p hp => bounds_i64 (h.b0 p hp), fun p hp => bounds_u64 (h.b1 p hp), ?_, ?_⟩
 ·have := h.m0; simp only [maxLen] at this; show u.n0 ≤ _; omega
 ·have := h.m1; simp only [maxLen] at this; show u.n1 ≤ _; omega
set_option maxRecDepth 100000 in
theorem open_graph (W : World) {r : Reach} (b0 : Nat) (v : Value) (d : DataW H) (p : List MemPlace)
  (hv : Value.okWide Try.prog W r b0 25 v) (h : DataW.Trod enc Try.prog W base spare held 25 v d p) :
  ∃ g : GrS, v = .agg g.cells.toArray ∧ GrOk W [] g := by
 obtain ⟨cs, rfl, hsz⟩ := okWide_struct Try.underlying25 hv
 obtain ⟨fuel, hf⟩ := h
 obtain ⟨xs, n, _, _, hl, hlen, hg⟩ := DataW.trod_struct Try.underlying25 hf
 have hone := o_one Try.underlying25 (by kernel_rfl)
 have hl2 : cs.toList.length = 2 := hl.trans (by kernel_rfl)
 have hlen2 : xs.length = 2 := hlen
 obtain ⟨cl, rfl⟩ : ∃ cl, cs = List.toArray cl := ⟨cs.toList, by simp⟩
 simp only [List.toList_toArray] at hl2
 match cl, hl2, xs, hlen2 with
 | [c0, c1], _, [y0, y1], _ =>
  obtain ⟨o0, k0⟩ := hone_of hone 0 _ rfl
  obtain ⟨o1, k1⟩ := hone_of hone 1 _ rfl
  have g0 := hg 0 _ rfl
  have g1 := hg 1 _ rfl
  rw [o0, k0] at g0
  rw [o1, k1] at g1
  replace g0 := g0.trans (show _ = some y0 from rfl)
  replace g1 := g1.trans (show _ = some y1 from rfl)
  obtain ⟨A0, m0, q0, bs0, e0, hs0, hb0, hmc0, hcm0, hw0⟩ := o_sees Try.underlying22 Try.underlying3 (by kernel_rfl) (show DataW.trod enc Try.prog W base spare held n 22 [c0] = some y0 from g0)
  subst e0
  have g1' : DataW.trod enc Try.prog W base spare held n 23 [c1] = some y1 := g1
  have c2 : Try.prog.cellsOf 39 = 2 := by kernel_rfl
  have hm0 : m0 ≤ 9223372036854775807 := by simp only [maxLen] at hcm0; omega
  rcases open_slice Try.underlying23 g1' with ⟨hcs, _⟩ | ⟨x, len, cap, m, n2, D, Pl, hcs, _, hl3, hm, hmm, _, hx⟩
  ·injection hcs with hcs _
   subst hcs
   exact ⟨⟨A0, m0, q0, bs0, none, 0, 0, []⟩, rfl, ⟨hs0, hb0, fun p hp => bounds_i64 (hw0 p hp), ⟨fun h => absurd rfl h, by simp⟩, rfl, hm0, by show (0 : Nat) ≤ _; omega⟩⟩
  ·injection hcs with hcs _
   subst hcs
   rw [c2] at hx
   have hlm : len ≤ m := by rw [hmm]; split <;> omega
   obtain ⟨ops, hol, hq⟩ := o_list (Q := fun i (op : NodeO) => NodeOOk W op ∧ ∀ j u, op.cells[j]? = some u → W.cell? (x.add (i * 2 + j)) = some u) len (fun i hi => by
    obtain ⟨cs', hc, ht⟩ := hx i (by omega)
    obtain ⟨op, rfl, hok⟩ := open_NodeO ht
    obtain ⟨_, hcl, hat⟩ := World.cells?_some hc
    refine ⟨op, hok, fun j u hj => ?_⟩
    have hj5 : j < 2 := by have := (List.getElem?_eq_some_iff.1 hj).1; rw [hcl] at this; exact this
    rw [← Go.Deep.add_add, hat j hj5, hj])
   refine ⟨⟨A0, m0, q0, bs0, some x, len, cap, ops.map NodeO.s⟩, rfl, ⟨hs0, hb0, fun p hp => bounds_i64 (hw0 p hp), ⟨fun h0 => ?_, fun z hz => ?_⟩, by simp [hol], hm0, by simp only [maxLen] at hm; show len ≤ _; omega⟩⟩
   ·have h00 : ops.length ≠ 0 := by simpa using h0
    obtain ⟨op0, hop0⟩ : ∃ op, ops[0]? = some op := ⟨_, List.getElem?_eq_getElem (by omega)⟩
    obtain ⟨b, off, spot⟩ := x
    have hc0 := (hq 0 op0 hop0).2 0 _ rfl
    have hspot : spot = none := by simpa [Addr.add] using World.cell?_spot hc0
    subst hspot
    refine ⟨b, off, rfl, by simp, fun i z hz j u hj => ?_⟩
    have hz' : (ops.map NodeO.s)[i]? = some z := hz
    rw [List.getElem?_map] at hz'
    cases hoi : ops[i]? with
    | none => rw [hoi] at hz'; cases hz'
    | some op =>
     rw [hoi] at hz'
     injection hz' with hz'
     subst hz'
     have := (hq i op hoi).2 j u hj
     rw [o_add] at this
     rw [Nat.add_assoc]; exact this
   ·have hz' : z ∈ ops.map NodeO.s := hz
    obtain ⟨op, hop, rfl⟩ := List.mem_map.1 hz'
    obtain ⟨i, hi, rfl⟩ := List.mem_iff_getElem.1 hop
    exact NodeO.ok (hq i _ (List.getElem?_eq_getElem hi)).1
end
end Go.Proofs.Ytdgmlfpikgjnlaa
end

section
namespace Go.Proofs.Ytdgmlfpikgjnlaa
open Go.RowKit
open Classical in
/-- both are right, and numbered as one comes to their nodes they are one graph -/
noncomputable def alB (a b : GrS) : Bool := decide (rightB a = true ∧ rightB b = true ∧ ∃ oa ob, Gr.IsOrd (Gr.ptr a.nodes) a.rs oa ∧ Gr.IsOrd (Gr.ptr b.nodes) b.rs ob ∧ Gr.canonR a.rs oa = Gr.canonR b.rs ob ∧ Gr.canonN a.nodes oa = Gr.canonN b.nodes ob)
end Go.Proofs.Ytdgmlfpikgjnlaa
end

section
namespace Go.Proofs.Ytdgmlfpikgjnlaa
open Go.RowKit
set_option maxRecDepth 100000
set_option maxHeartbeats 4000000
end Go.Proofs.Ytdgmlfpikgjnlaa
end

section
namespace Go.Proofs.Ytdgmlfpikgjnlaa.Gr
def Bd (a : List Int) (lo hi : Int) : Prop := ∀ v ∈ a, lo ≤ v ∧ v ≤ hi
theorem Bd.mono {a : List Int} {lo hi lo' hi' : Int} (h : Bd a lo hi) (h1 : lo' ≤ lo) (h2 : hi ≤ hi') : Bd a lo' hi' := fun v hv => by have := h v hv; omega
theorem Bd.set {a : List Int} {lo hi : Int} (h : Bd a lo hi) (i : Nat) (v : Int) (hv : lo ≤ v ∧ v ≤ hi) : Bd (a.set i v) lo hi := fun z hz => by
 rcases List.mem_or_eq_of_mem_set hz with hz | rfl
 ·exact h z hz
 ·exact hv
end Go.Proofs.Ytdgmlfpikgjnlaa.Gr
end

section
namespace Go.Proofs.Ytdgmlfpikgjnlaa
open Go.RowKit
set_option maxRecDepth 100000
set_option maxHeartbeats 4000000
theorem ord_in {g : GrS} {out : List Int} {w : World} (hg : GrOk w [] g) (hb : rightB g = true) (ho : Gr.IsOrd (Gr.ptr g.nodes) g.rs out) : ∀ x ∈ out, 0 ≤ x ∧ x < (g.m : Int) := by
 have e : g.nodes.length = g.m := by simp [GrS.nodes, hg.nl]
 have hrt : Gr.Rt g.rs g.nodes := ⟨fun r hr => by
  have := right_roots hb r hr
  unfold okP at this
  rw [e]; exact this, fun x hx p hp => by
  unfold GrS.nodes at hx
  obtain ⟨y, hy, rfl⟩ := List.mem_map.1 hx
  have := right_ptrs hb y hy p hp
  unfold okP at this
  rw [e]; exact this⟩
 intro x hx
 have := hrt.ord ho x hx
 rw [e] at this; exact this
theorem ptr_lt {g : GrS} {w : World} (hg : GrOk w [] g) (hb : rightB g = true) (x : Int) : ∀ y ∈ Gr.ptr g.nodes x, y < (g.m : Int) := by
 intro y hy
 have e : g.nodes.length = g.m := by simp [GrS.nodes, hg.nl]
 have hrt : Gr.Rt g.rs g.nodes := ⟨fun r hr => by
  have := right_roots hb r hr
  unfold okP at this
  rw [e]; exact this, fun x hx p hp => by
  unfold GrS.nodes at hx
  obtain ⟨y, hy, rfl⟩ := List.mem_map.1 hx
  have := right_ptrs hb y hy p hp
  unfold okP at this
  rw [e]; exact this⟩
 have := hrt.ptr x y hy
 rw [e] at this; exact this.2
end Go.Proofs.Ytdgmlfpikgjnlaa
end

section
namespace Go.Proofs.Ytdgmlfpikgjnlaa
open Go.RowKit
set_option maxRecDepth 100000
set_option maxHeartbeats 4000000
end Go.Proofs.Ytdgmlfpikgjnlaa
end

section
namespace Go.Proofs.Ytdgmlfpikgjnlaa
open Go.RowKit
set_option maxRecDepth 100000
set_option maxHeartbeats 4000000
end Go.Proofs.Ytdgmlfpikgjnlaa
end

section
namespace Go.Proofs.Ytdgmlfpikgjnlaa
open Go.RowKit
set_option maxRecDepth 100000
set_option maxHeartbeats 2000000
theorem dShift (A : Option Addr) (n c : Nat) (xs : List Int) (k m : Nat) (w : World) (hS : Sees (Value.int .i64) w [] A xs) (hl : xs.length = n) (hn : n ≤ 1000) (hx : ∀ p ∈ xs, okP m p) (hm : m ≤ 1000) (hk : k ≤ 1000) :
  Calls Try.prog 21 [.slice A n c, .int .i64 k].toArray w fun e w' => ∃ A' c', e = .returned (.slice A' n c') ∧ Heap w [] [ownN 1 (.slice A' n c') n ((xs.map (Gr.sh k)).map (Value.int .i64)) 3] w' := by
 have H := Heap.nil w
 refine k_in (N := 35) Try.func21 rfl rfl rfl ?_
 refine k_sg ?_
 refine s_run rfl rfl (ras rfl) ?_
 refine k_nc ?_
 refine k_sg ?_
 refine s_run rfl rfl (ras rfl) ?_
 refine k_nc ?_
 refine k_seq ?_
 refine k_sg ?_
 refine s_run rfl rfl (rai rfl) ?_
 refine k_nc ?_
 refine k_b ?_
 replace H := H.own_nil 1 3
 refine k_loop (fun z f W => ∃ (i : Nat) (OA : Option Addr) (co : Nat), i ≤ n ∧ z = n - i ∧ f 0 = .slice A n c ∧ f 1 = .int .i64 k ∧ f 5 = .slice OA i co ∧ f 6 = .int .i64 i ∧ Heap w [] [ownN 1 (.slice OA i co) i (((xs.take i).map (Gr.sh k)).map (Value.int .i64)) 3] W) n ⟨0, none, 0, by omega, rfl, rfl, rfl, rfl, rfl, H⟩ ?_
 clear H
 rintro z f W ⟨i, OA, co, hi, rfl, f0, f1, f5, f6, H⟩
 by_cases hlt : i < n
 ·obtain ⟨y, hy⟩ : ∃ y, xs[i]? = some y := ⟨_, List.getElem?_eq_getElem (by omega)⟩
  obtain ⟨b, o, hA, _, hrd⟩ := hS (by omega)
  have hcell := hrd i y hy
  have hok := hx y (List.mem_of_getElem? hy)
  unfold okP at hok
  rw [hA] at f0
  obtain ⟨f, rfl⟩ := live4 f0 f1 f5 f6
  clear f0 f1 f5 f6
  by_cases hneg : y < 0
  ·have hsh : Gr.sh k y = y := by unfold Gr.sh; rw [if_pos hneg]
   refine k_seq ?_
   refine k_sg ?_
   refine s_run rfl rfl (rmi rfl) ?_
   refine s_run rfl rfl (rms rfl) ?_
   refine s_run rfl rfl (r_len rfl Try.underlying22) ?_
   refine s_run rfl rfl (r_lssT rfl rfl (by omega)) ?_
   refine k_nc ?_
   refine k_t rfl ?_
   refine k_skip ?_
   refine c_norm ?_
   refine k_seq ?_
   refine k_b ?_
   refine k_sg ?_
   refine s_run rfl rfl (rms rfl) ?_
   refine s_run rfl rfl (rmi rfl) ?_
   refine s_run rfl rfl (r_ix1o (i := i) rfl rfl (by omega) (by omega) Try.underlying22 sz3) ?_
   refine s_run rfl rfl (r_lr H rfl hcell (by simp) ag3) ?_
   refine s_run rfl rfl (r_lssT rfl rfl (by omega)) ?_
   refine k_nc ?_
   refine k_t rfl ?_
   refine k_rg ?_
   refine s_run rfl rfl (rms rfl) ?_
   refine s_run rfl rfl (rms rfl) ?_
   refine s_run rfl rfl (rmi rfl) ?_
   refine s_run rfl rfl (r_ix1o (i := i) rfl rfl (by omega) (by omega) Try.underlying22 sz3) ?_
   refine s_run rfl rfl (r_lr H rfl hcell (by simp) ag3) ?_
   refine s_app1 (enc := (Value.int .i64)) H 0 rfl rfl rfl rfl rfl rfl rfl (by omega) Try.underlying22 inf3 rfl ?_
   intro _ An cn _ H'; simp only [List.set_cons_zero, List.set_cons_succ, List.take_succ_cons, List.take_zero, List.drop_succ_cons, List.drop_zero, List.cons_append, List.nil_append, List.append_nil, List.length_cons, List.length_nil, Nat.reduceAdd] at H'; clear H; have H := H'; clear H'
   refine s_run rfl rfl (ras rfl) ?_
   refine k_nil ?_
   refine b_norm ?_
   refine c_norm ?_
   refine k_rg ?_
   refine s_run rfl rfl (rmi rfl) ?_
   refine s_run rfl rfl (r_add rfl rfl (wI (by omega))) ?_
   refine s_run rfl rfl (rai rfl) ?_
   refine k_nil ?_
   refine c_round ?_
   refine ⟨_, _, ?_, rfl, i + 1, An, cn, by omega, rfl, by rw [hA]; rfl, rfl, rfl, rfl, by rw [take_snoc _ _ _ _ hy, hsh]; exact H⟩
   omega
  ·have hsh : Gr.sh k y = y + k := by unfold Gr.sh; rw [if_neg hneg]
   refine k_seq ?_
   refine k_sg ?_
   refine s_run rfl rfl (rmi rfl) ?_
   refine s_run rfl rfl (rms rfl) ?_
   refine s_run rfl rfl (r_len rfl Try.underlying22) ?_
   refine s_run rfl rfl (r_lssT rfl rfl (by omega)) ?_
   refine k_nc ?_
   refine k_t rfl ?_
   refine k_skip ?_
   refine c_norm ?_
   refine k_seq ?_
   refine k_b ?_
   refine k_sg ?_
   refine s_run rfl rfl (rms rfl) ?_
   refine s_run rfl rfl (rmi rfl) ?_
   refine s_run rfl rfl (r_ix1o (i := i) rfl rfl (by omega) (by omega) Try.underlying22 sz3) ?_
   refine s_run rfl rfl (r_lr H rfl hcell (by simp) ag3) ?_
   refine s_run rfl rfl (r_lssF rfl rfl (by omega)) ?_
   refine k_nc ?_
   refine k_f rfl ?_
   refine k_rg ?_
   refine s_run rfl rfl (rms rfl) ?_
   refine s_run rfl rfl (rms rfl) ?_
   refine s_run rfl rfl (rmi rfl) ?_
   refine s_run rfl rfl (r_ix1o (i := i) rfl rfl (by omega) (by omega) Try.underlying22 sz3) ?_
   refine s_run rfl rfl (r_lr H rfl hcell (by simp) ag3) ?_
   refine s_run rfl rfl (rmi rfl) ?_
   refine s_run rfl rfl (r_add rfl rfl (wI (by omega))) ?_
   refine s_app1 (enc := (Value.int .i64)) H 0 rfl rfl rfl rfl rfl rfl rfl (by omega) Try.underlying22 inf3 rfl ?_
   intro _ An cn _ H'; simp only [List.set_cons_zero, List.set_cons_succ, List.take_succ_cons, List.take_zero, List.drop_succ_cons, List.drop_zero, List.cons_append, List.nil_append, List.append_nil, List.length_cons, List.length_nil, Nat.reduceAdd] at H'; clear H; have H := H'; clear H'
   refine s_run rfl rfl (ras rfl) ?_
   refine k_nil ?_
   refine b_norm ?_
   refine c_norm ?_
   refine k_rg ?_
   refine s_run rfl rfl (rmi rfl) ?_
   refine s_run rfl rfl (r_add rfl rfl (wI (by omega))) ?_
   refine s_run rfl rfl (rai rfl) ?_
   refine k_nil ?_
   refine c_round ?_
   refine ⟨_, _, ?_, rfl, i + 1, An, cn, by omega, rfl, by rw [hA]; rfl, rfl, rfl, rfl, by rw [take_snoc _ _ _ _ hy, hsh]; exact H⟩
   omega
 ·obtain rfl : i = n := by omega
  have e : xs.take i = xs := by rw [← hl]; exact List.take_length
  rw [e] at H
  obtain ⟨f, rfl⟩ := live4 f0 f1 f5 f6
  clear f0 f1 f5 f6
  refine k_seq ?_
  refine k_sg ?_
  refine s_run rfl rfl (rmi rfl) ?_
  refine s_run rfl rfl (rms rfl) ?_
  refine s_run rfl rfl (r_len rfl Try.underlying22) ?_
  refine s_run rfl rfl (r_lssF rfl rfl (by omega)) ?_
  refine k_nc ?_
  refine k_f rfl ?_
  refine k_exit ?_
  refine c_exit ?_
  refine c_exit ?_
  refine b_hit ?_
  refine c_norm ?_
  refine k_sg ?_
  refine s_run rfl rfl (rms rfl) ?_
  refine s_run rfl rfl (ras rfl) ?_
  refine k_nc ?_
  refine k_ret ?_
  refine fin1r (v := .slice _ _ _) rfl rfl ?_
  exact ⟨OA, co, rfl, H⟩
theorem jTo (p k m : Nat) (x : Int) (w : World) (hE : Ents [blk p [.int .i64 k] 3] w) (hx : okP m x) (hm : m ≤ 1000) (hk : k ≤ 1000) :
  Calls Try.prog 52 [.int .i64 x, ptr p].toArray w fun e w' => e = .returned (.int .i64 (Gr.sh k x)) ∧ Only [] w w' := by
 have HR := Heap.start hE
 have H := Heap.nil w
 unfold okP at hx
 unfold Gr.sh
 by_cases h0 : x < 0
 ·rw [if_pos h0]
  refine k_in (N := 10) Try.func52 rfl rfl rfl ?_
  refine k_sg ?_
  refine s_run rfl rfl (rai rfl) ?_
  refine k_nc ?_
  refine k_seq ?_
  refine k_sg ?_
  refine s_run rfl rfl (rmi rfl) ?_
  refine s_run rfl rfl (r_lssT rfl rfl (by omega)) ?_
  refine k_nc ?_
  refine k_t rfl ?_
  refine k_sg ?_
  refine s_run rfl rfl (rmi rfl) ?_
  refine s_run rfl rfl (rai rfl) ?_
  refine k_nc ?_
  refine k_ret ?_
  refine c_ret ?_
  refine fin1r (v := .int _ _) rfl rfl ?_
  exact ⟨rfl, H.only⟩
 ·rw [if_neg h0]
  refine k_in (N := 10) Try.func52 rfl rfl rfl ?_
  refine k_sg ?_
  refine s_run rfl rfl (rai rfl) ?_
  refine k_nc ?_
  refine k_seq ?_
  refine k_sg ?_
  refine s_run rfl rfl (rmi rfl) ?_
  refine s_run rfl rfl (r_lssF rfl rfl (by omega)) ?_
  refine k_nc ?_
  refine k_f rfl ?_
  refine k_skip ?_
  refine c_norm ?_
  refine k_sg ?_
  refine s_run rfl rfl (rmi rfl) ?_
  refine s_run rfl rfl (r_lo (HR.same H.only) 0 rfl rfl rfl ag3) ?_
  refine s_run rfl rfl (r_add rfl rfl (wI (by omega))) ?_
  refine s_run rfl rfl (rai rfl) ?_
  refine k_nc ?_
  refine k_ret ?_
  refine fin1r (v := .int _ _) rfl rfl ?_
  exact ⟨rfl, H.only⟩
theorem gCloneI (A : Option Addr) (n c : Nat) (xs : List Int) (w : World) (hS : Sees (Value.int .i64) w [] A xs) (hl : xs.length = n) (hn : n ≤ 100000) :
  Calls Try.prog 53 [.slice A n c].toArray w fun e w' => ∃ A' c', e = .returned (.slice A' n c') ∧ Heap w [] [ownN 1 (.slice A' n c') n (xs.map (Value.int .i64)) 3] w' := by
 have H := Heap.nil w
 cases A with
 | none =>
  have h0 : xs = [] := by
   refine List.eq_nil_of_length_eq_zero (Classical.byContradiction fun h => ?_)
   obtain ⟨b, o, e, _⟩ := hS h; cases e
  subst h0
  obtain rfl : n = 0 := hl.symm
  refine k_in (N := 8) Try.func53 rfl rfl rfl ?_
  refine k_sg ?_
  refine s_run rfl rfl (ras rfl) ?_
  refine k_nc ?_
  refine k_seq ?_
  refine k_sg ?_
  refine s_run rfl rfl (rms rfl) ?_
  refine s_run rfl rfl (r_slnilT rfl rfl Try.underlying22) ?_
  refine k_nc ?_
  refine k_t rfl ?_
  refine k_sg ?_
  refine s_run rfl rfl (ras rfl) ?_
  refine k_nc ?_
  refine k_ret ?_
  refine c_ret ?_
  refine fin1r (v := .slice _ _ _) rfl rfl ?_
  exact ⟨none, 0, rfl, H.own_nil 1 _⟩
 | some a =>
  refine k_in (N := 8) Try.func53 rfl rfl rfl ?_
  refine k_sg ?_
  refine s_run rfl rfl (ras rfl) ?_
  refine k_nc ?_
  refine k_seq ?_
  refine k_sg ?_
  refine s_run rfl rfl (rms rfl) ?_
  refine s_run rfl rfl (r_slnilF rfl rfl Try.underlying22) ?_
  refine k_nc ?_
  refine k_f rfl ?_
  refine k_skip ?_
  refine c_norm ?_
  refine k_sg ?_
  refine s_bs0 1 (by omega) H rfl Try.underlying22 inf3 ?_
  intro _ _ H'; clear H; have H := H'; clear H'
  refine s_run rfl rfl (rms rfl) ?_
  refine s_apps (enc := (Value.int .i64)) (xs := []) H 0 rfl rfl rfl rfl (hS) (hl) (fun _ => rfl) (by omega) Try.underlying22 inf3 rfl ?_
  intro A1 c1 W1 hA1 H'; simp only [List.set_cons_zero, List.set_cons_succ, List.take_succ_cons, List.take_zero, List.drop_succ_cons, List.drop_zero, List.cons_append, List.nil_append, List.append_nil, List.length_cons, List.length_nil, Nat.reduceAdd] at H'; clear H; have H := H'; clear H'
  refine s_run rfl rfl (ras rfl) ?_
  refine k_nc ?_
  refine k_ret ?_
  refine fin1r (v := .slice _ _ _) rfl rfl ?_
  rw [Nat.zero_add] at H
  exact ⟨A1, c1, by rw [Nat.zero_add], H⟩
theorem flat_sees {w : World} {A : Option Addr} {ns : List NodeS} (h : ns.length ≠ 0 → ∃ b o, A = some ⟨b, o, none⟩ ∧ b ∉ ([] : List Nat) ∧ ∀ i x, ns[i]? = some x → Reads (fun v : Value => v) w b (o + i * 2) x.cells) : Sees C1.v w [] A (flatN ns) := by
 intro h0
 rw [flatN_len] at h0
 obtain ⟨b, o, e, hb, hr⟩ := h (by omega)
 refine ⟨b, o, e, hb, fun i z hz => ?_⟩
 have hi : i < ns.length * 2 := by rw [← flatN_len]; exact (List.getElem?_eq_some_iff.1 hz).1
 obtain ⟨x, hx⟩ : ∃ x, ns[i / 2]? = some x := ⟨_, List.getElem?_eq_getElem (by omega)⟩
 obtain ⟨g1, g2⟩ := flatN_get ns (i / 2) x hx
 by_cases hp : i % 2 = 0
 ·have ei : i = i / 2 * 2 := by omega
  rw [ei] at hz
  rw [g1] at hz
  injection hz with hz
  subst hz
  have := hr (i / 2) x hx 0 _ rfl
  rw [show o + i / 2 * 2 + 0 = o + i by omega] at this
  exact this
 ·have ei : i = i / 2 * 2 + 1 := by omega
  rw [ei] at hz
  rw [g2] at hz
  injection hz with hz
  subst hz
  have := hr (i / 2) x hx 1 _ rfl
  rw [show o + i / 2 * 2 + 1 = o + i by omega] at this
  exact this
theorem gCloneN (A : Option Addr) (n c : Nat) (ns : List NodeS) (w : World) (hS : Sees C1.v w [] A (flatN ns)) (hl : ns.length = n) (hn : n ≤ 100000) :
  Calls Try.prog 54 [.slice A n c].toArray w fun e w' => ∃ A' c', e = .returned (.slice A' n c') ∧ Heap w [] [ownN 2 (.slice A' n c') n ((flatN ns).map C1.v) 39] w' := by
 have H := Heap.nil w
 have hfl : (flatN ns).length = n * 2 := by rw [flatN_len, hl]
 cases A with
 | none =>
  have h0 : flatN ns = [] := by
   refine List.eq_nil_of_length_eq_zero (Classical.byContradiction fun h => ?_)
   obtain ⟨b, o, e, _⟩ := hS h; cases e
  rw [h0] at hfl
  have hn0 : n = 0 := by simp at hfl; omega
  rw [h0]
  subst hn0
  refine k_in (N := 8) Try.func54 rfl rfl rfl ?_
  refine k_sg ?_
  refine s_run rfl rfl (ras rfl) ?_
  refine k_nc ?_
  refine k_seq ?_
  refine k_sg ?_
  refine s_run rfl rfl (rms rfl) ?_
  refine s_run rfl rfl (r_slnilT rfl rfl Try.underlying23) ?_
  refine k_nc ?_
  refine k_t rfl ?_
  refine k_sg ?_
  refine s_run rfl rfl (ras rfl) ?_
  refine k_nc ?_
  refine k_ret ?_
  refine c_ret ?_
  refine fin1r (v := .slice _ _ _) rfl rfl ?_
  exact ⟨none, 0, rfl, H.own_nil 2 _⟩
 | some a =>
  refine k_in (N := 8) Try.func54 rfl rfl rfl ?_
  refine k_sg ?_
  refine s_run rfl rfl (ras rfl) ?_
  refine k_nc ?_
  refine k_seq ?_
  refine k_sg ?_
  refine s_run rfl rfl (rms rfl) ?_
  refine s_run rfl rfl (r_slnilF rfl rfl Try.underlying23) ?_
  refine k_nc ?_
  refine k_f rfl ?_
  refine k_skip ?_
  refine c_norm ?_
  refine k_sg ?_
  refine s_bs0 2 (by omega) H rfl Try.underlying23 inf39 ?_
  intro _ _ H'; clear H; have H := H'; clear H'
  refine s_run rfl rfl (rms rfl) ?_
  refine s_apsN (enc := C1.v) (size := 2) (xs := []) H 0 rfl rfl rfl rfl (hS) (hfl) C1.one (by omega) (by omega) Try.underlying23 inf39 rfl ?_
  intro A1 c1 W1 H'; simp only [List.set_cons_zero, List.set_cons_succ, List.take_succ_cons, List.take_zero, List.drop_succ_cons, List.drop_zero, List.cons_append, List.nil_append, List.append_nil, List.length_cons, List.length_nil, Nat.reduceAdd] at H'; clear H; have H := H'; clear H'
  refine s_run rfl rfl (ras rfl) ?_
  refine k_nc ?_
  refine k_ret ?_
  refine fin1r (v := .slice _ _ _) rfl rfl ?_
  rw [Nat.zero_add] at H
  exact ⟨A1, c1, by rw [Nat.zero_add], H⟩
/-- a graph whose nodes are right reads as one -/
theorem made_okG {w W : World} {F : List Nat} {L : List Ent} {RA NA : Option Addr} {n m cR cN : Nat} {rs : List Int} {ns : List NodeS} {T : TypeId} (hrl : rs.length = n) (hnl : ns.length = m) (H : Heap w F (ownN 1 (.slice RA n cR) n (rs.map (Value.int .i64)) 3 :: ownN 2 (.slice NA m cN) m ((flatN ns).map C1.v) T :: L) W)
  (hr : n ≤ 100000) (hn : m ≤ 100000) (hrb : ∀ p ∈ rs, -9223372036854775808 ≤ p ∧ p ≤ 9223372036854775807) (hx : ∀ x ∈ ns, NodeOk W [] x) :
  GrOk W [] ⟨RA, n, cR, rs, NA, m, cN, ns⟩ := by
 subst hrl; subst hnl
 refine ⟨H.own_sees 0 rfl, rfl, hrb, ⟨fun h0 => ?_, hx⟩, rfl, by show rs.length ≤ _; omega, by show ns.length ≤ _; omega⟩
 have h0' : ns.length ≠ 0 := h0
 obtain ⟨b, e, _, hr⟩ := H.own_seesN 1 rfl (by rw [flatN_len]; omega)
 refine ⟨b, 0, e, by simp, fun i x hi j u hj => ?_⟩
 obtain ⟨g1, g2⟩ := flatN_get ns i x hi
 have hj2 : j < 2 := by have := (List.getElem?_eq_some_iff.1 hj).1; exact this
 rw [show 0 + i * 2 + j = 0 + (i * 2 + j) by omega]
 match j, hj2, hj with
 | 0, _, hj => exact (hr _ _ g1).trans (by simpa [NodeS.cells, C1.v] using hj)
 | 1, _, hj => exact (hr _ _ g2).trans (by simpa [NodeS.cells, C1.v] using hj)
/-- a node of its own rows -/
theorem nodeE_ok {w W : World} {F : List Nat} {L : List Ent} {ns : List NodeS} (H : Heap w F L W) (j : Nat) (hj : L[j]? = some (grp (ns.map nodeE))) (x : NodeS) (hx : x ∈ ns) (h : x.n ≤ 100000 ∧ x.m ≤ 100000 ∧ (∀ p ∈ x.ps, -9223372036854775808 ≤ p ∧ p ≤ 9223372036854775807) ∧ ∀ p ∈ x.ds, 0 ≤ p ∧ p ≤ 18446744073709551615) : NodeOk W [] x := by
 have hE := H.grp_ents j hj
 have h1 := hE.1 (nodeE x) (List.mem_map.2 ⟨x, hx, rfl⟩)
 have h2 : Ents [ownN 1 (.slice x.A x.n x.c) x.n (x.ps.map (Value.int .i64)) 3, ownN 1 (.slice x.B x.m x.d) x.m (x.ds.map (Value.int .u64)) 78] W := h1
 have H2 := Heap.start h2
 obtain ⟨b1, b2, b3, b4⟩ := h
 refine ⟨H2.own_sees 0 rfl, ?_, H2.own_sees 1 rfl, ?_, b3, b4, by omega, by omega⟩
 ·have := (H2.own_get 0 rfl).1; simpa using this
 ·have := (H2.own_get 1 rfl).1; simpa using this
/-- one node that is made -/
theorem nodeP_ok {w W : World} {F : List Nat} {L : List Ent} {ns : List NodeS} (H : Heap w F L W) (j : Nat) (hj : L[j]? = some (grp (ns.map nodeP))) (x : NodeS) (hx : x ∈ ns) (h : x.n ≤ 100000 ∧ x.m ≤ 100000 ∧ (∀ p ∈ x.ps, -9223372036854775808 ≤ p ∧ p ≤ 9223372036854775807) ∧ (∀ p ∈ x.ds, 0 ≤ p ∧ p ≤ 18446744073709551615) ∧ Sees (Value.int .u64) W [] x.B x.ds ∧ x.ds.length = x.m) : NodeOk W [] x := by
 have hE := H.grp_ents j hj
 have h1 := hE.1 (nodeP x) (List.mem_map.2 ⟨x, hx, rfl⟩)
 have h2 : Ents [ownN 1 (.slice x.A x.n x.c) x.n (x.ps.map (Value.int .i64)) 3] W := h1
 have H2 := Heap.start h2
 obtain ⟨b1, b2, b3, b4, b5, b6⟩ := h
 refine ⟨H2.own_sees 0 rfl, ?_, b5, b6, b3, b4, by omega, by omega⟩
 have := (H2.own_get 0 rfl).1; simpa using this
end Go.Proofs.Ytdgmlfpikgjnlaa
end

section
namespace Go.Proofs.Ytdgmlfpikgjnlaa
open Go.RowKit
set_option maxRecDepth 100000
set_option maxHeartbeats 4000000
def shP (k : Nat) (x : NodeS) : List Int × List Int := (x.ps.map (Gr.sh k), x.ds)
theorem sh_bd {k m : Nat} {p : Int} (h : okP m p) (hk : k ≤ 1000) (hm : m ≤ 1000) : -9223372036854775808 ≤ Gr.sh k p ∧ Gr.sh k p ≤ 9223372036854775807 := by
 unfold okP at h; unfold Gr.sh; split <;> omega
theorem gJoin (a b : GrS) (w : World) (ha : GrOk w [] a) (hb : GrOk w [] b) (ra : rightB a = true) (rb : rightB b = true) (sa : Sm a) (sb : Sm b) :
  Calls Try.prog 22 [.agg a.cells.toArray, .agg b.cells.toArray].toArray w fun e w' => (∃ g' : GrS, e = .returned (.agg g'.cells.toArray) ∧ GrOk w' [] g' ∧ g'.rs = a.rs ++ b.rs.map (Gr.sh a.m) ∧ g'.nodes = a.nodes ++ b.ns.map (shP a.m) ∧ g'.n = a.n + b.n ∧ g'.m = a.m + b.m ∧ ∀ x ∈ g'.ns, x.n ≤ 1000 ∧ x.m ≤ 100000) ∧ Only [] w w' := by
 have H := Heap.nil w
 have hn := sa.n
 have hm := sa.m
 have hn2 := sb.n
 have hm2 := sb.m
 have harl := ha.rl
 have hanl := ha.nl
 have hbrl := hb.rl
 have hbnl := hb.nl
 have hbrs := hb.rs
 have hC1 := fun W (h : Only [] w W) => gCloneI a.A a.n a.c a.rs W (ha.rs.later h (by simp)) harl (by omega)
 have hC2 := fun W (h : Only [] w W) => gCloneN a.B a.m a.d a.ns W (flat_sees ((ha.later h (by simp)).ns.1)) hanl (by omega)
 unfold GrS.cells
 refine k_in (N := 77) Try.func22 rfl rfl rfl ?_
 refine k_sg ?_
 refine s_box H rfl rfl ?_
 intro p2 _ H'; clear H; have H := H'; clear H'
 refine s_box H rfl rfl ?_
 intro p3 _ H'; clear H; have H := H'; clear H'
 refine s_al H rfl inf25 ?_
 intro p4 _ H'; clear H; have H := H'; clear H'
 refine k_nc ?_
 refine k_sg ?_
 refine s_run rfl rfl (r_fa0 rfl fo25_1) ?_
 refine s_run rfl rfl (r_lo H 2 rfl rfl rfl ag23) ?_
 refine s_run rfl rfl (r_len rfl Try.underlying23) ?_
 refine s_al1 H rfl inf3 rfl ?_
 intro p5 _ H'; clear H; have H := H'; clear H'
 refine s_st (u := .int _ _) H 0 rfl rfl rfl rfl rfl rfl sz3 ?_
 clear H; intro _ H; simp only [jA, jB, jC, jD, jE, jF, jG, jH, jI, jJ, jK, Nat.reduceAdd] at H
 refine k_nc ?_
 refine k_sg ?_
 refine s_run rfl rfl (r_mkf rfl) ?_
 refine s_run rfl rfl (r_as (v := .func _ _ _) rfl) ?_
 refine k_nc ?_
 refine k_seq ?_
 refine k_cut (fun f W => ∃ p7 RA NA cR cN, f 3 = ptr p3 ∧ f 4 = ptr p4 ∧ f 6 = .func (.func 52) #[] [ptr p5].toArray ∧ f 7 = ptr p7 ∧ Heap w [] [blk p7 [.slice RA a.n cR, .slice NA a.m cN] 25, ownN 1 (.slice RA a.n cR) a.n (a.rs.map (Value.int .i64)) 3, ownN 2 (.slice NA a.m cN) a.m ((flatN a.ns).map C1.v) 39, blk p5 [.int .i64 a.m] 3, blk p4 [.slice none 0 0, .slice none 0 0] 25, blk p3 [.slice b.A b.n b.c, .slice b.B b.m b.d] 25, blk p2 [.slice a.A a.n a.c, .slice a.B a.m a.d] 25] W) ?_ ?_
 ·have HR := H; clear H; have H := HR.tree; refine k_tr mixed ?_
  refine tqn 0 rfl rfl rfl (fun _ hS => r_fa0 rfl fo25_0) H.only ?_
  refine tqn 1 rfl rfl rfl (fun _ hS => r_lo (HR.same hS) 3 rfl rfl rfl ag22) H.only ?_
  refine tqn 3 rfl rfl rfl (fun _ hS => r_fa0 rfl fo25_1) H.only ?_
  refine tqn 4 rfl rfl rfl (fun _ hS => r_lo (HR.same hS) 3 rfl rfl rfl ag23) H.only ?_
  refine t_up2 2 7 (by kernel_rfl) ?_ ?_
  ·refine up_mk rfl ?_
   refine s_call rfl (hC1 _ (HR.only.trans H.only)) (ca53 rfl) ?_
   rintro e W1 ⟨RA, cR, rfl, H'⟩
   refine ⟨_, rfl, ?_⟩
   have H := H.more H'; clear H'
   refine k_nil ?_
   refine t_on H.only ?_
   refine t_up2 5 7 (by kernel_rfl) ?_ ?_
   ·refine up_mk rfl ?_
    refine s_call rfl (hC2 _ (HR.only.trans H.only)) (ca54 rfl) ?_
    rintro e W1 ⟨NA, cN, rfl, H'⟩
    refine ⟨_, rfl, ?_⟩
    have H := H.more H'; clear H'
    refine k_nil ?_
    refine t_on H.only ?_
    refine tqn 6 rfl rfl rfl (fun _ hS => r_bd (bd25_0_1 _ _ _ _ _ _) rfl) H.only ?_
    refine t_up1 7 (by kernel_rfl) ?_
    refine up_mk rfl ?_
    refine s_al H rfl inf25 ?_
    intro p7 _ H'; clear H; have H := H'; clear H'
    refine k_nil ?_
    refine t_on H.only ?_
    refine t_up1 8 (by kernel_rfl) ?_
    refine up_mk rfl ?_
    refine s_sw H 0 rfl rfl rfl rfl rfl rfl rfl sz25 ?_
    clear H; intro _ H; simp only [jA, jB, jC, jD, jE, jF, jG, jH, jI, jJ, jK, Nat.reduceAdd] at H
    refine k_nil ?_
    refine t_on H.only ?_
    refine t_done (by kernel_rfl) ?_
    have H := HR.more H; clear HR; simp only [List.cons_append, List.nil_append] at H
    refine k_met ?_
    exact ⟨_, RA, NA, cR, cN, rfl, rfl, rfl, rfl, H.order [0, 2, 1, 3, 4, 5, 6] rfl rfl⟩
   ·refine up_mk rfl ?_
    refine s_al H rfl inf25 ?_
    intro p7 _ H'; clear H; have H := H'; clear H'
    refine k_nil ?_
    refine t_on H.only ?_
    refine t_up1 5 (by kernel_rfl) ?_
    refine up_mk rfl ?_
    refine s_call rfl (hC2 _ (HR.only.trans H.only)) (ca54 rfl) ?_
    rintro e W1 ⟨NA, cN, rfl, H'⟩
    refine ⟨_, rfl, ?_⟩
    have H := H.more H'; clear H'
    refine k_nil ?_
    refine t_on H.only ?_
    refine tqn 6 rfl rfl rfl (fun _ hS => r_bd (bd25_0_1 _ _ _ _ _ _) rfl) H.only ?_
    refine t_up1 8 (by kernel_rfl) ?_
    refine up_mk rfl ?_
    refine s_sw H 1 rfl rfl rfl rfl rfl rfl rfl sz25 ?_
    clear H; intro _ H; simp only [jA, jB, jC, jD, jE, jF, jG, jH, jI, jJ, jK, Nat.reduceAdd] at H
    refine k_nil ?_
    refine t_on H.only ?_
    refine t_done (by kernel_rfl) ?_
    replace H := H.pick 2 rfl; simp only [jL, jM] at H
    replace H := H.pick 1 rfl; simp only [jL, jM] at H
    replace H := H.pick 2 rfl; simp only [jL, jM] at H
    have H := HR.more H; clear HR; simp only [List.cons_append, List.nil_append] at H
    refine k_met ?_
    exact ⟨_, RA, NA, cR, cN, rfl, rfl, rfl, rfl, H.order [0, 2, 1, 3, 4, 5, 6] rfl rfl⟩
  ·refine up_mk rfl ?_
   refine s_al H rfl inf25 ?_
   intro p7 _ H'; clear H; have H := H'; clear H'
   refine k_nil ?_
   refine t_on H.only ?_
   refine t_up1 2 (by kernel_rfl) ?_
   refine up_mk rfl ?_
   refine s_call rfl (hC1 _ (HR.only.trans H.only)) (ca53 rfl) ?_
   rintro e W1 ⟨RA, cR, rfl, H'⟩
   refine ⟨_, rfl, ?_⟩
   have H := H.more H'; clear H'
   refine k_nil ?_
   refine t_on H.only ?_
   refine t_up1 5 (by kernel_rfl) ?_
   refine up_mk rfl ?_
   refine s_call rfl (hC2 _ (HR.only.trans H.only)) (ca54 rfl) ?_
   rintro e W1 ⟨NA, cN, rfl, H'⟩
   refine ⟨_, rfl, ?_⟩
   have H := H.more H'; clear H'
   refine k_nil ?_
   refine t_on H.only ?_
   refine tqn 6 rfl rfl rfl (fun _ hS => r_bd (bd25_0_1 _ _ _ _ _ _) rfl) H.only ?_
   refine t_up1 8 (by kernel_rfl) ?_
   refine up_mk rfl ?_
   refine s_sw H 2 rfl rfl rfl rfl rfl rfl rfl sz25 ?_
   clear H; intro _ H; simp only [jA, jB, jC, jD, jE, jF, jG, jH, jI, jJ, jK, Nat.reduceAdd] at H
   refine k_nil ?_
   refine t_on H.only ?_
   refine t_done (by kernel_rfl) ?_
   replace H := H.pick 1 rfl; simp only [jL, jM] at H
   replace H := H.pick 1 rfl; simp only [jL, jM] at H
   replace H := H.pick 2 rfl; simp only [jL, jM] at H
   have H := HR.more H; clear HR; simp only [List.cons_append, List.nil_append] at H
   refine k_met ?_
   exact ⟨_, RA, NA, cR, cN, rfl, rfl, rfl, rfl, H.order [0, 2, 1, 3, 4, 5, 6] rfl rfl⟩
 ·clear H
  rintro f W ⟨p7, RA, NA, cR, cN, f3, f4, f6, f7, H⟩
  obtain ⟨f, rfl⟩ := live4 f3 f4 f6 f7
  clear f3 f4 f6 f7
  refine c_norm ?_
  refine k_seq ?_
  refine k_sg ?_
  refine s_run rfl rfl (r_fa0 rfl fo25_0) ?_
  refine s_run rfl rfl (r_lo H 5 rfl rfl rfl ag22) ?_
  refine s_run rfl rfl (r_len rfl Try.underlying22) ?_
  refine s_run rfl rfl (rmi rfl) ?_
  refine k_nc ?_
  refine k_b ?_
  refine k_loop (fun z f W => ∃ (i : Nat) (RA : Option Addr) (cR : Nat), i ≤ b.n ∧ z = b.n - i ∧ f 3 = ptr p3 ∧ f 4 = ptr p4 ∧ f 6 = .func (.func 52) #[] [ptr p5].toArray ∧ f 7 = ptr p7 ∧ f 27 = .slice b.A b.n b.c ∧ f 28 = .int .i64 b.n ∧ f 29 = .int .i64 i ∧ Heap w [] [blk p7 [.slice RA (a.n + i) cR, .slice NA a.m cN] 25, ownN 1 (.slice RA (a.n + i) cR) (a.n + i) ((a.rs ++ (b.rs.take i).map (Gr.sh a.m)).map (Value.int .i64)) 3, ownN 2 (.slice NA a.m cN) a.m ((flatN a.ns).map C1.v) 39, blk p5 [.int .i64 a.m] 3, blk p4 [.slice none 0 0, .slice none 0 0] 25, blk p3 [.slice b.A b.n b.c, .slice b.B b.m b.d] 25, blk p2 [.slice a.A a.n a.c, .slice a.B a.m a.d] 25] W) b.n ⟨0, RA, cR, by omega, rfl, rfl, rfl, rfl, rfl, rfl, rfl, rfl, by rw [Nat.add_zero, List.take_zero, List.map_nil, List.append_nil]; exact H⟩ ?_
  clear H
  clear RA cR
  rintro z f W ⟨i, RA, cR, hi, rfl, f3, f4, f6, f7, f27, f28, f29, H⟩
  by_cases hlt : i < b.n
  ·obtain ⟨r, hrr⟩ : ∃ r, b.rs[i]? = some r := ⟨_, List.getElem?_eq_getElem (by omega)⟩
   obtain ⟨bb, bo, hA, _, hrd⟩ := hbrs (by omega)
   have hcell := hrd i r hrr
   have hok := right_roots rb r (List.mem_of_getElem? hrr)
   have hT := fun {W : World} hE => jTo p5 a.m b.m r W hE hok hm2 hm
   have ets := take_snoc (Gr.sh a.m) _ _ _ hrr
   rw [hA] at f27
   obtain ⟨f, rfl⟩ := lv7 f3 f4 f6 f7 f27 f28 f29
   clear f3 f4 f6 f7 f27 f28 f29
   refine k_sg ?_
   refine s_run rfl rfl (r_lssT rfl rfl (by omega)) ?_
   refine k_nc ?_
   refine k_seq ?_
   refine k_t rfl ?_
   refine k_skip ?_
   refine c_norm ?_
   refine k_seq ?_
   refine k_b ?_
   refine k_sg ?_
   refine s_run rfl rfl (r_ix1o (i := i) rfl rfl (by omega) (by omega) Try.underlying22 sz3) ?_
   refine s_run rfl rfl (r_lr H rfl hcell (by simp) ag3) ?_
   refine s_run rfl rfl (rai rfl) ?_
   refine k_nc ?_
   refine k_trF mixed ?_; have H' := H.drew; clear H; have H := H'; clear H'
   refine tqh 0 rfl rfl rfl (fun _ hS => r_fa0 rfl fo25_0) trivial ?_
   refine tqh 2 rfl rfl rfl (fun _ hS => r_mv (v := .func _ _ _) rfl) trivial ?_
   refine tqh 3 rfl rfl rfl (fun _ hS => r_mv (v := .int _ _) rfl) trivial ?_
   refine t_up2 1 4 (by kernel_rfl) ?_ ?_
   ·refine up_mk rfl ?_
    refine s_run rfl rfl (r_lo H 0 rfl rfl rfl ag22) ?_
    refine k_nil ?_
    refine t_on trivial ?_
    refine t_up1 4 (by kernel_rfl) ?_
    refine up_mk rfl ?_
    refine s_callV rfl rfl rfl Try.func52 (by kernel_rfl) (by kernel_rfl) (hT (H.one 3 rfl)) ?_
    rintro e W1 ⟨rfl, H'⟩
    refine ⟨_, rfl, ?_⟩
    have H := H.same H'; clear H'
    refine k_nil ?_
    refine t_on trivial ?_
    refine t_up1 5 (by kernel_rfl) ?_
    refine up_mk rfl ?_
    refine s_bsO (enc := (Value.int .i64)) (zs := [Gr.sh a.m r]) H rfl rfl rfl (by omega) (by kernel_rfl) Try.underlying22 inf3 ?_
    intro _ _ H'; clear H; have H := H'; clear H'
    refine k_nil ?_
    refine t_on trivial ?_
    refine t_up1 6 (by kernel_rfl) ?_
    refine up_mk rfl ?_
    refine s_apB (enc := (Value.int .i64)) (size := 1) H 1 rfl rfl rfl rfl (fun _ => rfl) (by omega) (by omega) Try.underlying22 inf3 rfl ?_
    intro RA' cR' _ H'; simp only [List.set_cons_zero, List.set_cons_succ, List.take_succ_cons, List.take_zero, List.drop_succ_cons, List.drop_zero, List.cons_append, List.nil_append, List.append_nil, List.length_cons, List.length_nil, Nat.reduceAdd] at H'; clear H; have H := H'; clear H'
    refine k_nil ?_
    refine t_on trivial ?_
    refine tqh 7 rfl rfl rfl (fun _ hS => r_fa0 rfl fo25_0) trivial ?_
    refine t_up1 8 (by kernel_rfl) ?_
    refine up_mk rfl ?_
    refine s_st (u := .slice _ _ _) H 0 rfl rfl rfl rfl rfl rfl sz22 ?_
    clear H; intro _ H; simp only [jA, jB, jC, jD, jE, jF, jG, jH, jI, jJ, jK, Nat.reduceAdd] at H
    refine k_nil ?_
    refine t_on trivial ?_
    refine t_done (by kernel_rfl) ?_
    refine b_norm ?_
    refine c_norm ?_
    refine k_rg ?_
    refine s_run rfl rfl (r_add rfl rfl (wI (by omega))) ?_
    refine s_run rfl rfl (rmi rfl) ?_
    refine k_nil ?_
    refine c_round ?_
    refine ⟨_, _, ?_, rfl, i + 1, RA', cR', by omega, rfl, rfl, rfl, rfl, rfl, by rw [hA]; rfl, rfl, rfl, by rw [ets, ← List.append_assoc]; exact H⟩
    omega
   ·refine up_mk rfl ?_
    refine s_callV rfl rfl rfl Try.func52 (by kernel_rfl) (by kernel_rfl) (hT (H.one 3 rfl)) ?_
    rintro e W1 ⟨rfl, H'⟩
    refine ⟨_, rfl, ?_⟩
    have H := H.same H'; clear H'
    refine k_nil ?_
    refine t_on trivial ?_
    refine t_up2 1 5 (by kernel_rfl) ?_ ?_
    ·refine up_mk rfl ?_
     refine s_run rfl rfl (r_lo H 0 rfl rfl rfl ag22) ?_
     refine k_nil ?_
     refine t_on trivial ?_
     refine t_up1 5 (by kernel_rfl) ?_
     refine up_mk rfl ?_
     refine s_bsO (enc := (Value.int .i64)) (zs := [Gr.sh a.m r]) H rfl rfl rfl (by omega) (by kernel_rfl) Try.underlying22 inf3 ?_
     intro _ _ H'; clear H; have H := H'; clear H'
     refine k_nil ?_
     refine t_on trivial ?_
     refine t_up1 6 (by kernel_rfl) ?_
     refine up_mk rfl ?_
     refine s_apB (enc := (Value.int .i64)) (size := 1) H 1 rfl rfl rfl rfl (fun _ => rfl) (by omega) (by omega) Try.underlying22 inf3 rfl ?_
     intro RA' cR' _ H'; simp only [List.set_cons_zero, List.set_cons_succ, List.take_succ_cons, List.take_zero, List.drop_succ_cons, List.drop_zero, List.cons_append, List.nil_append, List.append_nil, List.length_cons, List.length_nil, Nat.reduceAdd] at H'; clear H; have H := H'; clear H'
     refine k_nil ?_
     refine t_on trivial ?_
     refine tqh 7 rfl rfl rfl (fun _ hS => r_fa0 rfl fo25_0) trivial ?_
     refine t_up1 8 (by kernel_rfl) ?_
     refine up_mk rfl ?_
     refine s_st (u := .slice _ _ _) H 0 rfl rfl rfl rfl rfl rfl sz22 ?_
     clear H; intro _ H; simp only [jA, jB, jC, jD, jE, jF, jG, jH, jI, jJ, jK, Nat.reduceAdd] at H
     refine k_nil ?_
     refine t_on trivial ?_
     refine t_done (by kernel_rfl) ?_
     refine b_norm ?_
     refine c_norm ?_
     refine k_rg ?_
     refine s_run rfl rfl (r_add rfl rfl (wI (by omega))) ?_
     refine s_run rfl rfl (rmi rfl) ?_
     refine k_nil ?_
     refine c_round ?_
     refine ⟨_, _, ?_, rfl, i + 1, RA', cR', by omega, rfl, rfl, rfl, rfl, rfl, by rw [hA]; rfl, rfl, rfl, by rw [ets, ← List.append_assoc]; exact H⟩
     omega
    ·refine up_mk rfl ?_
     refine s_bsO (enc := (Value.int .i64)) (zs := [Gr.sh a.m r]) H rfl rfl rfl (by omega) (by kernel_rfl) Try.underlying22 inf3 ?_
     intro _ _ H'; clear H; have H := H'; clear H'
     refine k_nil ?_
     refine t_on trivial ?_
     refine t_up1 1 (by kernel_rfl) ?_
     refine up_mk rfl ?_
     refine s_run rfl rfl (r_lo H 1 rfl rfl rfl ag22) ?_
     refine k_nil ?_
     refine t_on trivial ?_
     refine t_up1 6 (by kernel_rfl) ?_
     refine up_mk rfl ?_
     refine s_apB (enc := (Value.int .i64)) (size := 1) H 1 rfl rfl rfl rfl (fun _ => rfl) (by omega) (by omega) Try.underlying22 inf3 rfl ?_
     intro RA' cR' _ H'; simp only [List.set_cons_zero, List.set_cons_succ, List.take_succ_cons, List.take_zero, List.drop_succ_cons, List.drop_zero, List.cons_append, List.nil_append, List.append_nil, List.length_cons, List.length_nil, Nat.reduceAdd] at H'; clear H; have H := H'; clear H'
     refine k_nil ?_
     refine t_on trivial ?_
     refine tqh 7 rfl rfl rfl (fun _ hS => r_fa0 rfl fo25_0) trivial ?_
     refine t_up1 8 (by kernel_rfl) ?_
     refine up_mk rfl ?_
     refine s_st (u := .slice _ _ _) H 0 rfl rfl rfl rfl rfl rfl sz22 ?_
     clear H; intro _ H; simp only [jA, jB, jC, jD, jE, jF, jG, jH, jI, jJ, jK, Nat.reduceAdd] at H
     refine k_nil ?_
     refine t_on trivial ?_
     refine t_done (by kernel_rfl) ?_
     refine b_norm ?_
     refine c_norm ?_
     refine k_rg ?_
     refine s_run rfl rfl (r_add rfl rfl (wI (by omega))) ?_
     refine s_run rfl rfl (rmi rfl) ?_
     refine k_nil ?_
     refine c_round ?_
     refine ⟨_, _, ?_, rfl, i + 1, RA', cR', by omega, rfl, rfl, rfl, rfl, rfl, by rw [hA]; rfl, rfl, rfl, by rw [ets, ← List.append_assoc]; exact H⟩
     omega
  ·obtain rfl : i = b.n := by omega
   have etk : b.rs.take b.n = b.rs := by rw [← hbrl]; exact List.take_length
   rw [etk] at H
   obtain ⟨f, rfl⟩ := lv7 f3 f4 f6 f7 f27 f28 f29
   clear f3 f4 f6 f7 f27 f28 f29
   refine k_sg ?_
   refine s_run rfl rfl (r_lssF rfl rfl (by omega)) ?_
   refine k_nc ?_
   refine k_seq ?_
   refine k_f rfl ?_
   refine k_exit ?_
   refine c_exit ?_
   refine c_exit ?_
   refine b_hit ?_
   refine c_norm ?_
   refine k_seq ?_
   refine k_sg ?_
   refine s_run rfl rfl (r_fa0 rfl fo25_1) ?_
   refine s_run rfl rfl (r_lo H 5 rfl rfl rfl ag23) ?_
   refine s_run rfl rfl (r_len rfl Try.underlying23) ?_
   refine s_run rfl rfl (rmi rfl) ?_
   refine k_nc ?_
   refine k_b ?_
   replace H := H.grp_nil
   replace H := H.order [1, 3, 0, 2, 4, 5, 6, 7] rfl rfl
   refine k_loop (fun z f W => ∃ (i : Nat) (NA : Option Addr) (cN : Nat) (ns : List NodeS), i ≤ b.m ∧ z = b.m - i ∧ ns.length = i ∧ ns.map (fun x => (x.ps, x.ds)) = (b.ns.take i).map (shP a.m) ∧ (∀ x ∈ ns, x.n ≤ 1000 ∧ x.m ≤ 100000) ∧ f 4 = ptr p4 ∧ f 6 = .func (.func 52) #[] [ptr p5].toArray ∧ f 7 = ptr p7 ∧ f 43 = .slice b.B b.m b.d ∧ f 44 = .int .i64 b.m ∧ f 45 = .int .i64 i ∧ Heap w [] [blk p7 [.slice RA (a.n + b.n) cR, .slice NA (a.m + i) cN] 25, ownN 2 (.slice NA (a.m + i) cN) (a.m + i) ((flatN (a.ns ++ ns)).map C1.v) 39, grp (ns.map nodeE), ownN 1 (.slice RA (a.n + b.n) cR) (a.n + b.n) ((a.rs ++ b.rs.map (Gr.sh a.m)).map (Value.int .i64)) 3, blk p5 [.int .i64 a.m] 3, blk p4 [.slice none 0 0, .slice none 0 0] 25, blk p3 [.slice b.A b.n b.c, .slice b.B b.m b.d] 25, blk p2 [.slice a.A a.n a.c, .slice a.B a.m a.d] 25] W) b.m ⟨0, NA, cN, [], by omega, rfl, rfl, rfl, by simp, rfl, rfl, rfl, rfl, rfl, rfl, by rw [Nat.add_zero, List.append_nil]; exact H⟩ ?_
   clear H
   clear NA cN
   rintro z f W ⟨i, NA, cN, ns, hi, rfl, hnsl, hnsm, hnsb, f4, f6, f7, f43, f44, f45, H⟩
   by_cases hlt : i < b.m
   ·obtain ⟨x, hx⟩ : ∃ x, b.ns[i]? = some x := ⟨_, List.getElem?_eq_getElem (by omega)⟩
    have hxm := List.mem_of_getElem? hx
    obtain ⟨bb, bo, hB, _, hrd⟩ := hb.ns.1 (by omega)
    have hrx := hrd i x hx
    have hxo := hb.ns.2 x hxm
    have hxn := (sb.p x hxm).1
    have hxd := (sb.p x hxm).2
    have hpl := hxo.pl
    have hCl := fun W (h : Only [] w W) => gCloneU x.B x.m x.d x.ds W (hxo.ds.later h (by simp)) hxo.dl hxd
    unfold NodeS.cells at hrx
    rw [hB] at f43
    obtain ⟨f, rfl⟩ := live6 f4 f6 f7 f43 f44 f45
    clear f4 f6 f7 f43 f44 f45
    refine k_sg ?_
    refine s_run rfl rfl (r_lssT rfl rfl (by omega)) ?_
    refine k_nc ?_
    refine k_seq ?_
    refine k_t rfl ?_
    refine k_skip ?_
    refine c_norm ?_
    refine k_seq ?_
    refine k_b ?_
    refine k_sg ?_
    refine s_run rfl rfl (r_ix (i := i) rfl rfl (by omega) (by omega) Try.underlying23 sz39) ?_
    refine s_run rfl rfl (r_lA (enc := fun v : Value => v) (zs := [.slice x.A x.n x.c, .slice x.B x.m x.d]) (hrx.later H.only (by simp)) rfl rfl ag39 sz39) ?_
    refine s_al H rfl inf39 ?_
    intro p11 _ H'; clear H; have H := H'; clear H'
    refine s_sw H 0 rfl rfl rfl rfl rfl rfl rfl sz39 ?_
    clear H; intro _ H; simp only [jA, jB, jC, jD, jE, jF, jG, jH, jI, jJ, jK, Nat.reduceAdd] at H
    refine k_nc ?_
    refine k_sg ?_
    refine s_run rfl rfl (r_fa0 rfl fo39_1) ?_
    refine s_run rfl rfl (r_lo H 0 rfl rfl rfl ag37) ?_
    refine s_call rfl (hCl _ H.only) (ca55 rfl) ?_
    rintro e W1 ⟨DB, dD, rfl, H'⟩
    refine ⟨_, rfl, ?_⟩
    have H := H.more H'; clear H'
    refine s_run rfl rfl (r_bd (bd39_1 _ _ _) rfl) ?_
    refine s_al H rfl inf39 ?_
    intro p12 _ H'; clear H; have H := H'; clear H'
    refine s_sw H 0 rfl rfl rfl rfl rfl rfl rfl sz39 ?_
    clear H; intro _ H; simp only [jA, jB, jC, jD, jE, jF, jG, jH, jI, jJ, jK, Nat.reduceAdd] at H
    refine k_nc ?_
    refine k_seq ?_
    refine k_sg ?_
    refine s_run rfl rfl (r_fa0 rfl fo39_0) ?_
    refine s_run rfl rfl (r_lo H 2 rfl rfl rfl ag22) ?_
    refine s_run rfl rfl (r_len rfl Try.underlying22) ?_
    refine s_run rfl rfl (rmi rfl) ?_
    refine k_nc ?_
    refine k_b ?_
    replace H := (H.order [0, 1, 3, 4, 5, 6, 7, 8, 9, 10, 2] rfl rfl : Heap w [] ([_, _, _, _, _, _, _, _, _, _] ++ [_]) _).drops
    replace H := H.own_nil 1 3
    replace H := H.order [1, 0, 2, 3, 4, 5, 6, 7, 8, 9, 10] rfl rfl
    refine k_loop (fun z f W => ∃ (k : Nat) (PA : Option Addr) (cP : Nat), k ≤ x.n ∧ z = x.n - k ∧ f 4 = ptr p4 ∧ f 6 = .func (.func 52) #[] [ptr p5].toArray ∧ f 7 = ptr p7 ∧ f 12 = ptr p12 ∧ f 43 = .slice b.B b.m b.d ∧ f 44 = .int .i64 b.m ∧ f 45 = .int .i64 i ∧ f 54 = .slice x.A x.n x.c ∧ f 55 = .int .i64 x.n ∧ f 56 = .int .i64 k ∧
     Heap w [] [blk p12 [.slice PA k cP, .slice DB x.m dD] 39, ownN 1 (.slice PA k cP) k (((x.ps.take k).map (Gr.sh a.m)).map (Value.int .i64)) 3, ownN 1 (.slice DB x.m dD) x.m (x.ds.map (Value.int .u64)) 78, blk p7 [.slice RA (a.n + b.n) cR, .slice NA (a.m + i) cN] 25, ownN 2 (.slice NA (a.m + i) cN) (a.m + i) ((flatN (a.ns ++ ns)).map C1.v) 39, grp (ns.map nodeE), ownN 1 (.slice RA (a.n + b.n) cR) (a.n + b.n) ((a.rs ++ b.rs.map (Gr.sh a.m)).map (Value.int .i64)) 3, blk p5 [.int .i64 a.m] 3, blk p4 [.slice none 0 0, .slice none 0 0] 25, blk p3 [.slice b.A b.n b.c, .slice b.B b.m b.d] 25, blk p2 [.slice a.A a.n a.c, .slice a.B a.m a.d] 25] W) x.n ⟨0, none, 0, by omega, rfl, rfl, rfl, rfl, rfl, by rw [hB]; rfl, rfl, rfl, rfl, rfl, rfl, H⟩ ?_
    clear H
    rintro z f W ⟨k, PA, cP, hk, rfl, f4, f6, f7, f12, f43, f44, f45, f54, f55, f56, H⟩
    by_cases hlk : k < x.n
    ·obtain ⟨q, hq⟩ : ∃ q, x.ps[k]? = some q := ⟨_, List.getElem?_eq_getElem (by omega)⟩
     obtain ⟨b2, o2, hA2, _, hrd2⟩ := hxo.ps (by omega)
     have hcell := hrd2 k q hq
     have hok := right_ptrs rb x hxm q (List.mem_of_getElem? hq)
     have hT := fun {W : World} hE => jTo p5 a.m b.m q W hE hok hm2 hm
     have ets := take_snoc (Gr.sh a.m) _ _ _ hq
     rw [hA2] at f54
     obtain ⟨f, rfl⟩ := lv10 f4 f6 f7 f12 f43 f44 f45 f54 f55 f56
     clear f4 f6 f7 f12 f43 f44 f45 f54 f55 f56
     refine k_sg ?_
     refine s_run rfl rfl (r_lssT rfl rfl (by omega)) ?_
     refine k_nc ?_
     refine k_seq ?_
     refine k_t rfl ?_
     refine k_skip ?_
     refine c_norm ?_
     refine k_seq ?_
     refine k_b ?_
     refine k_sg ?_
     refine s_run rfl rfl (r_ix1o (i := k) rfl rfl (by omega) (by omega) Try.underlying22 sz3) ?_
     refine s_run rfl rfl (r_lr H rfl hcell (by simp) ag3) ?_
     refine s_run rfl rfl (rai rfl) ?_
     refine k_nc ?_
     refine k_trF mixed ?_; have H' := H.drew; clear H; have H := H'; clear H'
     refine tqh 0 rfl rfl rfl (fun _ hS => r_fa0 rfl fo39_0) trivial ?_
     refine tqh 2 rfl rfl rfl (fun _ hS => r_mv (v := .func _ _ _) rfl) trivial ?_
     refine tqh 3 rfl rfl rfl (fun _ hS => r_mv (v := .int _ _) rfl) trivial ?_
     refine t_up2 1 4 (by kernel_rfl) ?_ ?_
     ·refine up_mk rfl ?_
      refine s_run rfl rfl (r_lo H 0 rfl rfl rfl ag22) ?_
      refine k_nil ?_
      refine t_on trivial ?_
      refine t_up1 4 (by kernel_rfl) ?_
      refine up_mk rfl ?_
      refine s_callV rfl rfl rfl Try.func52 (by kernel_rfl) (by kernel_rfl) (hT (H.one 7 rfl)) ?_
      rintro e W1 ⟨rfl, H'⟩
      refine ⟨_, rfl, ?_⟩
      have H := H.same H'; clear H'
      refine k_nil ?_
      refine t_on trivial ?_
      refine t_up1 5 (by kernel_rfl) ?_
      refine up_mk rfl ?_
      refine s_bsO (enc := (Value.int .i64)) (zs := [Gr.sh a.m q]) H rfl rfl rfl (by omega) (by kernel_rfl) Try.underlying22 inf3 ?_
      intro _ _ H'; clear H; have H := H'; clear H'
      refine k_nil ?_
      refine t_on trivial ?_
      refine t_up1 6 (by kernel_rfl) ?_
      refine up_mk rfl ?_
      refine s_apB (enc := (Value.int .i64)) (size := 1) H 1 rfl rfl rfl rfl (fun _ => rfl) (by omega) (by omega) Try.underlying22 inf3 rfl ?_
      intro PA' cP' _ H'; simp only [List.set_cons_zero, List.set_cons_succ, List.take_succ_cons, List.take_zero, List.drop_succ_cons, List.drop_zero, List.cons_append, List.nil_append, List.append_nil, List.length_cons, List.length_nil, Nat.reduceAdd] at H'; clear H; have H := H'; clear H'
      refine k_nil ?_
      refine t_on trivial ?_
      refine tqh 7 rfl rfl rfl (fun _ hS => r_fa0 rfl fo39_0) trivial ?_
      refine t_up1 8 (by kernel_rfl) ?_
      refine up_mk rfl ?_
      refine s_st (u := .slice _ _ _) H 0 rfl rfl rfl rfl rfl rfl sz22 ?_
      clear H; intro _ H; simp only [jA, jB, jC, jD, jE, jF, jG, jH, jI, jJ, jK, Nat.reduceAdd] at H
      refine k_nil ?_
      refine t_on trivial ?_
      refine t_done (by kernel_rfl) ?_
      refine b_norm ?_
      refine c_norm ?_
      refine k_rg ?_
      refine s_run rfl rfl (r_add rfl rfl (wI (by omega))) ?_
      refine s_run rfl rfl (rmi rfl) ?_
      refine k_nil ?_
      refine c_round ?_
      refine ⟨_, _, ?_, rfl, k + 1, PA', cP', by omega, rfl, rfl, rfl, rfl, rfl, rfl, rfl, rfl, by rw [hA2]; rfl, rfl, rfl, by rw [ets]; exact H⟩
      omega
     ·refine up_mk rfl ?_
      refine s_callV rfl rfl rfl Try.func52 (by kernel_rfl) (by kernel_rfl) (hT (H.one 7 rfl)) ?_
      rintro e W1 ⟨rfl, H'⟩
      refine ⟨_, rfl, ?_⟩
      have H := H.same H'; clear H'
      refine k_nil ?_
      refine t_on trivial ?_
      refine t_up2 1 5 (by kernel_rfl) ?_ ?_
      ·refine up_mk rfl ?_
       refine s_run rfl rfl (r_lo H 0 rfl rfl rfl ag22) ?_
       refine k_nil ?_
       refine t_on trivial ?_
       refine t_up1 5 (by kernel_rfl) ?_
       refine up_mk rfl ?_
       refine s_bsO (enc := (Value.int .i64)) (zs := [Gr.sh a.m q]) H rfl rfl rfl (by omega) (by kernel_rfl) Try.underlying22 inf3 ?_
       intro _ _ H'; clear H; have H := H'; clear H'
       refine k_nil ?_
       refine t_on trivial ?_
       refine t_up1 6 (by kernel_rfl) ?_
       refine up_mk rfl ?_
       refine s_apB (enc := (Value.int .i64)) (size := 1) H 1 rfl rfl rfl rfl (fun _ => rfl) (by omega) (by omega) Try.underlying22 inf3 rfl ?_
       intro PA' cP' _ H'; simp only [List.set_cons_zero, List.set_cons_succ, List.take_succ_cons, List.take_zero, List.drop_succ_cons, List.drop_zero, List.cons_append, List.nil_append, List.append_nil, List.length_cons, List.length_nil, Nat.reduceAdd] at H'; clear H; have H := H'; clear H'
       refine k_nil ?_
       refine t_on trivial ?_
       refine tqh 7 rfl rfl rfl (fun _ hS => r_fa0 rfl fo39_0) trivial ?_
       refine t_up1 8 (by kernel_rfl) ?_
       refine up_mk rfl ?_
       refine s_st (u := .slice _ _ _) H 0 rfl rfl rfl rfl rfl rfl sz22 ?_
       clear H; intro _ H; simp only [jA, jB, jC, jD, jE, jF, jG, jH, jI, jJ, jK, Nat.reduceAdd] at H
       refine k_nil ?_
       refine t_on trivial ?_
       refine t_done (by kernel_rfl) ?_
       refine b_norm ?_
       refine c_norm ?_
       refine k_rg ?_
       refine s_run rfl rfl (r_add rfl rfl (wI (by omega))) ?_
       refine s_run rfl rfl (rmi rfl) ?_
       refine k_nil ?_
       refine c_round ?_
       refine ⟨_, _, ?_, rfl, k + 1, PA', cP', by omega, rfl, rfl, rfl, rfl, rfl, rfl, rfl, rfl, by rw [hA2]; rfl, rfl, rfl, by rw [ets]; exact H⟩
       omega
      ·refine up_mk rfl ?_
       refine s_bsO (enc := (Value.int .i64)) (zs := [Gr.sh a.m q]) H rfl rfl rfl (by omega) (by kernel_rfl) Try.underlying22 inf3 ?_
       intro _ _ H'; clear H; have H := H'; clear H'
       refine k_nil ?_
       refine t_on trivial ?_
       refine t_up1 1 (by kernel_rfl) ?_
       refine up_mk rfl ?_
       refine s_run rfl rfl (r_lo H 1 rfl rfl rfl ag22) ?_
       refine k_nil ?_
       refine t_on trivial ?_
       refine t_up1 6 (by kernel_rfl) ?_
       refine up_mk rfl ?_
       refine s_apB (enc := (Value.int .i64)) (size := 1) H 1 rfl rfl rfl rfl (fun _ => rfl) (by omega) (by omega) Try.underlying22 inf3 rfl ?_
       intro PA' cP' _ H'; simp only [List.set_cons_zero, List.set_cons_succ, List.take_succ_cons, List.take_zero, List.drop_succ_cons, List.drop_zero, List.cons_append, List.nil_append, List.append_nil, List.length_cons, List.length_nil, Nat.reduceAdd] at H'; clear H; have H := H'; clear H'
       refine k_nil ?_
       refine t_on trivial ?_
       refine tqh 7 rfl rfl rfl (fun _ hS => r_fa0 rfl fo39_0) trivial ?_
       refine t_up1 8 (by kernel_rfl) ?_
       refine up_mk rfl ?_
       refine s_st (u := .slice _ _ _) H 0 rfl rfl rfl rfl rfl rfl sz22 ?_
       clear H; intro _ H; simp only [jA, jB, jC, jD, jE, jF, jG, jH, jI, jJ, jK, Nat.reduceAdd] at H
       refine k_nil ?_
       refine t_on trivial ?_
       refine t_done (by kernel_rfl) ?_
       refine b_norm ?_
       refine c_norm ?_
       refine k_rg ?_
       refine s_run rfl rfl (r_add rfl rfl (wI (by omega))) ?_
       refine s_run rfl rfl (rmi rfl) ?_
       refine k_nil ?_
       refine c_round ?_
       refine ⟨_, _, ?_, rfl, k + 1, PA', cP', by omega, rfl, rfl, rfl, rfl, rfl, rfl, rfl, rfl, by rw [hA2]; rfl, rfl, rfl, by rw [ets]; exact H⟩
       omega
    ·obtain rfl : k = x.n := by omega
     have etp : x.ps.take x.n = x.ps := by rw [← hpl]; exact List.take_length
     rw [etp] at H
     obtain ⟨f, rfl⟩ := lv10 f4 f6 f7 f12 f43 f44 f45 f54 f55 f56
     clear f4 f6 f7 f12 f43 f44 f45 f54 f55 f56
     refine k_sg ?_
     refine s_run rfl rfl (r_lssF rfl rfl (by omega)) ?_
     refine k_nc ?_
     refine k_seq ?_
     refine k_f rfl ?_
     refine k_exit ?_
     refine c_exit ?_
     refine c_exit ?_
     refine b_hit ?_
     refine c_norm ?_
     refine k_rg ?_
     refine s_run rfl rfl (r_fa0 rfl fo25_1) ?_
     refine s_run rfl rfl (r_lo H 3 rfl rfl rfl ag23) ?_
     refine s_run rfl rfl (r_la H 0 rfl rfl rfl ag39 sz39) ?_
     refine s_appN (enc := C1.v) (zs := [C1.s PA x.n cP, C1.s DB x.m dD]) H 4 rfl rfl rfl rfl C1.one (by omega) (by kernel_rfl) rfl rfl rfl (by omega) Try.underlying23 inf39 rfl ?_
     intro _ NA' cN' _ H'; simp only [List.set_cons_zero, List.set_cons_succ, List.take_succ_cons, List.take_zero, List.drop_succ_cons, List.drop_zero, List.cons_append, List.nil_append, List.append_nil, List.length_cons, List.length_nil, Nat.reduceAdd] at H'; clear H; have H := H'; clear H'
     refine s_run rfl rfl (r_fa0 rfl fo25_1) ?_
     refine s_st (u := .slice _ _ _) H 3 rfl rfl rfl rfl rfl rfl sz23 ?_
     clear H; intro _ H; simp only [jA, jB, jC, jD, jE, jF, jG, jH, jI, jJ, jK, Nat.reduceAdd] at H
     refine k_nil ?_
     refine b_norm ?_
     refine c_norm ?_
     refine k_rg ?_
     refine s_run rfl rfl (r_add rfl rfl (wI (by omega))) ?_
     refine s_run rfl rfl (rmi rfl) ?_
     refine k_nil ?_
     refine c_round ?_
     replace H := (H.order [1, 2, 5, 3, 4, 6, 7, 8, 9, 10, 0] rfl rfl : Heap w [] ([_, _] ++ [_, _, _, _, _, _, _, _, _]) _).wrap
     replace H := H.grp_snoc (E := nodeE (NodeS.mk PA x.n cP (x.ps.map (Gr.sh a.m)) DB x.m dD x.ds))
     replace H := (H.order [1, 2, 0, 3, 4, 5, 6, 7, 8] rfl rfl : Heap w [] ([_, _, _, _, _, _, _, _] ++ [_]) _).drops
     have e1 : ns.map nodeE ++ [nodeE (NodeS.mk PA x.n cP (x.ps.map (Gr.sh a.m)) DB x.m dD x.ds)] = (ns ++ [(NodeS.mk PA x.n cP (x.ps.map (Gr.sh a.m)) DB x.m dD x.ds)]).map nodeE := by simp
     rw [e1] at H
     have e2 := flatN_snoc (a.ns ++ ns) (NodeS.mk PA x.n cP (x.ps.map (Gr.sh a.m)) DB x.m dD x.ds)
     refine ⟨_, _, ?_, rfl, i + 1, some ⟨NA', 0, none⟩, cN', ns ++ [(NodeS.mk PA x.n cP (x.ps.map (Gr.sh a.m)) DB x.m dD x.ds)], by omega, rfl, by simp [hnsl], ?_, fun z hz => ?_, rfl, rfl, rfl, rfl, rfl, rfl, ?_⟩
     ·omega
     ·rw [List.map_append, hnsm, take_snoc _ _ _ _ hx]; rfl
     ·rcases List.mem_append.1 hz with hz | hz
      ·exact hnsb z hz
      ·rw [List.mem_singleton.1 hz]; exact ⟨hxn, hxd⟩
     ·rw [← List.append_assoc, e2]; exact H
   ·obtain rfl : i = b.m := by omega
    obtain ⟨f, rfl⟩ := live6 f4 f6 f7 f43 f44 f45
    clear f4 f6 f7 f43 f44 f45
    refine k_sg ?_
    refine s_run rfl rfl (r_lssF rfl rfl (by omega)) ?_
    refine k_nc ?_
    refine k_seq ?_
    refine k_f rfl ?_
    refine k_exit ?_
    refine c_exit ?_
    refine c_exit ?_
    refine b_hit ?_
    refine c_norm ?_
    refine k_sg ?_
    refine s_run rfl rfl (r_la H 0 rfl rfl rfl ag25 sz25) ?_
    refine s_sw H 5 rfl rfl rfl rfl rfl rfl rfl sz25 ?_
    clear H; intro _ H; simp only [jA, jB, jC, jD, jE, jF, jG, jH, jI, jJ, jK, Nat.reduceAdd] at H
    refine k_nc ?_
    refine k_ret ?_
    refine fx1r rfl (rv_a H 5 rfl rfl rfl ag25 sz25) ?_
    have eto : b.ns.take b.m = b.ns := by rw [← hbnl]; exact List.take_length
    rw [eto] at hnsm
    have hok := made_okG (n := a.n + b.n) (m := a.m + b.m) (ns := a.ns ++ ns) (by rw [List.length_append, List.length_map, harl, hbrl]) (by rw [List.length_append, hanl, hnsl]) (H.order [3, 1, 2, 0, 4, 5, 6, 7] rfl rfl) (by omega) (by omega) (fun p hp => by
     rcases List.mem_append.1 hp with hp | hp
     ·have := right_roots ra p hp; unfold okP at this; omega
     ·obtain ⟨z, hz, rfl⟩ := List.mem_map.1 hp
      exact sh_bd (right_roots rb z hz) hm hm2) (fun x hx => by
     rcases List.mem_append.1 hx with hx | hx
     ·exact (ha.ns.2 x hx).later H.only (by simp)
     ·obtain ⟨h1, h2⟩ := hnsb x hx
      have h3 : (x.ps, x.ds) ∈ b.ns.map (shP a.m) := by rw [← hnsm]; exact List.mem_map.2 ⟨x, hx, rfl⟩
      obtain ⟨y, hy, he⟩ := List.mem_map.1 h3
      unfold shP at he
      injection he with he1 he2
      refine nodeE_ok H 2 rfl x hx ⟨by omega, h2, fun p hp => ?_, fun p hp => ?_⟩
      ·rw [← he1] at hp
       obtain ⟨z, hz, rfl⟩ := List.mem_map.1 hp
       exact sh_bd (right_ptrs rb y hy z hz) hm hm2
      ·rw [← he2] at hp
       exact (hb.ns.2 y hy).db p hp)
    refine ⟨⟨⟨RA, a.n + b.n, cR, _, NA, a.m + b.m, cN, a.ns ++ ns⟩, rfl, hok, rfl, ?_, rfl, rfl, fun x hx => ?_⟩, H.only⟩
    ·unfold GrS.nodes
     rw [List.map_append, hnsm]
    ·rcases List.mem_append.1 hx with hx | hx
     ·exact sa.p x hx
     ·exact hnsb x hx
end Go.Proofs.Ytdgmlfpikgjnlaa
end
