/- Parts of the proof, one behind the other. -/
import Derived.Test.YtpbimgopiammaaaKLedgerPlaysc
set_option linter.unusedSimpArgs false
set_option linter.unusedVariables false
set_option linter.unusedSectionVars false
section
namespace Go.Proofs.Ytpbimgopiammaaa
open Go.RowKit
set_option maxRecDepth 100000
set_option maxHeartbeats 4000000
theorem rGiveR {F : List Nat} {A : Option Addr} {n c : Nat} {s : LdS} {w : World} {N : Nat} (hD : DocOk F w A n c s) (hok : LdOk N s) (hN : N ≤ 1000) (m a : Int) :
  Calls Try.prog 35 [docV A n c s, .int .i64 m, .int .i64 a].toArray w fun e w' => ∃ A' n' c', e = .returned (.tuple [docV A' n' c' (s.give m a).1, .int .i64 (s.give m a).2.1, .int .i64 (s.give m a).2.2].toArray) ∧ ((A' = A ∧ n' = n ∧ c' = c ∧ (s.give m a).2.2 ≠ 0 ∧ Only [] w w') ∨ Heap w [] [ownN 3 (.slice A' n' c') n' ((enC (s.give m a).1.L).map C1.v) 100] w') := by
 have H := Heap.nil w
 have hS := hD.sees.mono (G := []) (by simp)
 have hl := hD.len
 have hcap := hD.cap
 have hNn := hok.len
 have hFi := fun {W : World} (h : Only [] w W) => rFind (c := c) (q := s.q) (pk := s.pk) (tk := s.tk) (hS.later h (by simp)) hl (by omega) hok.nd m a
 have hel := enC_len s.L
 unfold LdS.give
 unfold docV
 by_cases hbad : m < 0 ∨ 4 ≤ m
 ·rw [if_pos hbad]
  by_cases b1 : m < 0
  ·refine k_in (N := 46) Try.func35 rfl rfl rfl ?_
   refine k_sg ?_
   refine s_box H rfl rfl ?_
   intro p3 _ H'; clear H; have H := H'; clear H'
   refine s_al H rfl inf31 ?_
   intro p6 _ H'; clear H; have H := H'; clear H'
   refine s_run rfl rfl (rai rfl) ?_
   refine s_run rfl rfl (rai rfl) ?_
   refine k_nc ?_
   refine k_seq ?_
   refine k_sg ?_
   refine s_run rfl rfl (rmi rfl) ?_
   refine s_run rfl rfl (r_lssT rfl rfl (by omega)) ?_
   refine s_run rfl rfl (rmb rfl) ?_
   refine s_off rfl (g_off 13 (by kernel_rfl) rfl rfl) ?_
   refine s_off rfl (g_off 13 (by kernel_rfl) rfl rfl) ?_
   refine s_run rfl rfl (r_pkT (v := .bool _) rfl rfl) ?_
   refine k_nc ?_
   refine k_t rfl ?_
   refine k_sg ?_
   refine s_run rfl rfl (r_la H 1 rfl rfl rfl ag31 sz31) ?_
   refine s_sw H 0 rfl rfl rfl rfl rfl rfl rfl sz31 ?_
   clear H; intro _ H; simp only [jA, jB, jC, jD, jE, jF, jG, jH, jI, jJ, jK, Nat.reduceAdd] at H
   refine s_run rfl rfl (rai rfl) ?_
   refine s_run rfl rfl (rai rfl) ?_
   refine k_nc ?_
   refine k_ret ?_
   refine c_ret ?_
   refine fx3r rfl (rv_a H 0 rfl rfl rfl ag31 sz31) (rv_t (v := .int _ _) rfl) (rv_t (v := .int _ _) rfl) ?_
   exact ⟨A, n, c, rfl, .inl ⟨rfl, rfl, rfl, by simp, H.only⟩⟩
  ·refine k_in (N := 46) Try.func35 rfl rfl rfl ?_
   refine k_sg ?_
   refine s_box H rfl rfl ?_
   intro p3 _ H'; clear H; have H := H'; clear H'
   refine s_al H rfl inf31 ?_
   intro p6 _ H'; clear H; have H := H'; clear H'
   refine s_run rfl rfl (rai rfl) ?_
   refine s_run rfl rfl (rai rfl) ?_
   refine k_nc ?_
   refine k_seq ?_
   refine k_sg ?_
   refine s_run rfl rfl (rmi rfl) ?_
   refine s_run rfl rfl (r_lssF rfl rfl (by omega)) ?_
   refine s_run rfl rfl (rmb rfl) ?_
   refine s_run rfl (g_on 13 (by kernel_rfl) rfl) (rmi rfl) ?_
   refine s_run rfl (g_on 13 (by kernel_rfl) rfl) (r_gtrT rfl rfl (by omega)) ?_
   refine s_run rfl rfl (r_pkF (v := .bool _) rfl rfl) ?_
   refine k_nc ?_
   refine k_t rfl ?_
   refine k_sg ?_
   refine s_run rfl rfl (r_la H 1 rfl rfl rfl ag31 sz31) ?_
   refine s_sw H 0 rfl rfl rfl rfl rfl rfl rfl sz31 ?_
   clear H; intro _ H; simp only [jA, jB, jC, jD, jE, jF, jG, jH, jI, jJ, jK, Nat.reduceAdd] at H
   refine s_run rfl rfl (rai rfl) ?_
   refine s_run rfl rfl (rai rfl) ?_
   refine k_nc ?_
   refine k_ret ?_
   refine c_ret ?_
   refine fx3r rfl (rv_a H 0 rfl rfl rfl ag31 sz31) (rv_t (v := .int _ _) rfl) (rv_t (v := .int _ _) rfl) ?_
   exact ⟨A, n, c, rfl, .inl ⟨rfl, rfl, rfl, by simp, H.only⟩⟩
 ·rw [if_neg hbad]
  cases hg : mget s.L (m, a) with
  | none =>
   rw [hg] at hFi
   refine k_in (N := 46) Try.func35 rfl rfl rfl ?_
   refine k_sg ?_
   refine s_box H rfl rfl ?_
   intro p3 _ H'; clear H; have H := H'; clear H'
   refine s_al H rfl inf31 ?_
   intro p6 _ H'; clear H; have H := H'; clear H'
   refine s_run rfl rfl (rai rfl) ?_
   refine s_run rfl rfl (rai rfl) ?_
   refine k_nc ?_
   refine k_seq ?_
   refine k_sg ?_
   refine s_run rfl rfl (rmi rfl) ?_
   refine s_run rfl rfl (r_lssF rfl rfl (by omega)) ?_
   refine s_run rfl rfl (rmb rfl) ?_
   refine s_run rfl (g_on 13 (by kernel_rfl) rfl) (rmi rfl) ?_
   refine s_run rfl (g_on 13 (by kernel_rfl) rfl) (r_gtrF rfl rfl (by omega)) ?_
   refine s_run rfl rfl (r_pkF (v := .bool _) rfl rfl) ?_
   refine k_nc ?_
   refine k_f rfl ?_
   refine k_skip ?_
   refine c_norm ?_
   refine k_sg ?_
   refine s_run rfl rfl (r_la H 1 rfl rfl rfl ag31 sz31) ?_
   refine s_run rfl rfl (rmi rfl) ?_
   refine s_run rfl rfl (rmi rfl) ?_
   refine s_call rfl (hFi H.only) (ca54 rfl) ?_
   rintro e W1 ⟨⟨r, rfl, hr⟩, H'⟩
   refine ⟨_, rfl, ?_⟩
   have H := H.same H'; clear H'; obtain rfl : r = -1 := hr.elim (fun h => h.2) (fun ⟨_, _, _, _, h⟩ => by cases h)
   refine s_run rfl rfl (rai rfl) ?_
   refine k_nc ?_
   refine k_seq ?_
   refine k_sg ?_
   refine s_run rfl rfl (rmi rfl) ?_
   refine s_run rfl rfl (r_lssT rfl rfl (by omega)) ?_
   refine k_nc ?_
   refine k_t rfl ?_
   refine k_sg ?_
   refine s_run rfl rfl (r_la H 1 rfl rfl rfl ag31 sz31) ?_
   refine s_sw H 0 rfl rfl rfl rfl rfl rfl rfl sz31 ?_
   clear H; intro _ H; simp only [jA, jB, jC, jD, jE, jF, jG, jH, jI, jJ, jK, Nat.reduceAdd] at H
   refine s_run rfl rfl (rai rfl) ?_
   refine s_run rfl rfl (rai rfl) ?_
   refine k_nc ?_
   refine k_ret ?_
   refine c_ret ?_
   refine fx3r rfl (rv_a H 0 rfl rfl rfl ag31 sz31) (rv_t (v := .int _ _) rfl) (rv_t (v := .int _ _) rfl) ?_
   exact ⟨A, n, c, rfl, .inl ⟨rfl, rfl, rfl, by simp, H.only⟩⟩
  | some v =>
   simp only
   rw [hg] at hFi
   refine k_in (N := 46) Try.func35 rfl rfl rfl ?_
   refine k_sg ?_
   refine s_box H rfl rfl ?_
   intro p3 _ H'; clear H; have H := H'; clear H'
   refine s_al H rfl inf31 ?_
   intro p6 _ H'; clear H; have H := H'; clear H'
   refine s_run rfl rfl (rai rfl) ?_
   refine s_run rfl rfl (rai rfl) ?_
   refine k_nc ?_
   refine k_seq ?_
   refine k_sg ?_
   refine s_run rfl rfl (rmi rfl) ?_
   refine s_run rfl rfl (r_lssF rfl rfl (by omega)) ?_
   refine s_run rfl rfl (rmb rfl) ?_
   refine s_run rfl (g_on 13 (by kernel_rfl) rfl) (rmi rfl) ?_
   refine s_run rfl (g_on 13 (by kernel_rfl) rfl) (r_gtrF rfl rfl (by omega)) ?_
   refine s_run rfl rfl (r_pkF (v := .bool _) rfl rfl) ?_
   refine k_nc ?_
   refine k_f rfl ?_
   refine k_skip ?_
   refine c_norm ?_
   refine k_sg ?_
   refine s_run rfl rfl (r_la H 1 rfl rfl rfl ag31 sz31) ?_
   refine s_run rfl rfl (rmi rfl) ?_
   refine s_run rfl rfl (rmi rfl) ?_
   refine s_call rfl (hFi H.only) (ca54 rfl) ?_
   rintro e W1 ⟨⟨r, rfl, hr⟩, H'⟩
   refine ⟨_, rfl, ?_⟩
   have H := H.same H'; clear H'; obtain ⟨j, v2, hj, rfl, hm2⟩ : ∃ (j : Nat) (v2 : Int), s.L[j]? = some ((m, a), v2) ∧ r = j ∧ some v = some v2 := hr.elim (fun h => by cases h.1) id
   refine s_run rfl rfl (rai rfl) ?_
   refine k_nc ?_
   refine k_seq ?_
   refine k_sg ?_
   refine s_run rfl rfl (rmi rfl) ?_
   refine s_run rfl rfl (r_lssF rfl rfl (by omega)) ?_
   refine k_nc ?_
   refine k_f rfl ?_
   refine k_skip ?_
   refine c_norm ?_
   refine k_seq ?_
   injection hm2 with hm2
   subst hm2
   have hjl : j < n := by have := (List.getElem?_eq_some_iff.1 hj).1; omega
   obtain ⟨b, o, rfl, _, hrd⟩ := hS (by rw [hel]; omega)
   obtain ⟨g1, g2, g3⟩ := enC_get s.L j _ hj
   have c3 := hrd _ _ g3
   have hS1 := hS.head (j * 3)
   have hS2 := hS.sloN (c := c) 3 (j + 1) (by rw [hel]; omega)
   have e1 : ((enC s.L).take (j * 3)).length = j * 3 := by rw [List.length_take, hel]; omega
   have e2 : ((enC s.L).drop ((j + 1) * 3)).length = (n - (j + 1)) * 3 := by rw [List.length_drop, hel]; omega
   have e3 : (enC s.L).take (j * 3) ++ (enC s.L).drop ((j + 1) * 3) = enC (mdel s.L (m, a)) := by
    rw [(m_some s.L j _ hj hok.nd).2.2, List.eraseIdx_eq_take_drop_succ, enC_app, enC_take, enC_drop]
   have e4 : (mdel s.L (m, a)).length = 0 + j + (n - (j + 1)) := by
    rw [(m_some s.L j _ hj hok.nd).2.2, List.length_eraseIdx_of_lt (by omega), hl]; omega
   refine k_rg ?_
   refine s_run rfl rfl (r_fa0 rfl fo31_0) ?_
   refine s_run rfl rfl (r_lo H 1 rfl rfl rfl ag28) ?_
   refine s_run rfl rfl (rmi rfl) ?_
   refine s_run rfl rfl (r_ix (i := j) rfl rfl (by omega) (by omega) Try.underlying28 sz100) ?_
   refine s_run rfl rfl (r_fa rfl fo100_2) ?_
   refine s_run rfl rfl (r_lr H rfl c3 (by simp) ag3) ?_
   refine s_run rfl rfl (rai rfl) ?_
   refine k_nc ?_
   refine k_seq ?_
   refine k_trF mixed ?_; have H' := H.drew; clear H; have H := H'; clear H'
   refine tqh 1 rfl rfl rfl (fun _ hS => r_fa0 rfl fo31_0) trivial ?_
   refine tqh 3 rfl rfl rfl (fun _ hS => r_mv (v := .int _ _) rfl) trivial ?_
   refine tqh 6 rfl rfl rfl (fun _ hS => r_fa0 rfl fo31_0) trivial ?_
   refine tqh 8 rfl rfl rfl (fun _ hS => r_mv (v := .int _ _) rfl) trivial ?_
   refine tqh 9 rfl rfl rfl (fun _ hS => r_add rfl rfl (wI (by omega))) trivial ?_
   refine t_up3 0 2 7 (by kernel_rfl) ?_ ?_ ?_
   ·refine up_mk rfl ?_
    refine s_bs0 3 (by omega) H rfl Try.underlying28 inf100 ?_
    intro _ _ H'; clear H; have H := H'; clear H'
    refine k_nil ?_
    refine t_on trivial ?_
    refine t_up2 2 7 (by kernel_rfl) ?_ ?_
    ·refine up_mk rfl ?_
     refine s_run rfl rfl (r_lo H 2 rfl rfl rfl ag28) ?_
     refine k_nil ?_
     refine t_on trivial ?_
     refine tqh 4 rfl rfl rfl (fun _ hS => r_shiA (j := j) rfl rfl rfl (by omega) Try.underlying28 sz100) trivial ?_
     refine t_up2 5 7 (by kernel_rfl) ?_ ?_
     ·refine up_mk rfl ?_
      refine s_apsN (enc := C1.v) (size := 3) (xs := []) H 0 rfl rfl rfl rfl (hS1) (e1) C1.one (by omega) (by omega) Try.underlying28 inf100 rfl ?_
      intro B1 d1 _ H'; simp only [List.set_cons_zero, List.set_cons_succ, List.take_succ_cons, List.take_zero, List.drop_succ_cons, List.drop_zero, List.cons_append, List.nil_append, List.append_nil, List.length_cons, List.length_nil, Nat.reduceAdd] at H'; clear H; have H := H'; clear H'
      refine k_nil ?_
      refine t_on trivial ?_
      refine t_up1 7 (by kernel_rfl) ?_
      refine up_mk rfl ?_
      refine s_run rfl rfl (r_lo H 2 rfl rfl rfl ag28) ?_
      refine k_nil ?_
      refine t_on trivial ?_
      refine tqh 10 rfl rfl rfl (fun _ hS => r_sloA (i := j + 1) rfl rfl (by omega) (by omega) Try.underlying28 sz100) trivial ?_
      refine t_up1 11 (by kernel_rfl) ?_
      refine up_mk rfl ?_
      refine s_apsN (enc := C1.v) (size := 3)  H 0 rfl rfl rfl rfl (hS2) (e2) C1.one (by omega) (by omega) Try.underlying28 inf100 rfl ?_
      intro B2 d2 _ H'; simp only [List.set_cons_zero, List.set_cons_succ, List.take_succ_cons, List.take_zero, List.drop_succ_cons, List.drop_zero, List.cons_append, List.nil_append, List.append_nil, List.length_cons, List.length_nil, Nat.reduceAdd] at H'; clear H; have H := H'; clear H'
      refine k_nil ?_
      refine t_on trivial ?_
      refine tqh 12 rfl rfl rfl (fun _ hS => r_fa0 rfl fo31_0) trivial ?_
      refine t_up1 13 (by kernel_rfl) ?_
      refine up_mk rfl ?_
      refine s_st (u := .slice _ _ _) H 2 rfl rfl rfl rfl rfl rfl sz28 ?_
      clear H; intro _ H; simp only [jA, jB, jC, jD, jE, jF, jG, jH, jI, jJ, jK, Nat.reduceAdd] at H
      refine k_nil ?_
      refine t_on trivial ?_
      refine t_done (by kernel_rfl) ?_
      refine c_norm ?_
      refine k_sg ?_
      refine s_run rfl rfl (r_la H 2 rfl rfl rfl ag31 sz31) ?_
      refine s_run rfl rfl (rmi rfl) ?_
      refine s_sw H 1 rfl rfl rfl rfl rfl rfl rfl sz31 ?_
      clear H; intro _ H; simp only [jA, jB, jC, jD, jE, jF, jG, jH, jI, jJ, jK, Nat.reduceAdd] at H
      refine s_run rfl rfl (rai rfl) ?_
      refine s_run rfl rfl (rai rfl) ?_
      refine k_nc ?_
      refine k_ret ?_
      refine fx3r rfl (rv_a H 1 rfl rfl rfl ag31 sz31) (rv_t (v := .int _ _) rfl) (rv_t (v := .int _ _) rfl) ?_
      rw [e3] at H; exact ⟨_, _, _, rfl, .inr (Heap.drops (A := [_]) H)⟩
     ·refine up_mk rfl ?_
      refine s_run rfl rfl (r_lo H 2 rfl rfl rfl ag28) ?_
      refine k_nil ?_
      refine t_on trivial ?_
      refine tqh 10 rfl rfl rfl (fun _ hS => r_sloA (i := j + 1) rfl rfl (by omega) (by omega) Try.underlying28 sz100) trivial ?_
      refine t_up1 5 (by kernel_rfl) ?_
      refine up_mk rfl ?_
      refine s_apsN (enc := C1.v) (size := 3) (xs := []) H 0 rfl rfl rfl rfl (hS1) (e1) C1.one (by omega) (by omega) Try.underlying28 inf100 rfl ?_
      intro B1 d1 _ H'; simp only [List.set_cons_zero, List.set_cons_succ, List.take_succ_cons, List.take_zero, List.drop_succ_cons, List.drop_zero, List.cons_append, List.nil_append, List.append_nil, List.length_cons, List.length_nil, Nat.reduceAdd] at H'; clear H; have H := H'; clear H'
      refine k_nil ?_
      refine t_on trivial ?_
      refine t_up1 11 (by kernel_rfl) ?_
      refine up_mk rfl ?_
      refine s_apsN (enc := C1.v) (size := 3)  H 0 rfl rfl rfl rfl (hS2) (e2) C1.one (by omega) (by omega) Try.underlying28 inf100 rfl ?_
      intro B2 d2 _ H'; simp only [List.set_cons_zero, List.set_cons_succ, List.take_succ_cons, List.take_zero, List.drop_succ_cons, List.drop_zero, List.cons_append, List.nil_append, List.append_nil, List.length_cons, List.length_nil, Nat.reduceAdd] at H'; clear H; have H := H'; clear H'
      refine k_nil ?_
      refine t_on trivial ?_
      refine tqh 12 rfl rfl rfl (fun _ hS => r_fa0 rfl fo31_0) trivial ?_
      refine t_up1 13 (by kernel_rfl) ?_
      refine up_mk rfl ?_
      refine s_st (u := .slice _ _ _) H 2 rfl rfl rfl rfl rfl rfl sz28 ?_
      clear H; intro _ H; simp only [jA, jB, jC, jD, jE, jF, jG, jH, jI, jJ, jK, Nat.reduceAdd] at H
      refine k_nil ?_
      refine t_on trivial ?_
      refine t_done (by kernel_rfl) ?_
      refine c_norm ?_
      refine k_sg ?_
      refine s_run rfl rfl (r_la H 2 rfl rfl rfl ag31 sz31) ?_
      refine s_run rfl rfl (rmi rfl) ?_
      refine s_sw H 1 rfl rfl rfl rfl rfl rfl rfl sz31 ?_
      clear H; intro _ H; simp only [jA, jB, jC, jD, jE, jF, jG, jH, jI, jJ, jK, Nat.reduceAdd] at H
      refine s_run rfl rfl (rai rfl) ?_
      refine s_run rfl rfl (rai rfl) ?_
      refine k_nc ?_
      refine k_ret ?_
      refine fx3r rfl (rv_a H 1 rfl rfl rfl ag31 sz31) (rv_t (v := .int _ _) rfl) (rv_t (v := .int _ _) rfl) ?_
      rw [e3] at H; exact ⟨_, _, _, rfl, .inr (Heap.drops (A := [_]) H)⟩
    ·refine up_mk rfl ?_
     refine s_run rfl rfl (r_lo H 2 rfl rfl rfl ag28) ?_
     refine k_nil ?_
     refine t_on trivial ?_
     refine tqh 10 rfl rfl rfl (fun _ hS => r_sloA (i := j + 1) rfl rfl (by omega) (by omega) Try.underlying28 sz100) trivial ?_
     refine t_up1 2 (by kernel_rfl) ?_
     refine up_mk rfl ?_
     refine s_run rfl rfl (r_lo H 2 rfl rfl rfl ag28) ?_
     refine k_nil ?_
     refine t_on trivial ?_
     refine tqh 4 rfl rfl rfl (fun _ hS => r_shiA (j := j) rfl rfl rfl (by omega) Try.underlying28 sz100) trivial ?_
     refine t_up1 5 (by kernel_rfl) ?_
     refine up_mk rfl ?_
     refine s_apsN (enc := C1.v) (size := 3) (xs := []) H 0 rfl rfl rfl rfl (hS1) (e1) C1.one (by omega) (by omega) Try.underlying28 inf100 rfl ?_
     intro B1 d1 _ H'; simp only [List.set_cons_zero, List.set_cons_succ, List.take_succ_cons, List.take_zero, List.drop_succ_cons, List.drop_zero, List.cons_append, List.nil_append, List.append_nil, List.length_cons, List.length_nil, Nat.reduceAdd] at H'; clear H; have H := H'; clear H'
     refine k_nil ?_
     refine t_on trivial ?_
     refine t_up1 11 (by kernel_rfl) ?_
     refine up_mk rfl ?_
     refine s_apsN (enc := C1.v) (size := 3)  H 0 rfl rfl rfl rfl (hS2) (e2) C1.one (by omega) (by omega) Try.underlying28 inf100 rfl ?_
     intro B2 d2 _ H'; simp only [List.set_cons_zero, List.set_cons_succ, List.take_succ_cons, List.take_zero, List.drop_succ_cons, List.drop_zero, List.cons_append, List.nil_append, List.append_nil, List.length_cons, List.length_nil, Nat.reduceAdd] at H'; clear H; have H := H'; clear H'
     refine k_nil ?_
     refine t_on trivial ?_
     refine tqh 12 rfl rfl rfl (fun _ hS => r_fa0 rfl fo31_0) trivial ?_
     refine t_up1 13 (by kernel_rfl) ?_
     refine up_mk rfl ?_
     refine s_st (u := .slice _ _ _) H 2 rfl rfl rfl rfl rfl rfl sz28 ?_
     clear H; intro _ H; simp only [jA, jB, jC, jD, jE, jF, jG, jH, jI, jJ, jK, Nat.reduceAdd] at H
     refine k_nil ?_
     refine t_on trivial ?_
     refine t_done (by kernel_rfl) ?_
     refine c_norm ?_
     refine k_sg ?_
     refine s_run rfl rfl (r_la H 2 rfl rfl rfl ag31 sz31) ?_
     refine s_run rfl rfl (rmi rfl) ?_
     refine s_sw H 1 rfl rfl rfl rfl rfl rfl rfl sz31 ?_
     clear H; intro _ H; simp only [jA, jB, jC, jD, jE, jF, jG, jH, jI, jJ, jK, Nat.reduceAdd] at H
     refine s_run rfl rfl (rai rfl) ?_
     refine s_run rfl rfl (rai rfl) ?_
     refine k_nc ?_
     refine k_ret ?_
     refine fx3r rfl (rv_a H 1 rfl rfl rfl ag31 sz31) (rv_t (v := .int _ _) rfl) (rv_t (v := .int _ _) rfl) ?_
     rw [e3] at H; exact ⟨_, _, _, rfl, .inr (Heap.drops (A := [_]) H)⟩
   ·refine up_mk rfl ?_
    refine s_run rfl rfl (r_lo H 1 rfl rfl rfl ag28) ?_
    refine k_nil ?_
    refine t_on trivial ?_
    refine tqh 4 rfl rfl rfl (fun _ hS => r_shiA (j := j) rfl rfl rfl (by omega) Try.underlying28 sz100) trivial ?_
    refine t_up2 0 7 (by kernel_rfl) ?_ ?_
    ·refine up_mk rfl ?_
     refine s_bs0 3 (by omega) H rfl Try.underlying28 inf100 ?_
     intro _ _ H'; clear H; have H := H'; clear H'
     refine k_nil ?_
     refine t_on trivial ?_
     refine t_up2 5 7 (by kernel_rfl) ?_ ?_
     ·refine up_mk rfl ?_
      refine s_apsN (enc := C1.v) (size := 3) (xs := []) H 0 rfl rfl rfl rfl (hS1) (e1) C1.one (by omega) (by omega) Try.underlying28 inf100 rfl ?_
      intro B1 d1 _ H'; simp only [List.set_cons_zero, List.set_cons_succ, List.take_succ_cons, List.take_zero, List.drop_succ_cons, List.drop_zero, List.cons_append, List.nil_append, List.append_nil, List.length_cons, List.length_nil, Nat.reduceAdd] at H'; clear H; have H := H'; clear H'
      refine k_nil ?_
      refine t_on trivial ?_
      refine t_up1 7 (by kernel_rfl) ?_
      refine up_mk rfl ?_
      refine s_run rfl rfl (r_lo H 2 rfl rfl rfl ag28) ?_
      refine k_nil ?_
      refine t_on trivial ?_
      refine tqh 10 rfl rfl rfl (fun _ hS => r_sloA (i := j + 1) rfl rfl (by omega) (by omega) Try.underlying28 sz100) trivial ?_
      refine t_up1 11 (by kernel_rfl) ?_
      refine up_mk rfl ?_
      refine s_apsN (enc := C1.v) (size := 3)  H 0 rfl rfl rfl rfl (hS2) (e2) C1.one (by omega) (by omega) Try.underlying28 inf100 rfl ?_
      intro B2 d2 _ H'; simp only [List.set_cons_zero, List.set_cons_succ, List.take_succ_cons, List.take_zero, List.drop_succ_cons, List.drop_zero, List.cons_append, List.nil_append, List.append_nil, List.length_cons, List.length_nil, Nat.reduceAdd] at H'; clear H; have H := H'; clear H'
      refine k_nil ?_
      refine t_on trivial ?_
      refine tqh 12 rfl rfl rfl (fun _ hS => r_fa0 rfl fo31_0) trivial ?_
      refine t_up1 13 (by kernel_rfl) ?_
      refine up_mk rfl ?_
      refine s_st (u := .slice _ _ _) H 2 rfl rfl rfl rfl rfl rfl sz28 ?_
      clear H; intro _ H; simp only [jA, jB, jC, jD, jE, jF, jG, jH, jI, jJ, jK, Nat.reduceAdd] at H
      refine k_nil ?_
      refine t_on trivial ?_
      refine t_done (by kernel_rfl) ?_
      refine c_norm ?_
      refine k_sg ?_
      refine s_run rfl rfl (r_la H 2 rfl rfl rfl ag31 sz31) ?_
      refine s_run rfl rfl (rmi rfl) ?_
      refine s_sw H 1 rfl rfl rfl rfl rfl rfl rfl sz31 ?_
      clear H; intro _ H; simp only [jA, jB, jC, jD, jE, jF, jG, jH, jI, jJ, jK, Nat.reduceAdd] at H
      refine s_run rfl rfl (rai rfl) ?_
      refine s_run rfl rfl (rai rfl) ?_
      refine k_nc ?_
      refine k_ret ?_
      refine fx3r rfl (rv_a H 1 rfl rfl rfl ag31 sz31) (rv_t (v := .int _ _) rfl) (rv_t (v := .int _ _) rfl) ?_
      rw [e3] at H; exact ⟨_, _, _, rfl, .inr (Heap.drops (A := [_]) H)⟩
     ·refine up_mk rfl ?_
      refine s_run rfl rfl (r_lo H 2 rfl rfl rfl ag28) ?_
      refine k_nil ?_
      refine t_on trivial ?_
      refine tqh 10 rfl rfl rfl (fun _ hS => r_sloA (i := j + 1) rfl rfl (by omega) (by omega) Try.underlying28 sz100) trivial ?_
      refine t_up1 5 (by kernel_rfl) ?_
      refine up_mk rfl ?_
      refine s_apsN (enc := C1.v) (size := 3) (xs := []) H 0 rfl rfl rfl rfl (hS1) (e1) C1.one (by omega) (by omega) Try.underlying28 inf100 rfl ?_
      intro B1 d1 _ H'; simp only [List.set_cons_zero, List.set_cons_succ, List.take_succ_cons, List.take_zero, List.drop_succ_cons, List.drop_zero, List.cons_append, List.nil_append, List.append_nil, List.length_cons, List.length_nil, Nat.reduceAdd] at H'; clear H; have H := H'; clear H'
      refine k_nil ?_
      refine t_on trivial ?_
      refine t_up1 11 (by kernel_rfl) ?_
      refine up_mk rfl ?_
      refine s_apsN (enc := C1.v) (size := 3)  H 0 rfl rfl rfl rfl (hS2) (e2) C1.one (by omega) (by omega) Try.underlying28 inf100 rfl ?_
      intro B2 d2 _ H'; simp only [List.set_cons_zero, List.set_cons_succ, List.take_succ_cons, List.take_zero, List.drop_succ_cons, List.drop_zero, List.cons_append, List.nil_append, List.append_nil, List.length_cons, List.length_nil, Nat.reduceAdd] at H'; clear H; have H := H'; clear H'
      refine k_nil ?_
      refine t_on trivial ?_
      refine tqh 12 rfl rfl rfl (fun _ hS => r_fa0 rfl fo31_0) trivial ?_
      refine t_up1 13 (by kernel_rfl) ?_
      refine up_mk rfl ?_
      refine s_st (u := .slice _ _ _) H 2 rfl rfl rfl rfl rfl rfl sz28 ?_
      clear H; intro _ H; simp only [jA, jB, jC, jD, jE, jF, jG, jH, jI, jJ, jK, Nat.reduceAdd] at H
      refine k_nil ?_
      refine t_on trivial ?_
      refine t_done (by kernel_rfl) ?_
      refine c_norm ?_
      refine k_sg ?_
      refine s_run rfl rfl (r_la H 2 rfl rfl rfl ag31 sz31) ?_
      refine s_run rfl rfl (rmi rfl) ?_
      refine s_sw H 1 rfl rfl rfl rfl rfl rfl rfl sz31 ?_
      clear H; intro _ H; simp only [jA, jB, jC, jD, jE, jF, jG, jH, jI, jJ, jK, Nat.reduceAdd] at H
      refine s_run rfl rfl (rai rfl) ?_
      refine s_run rfl rfl (rai rfl) ?_
      refine k_nc ?_
      refine k_ret ?_
      refine fx3r rfl (rv_a H 1 rfl rfl rfl ag31 sz31) (rv_t (v := .int _ _) rfl) (rv_t (v := .int _ _) rfl) ?_
      rw [e3] at H; exact ⟨_, _, _, rfl, .inr (Heap.drops (A := [_]) H)⟩
    ·refine up_mk rfl ?_
     refine s_run rfl rfl (r_lo H 1 rfl rfl rfl ag28) ?_
     refine k_nil ?_
     refine t_on trivial ?_
     refine tqh 10 rfl rfl rfl (fun _ hS => r_sloA (i := j + 1) rfl rfl (by omega) (by omega) Try.underlying28 sz100) trivial ?_
     refine t_up1 0 (by kernel_rfl) ?_
     refine up_mk rfl ?_
     refine s_bs0 3 (by omega) H rfl Try.underlying28 inf100 ?_
     intro _ _ H'; clear H; have H := H'; clear H'
     refine k_nil ?_
     refine t_on trivial ?_
     refine t_up1 5 (by kernel_rfl) ?_
     refine up_mk rfl ?_
     refine s_apsN (enc := C1.v) (size := 3) (xs := []) H 0 rfl rfl rfl rfl (hS1) (e1) C1.one (by omega) (by omega) Try.underlying28 inf100 rfl ?_
     intro B1 d1 _ H'; simp only [List.set_cons_zero, List.set_cons_succ, List.take_succ_cons, List.take_zero, List.drop_succ_cons, List.drop_zero, List.cons_append, List.nil_append, List.append_nil, List.length_cons, List.length_nil, Nat.reduceAdd] at H'; clear H; have H := H'; clear H'
     refine k_nil ?_
     refine t_on trivial ?_
     refine t_up1 11 (by kernel_rfl) ?_
     refine up_mk rfl ?_
     refine s_apsN (enc := C1.v) (size := 3)  H 0 rfl rfl rfl rfl (hS2) (e2) C1.one (by omega) (by omega) Try.underlying28 inf100 rfl ?_
     intro B2 d2 _ H'; simp only [List.set_cons_zero, List.set_cons_succ, List.take_succ_cons, List.take_zero, List.drop_succ_cons, List.drop_zero, List.cons_append, List.nil_append, List.append_nil, List.length_cons, List.length_nil, Nat.reduceAdd] at H'; clear H; have H := H'; clear H'
     refine k_nil ?_
     refine t_on trivial ?_
     refine tqh 12 rfl rfl rfl (fun _ hS => r_fa0 rfl fo31_0) trivial ?_
     refine t_up1 13 (by kernel_rfl) ?_
     refine up_mk rfl ?_
     refine s_st (u := .slice _ _ _) H 2 rfl rfl rfl rfl rfl rfl sz28 ?_
     clear H; intro _ H; simp only [jA, jB, jC, jD, jE, jF, jG, jH, jI, jJ, jK, Nat.reduceAdd] at H
     refine k_nil ?_
     refine t_on trivial ?_
     refine t_done (by kernel_rfl) ?_
     refine c_norm ?_
     refine k_sg ?_
     refine s_run rfl rfl (r_la H 2 rfl rfl rfl ag31 sz31) ?_
     refine s_run rfl rfl (rmi rfl) ?_
     refine s_sw H 1 rfl rfl rfl rfl rfl rfl rfl sz31 ?_
     clear H; intro _ H; simp only [jA, jB, jC, jD, jE, jF, jG, jH, jI, jJ, jK, Nat.reduceAdd] at H
     refine s_run rfl rfl (rai rfl) ?_
     refine s_run rfl rfl (rai rfl) ?_
     refine k_nc ?_
     refine k_ret ?_
     refine fx3r rfl (rv_a H 1 rfl rfl rfl ag31 sz31) (rv_t (v := .int _ _) rfl) (rv_t (v := .int _ _) rfl) ?_
     rw [e3] at H; exact ⟨_, _, _, rfl, .inr (Heap.drops (A := [_]) H)⟩
   ·refine up_mk rfl ?_
    refine s_run rfl rfl (r_lo H 1 rfl rfl rfl ag28) ?_
    refine k_nil ?_
    refine t_on trivial ?_
    refine tqh 10 rfl rfl rfl (fun _ hS => r_sloA (i := j + 1) rfl rfl (by omega) (by omega) Try.underlying28 sz100) trivial ?_
    refine t_up2 0 2 (by kernel_rfl) ?_ ?_
    ·refine up_mk rfl ?_
     refine s_bs0 3 (by omega) H rfl Try.underlying28 inf100 ?_
     intro _ _ H'; clear H; have H := H'; clear H'
     refine k_nil ?_
     refine t_on trivial ?_
     refine t_up1 2 (by kernel_rfl) ?_
     refine up_mk rfl ?_
     refine s_run rfl rfl (r_lo H 2 rfl rfl rfl ag28) ?_
     refine k_nil ?_
     refine t_on trivial ?_
     refine tqh 4 rfl rfl rfl (fun _ hS => r_shiA (j := j) rfl rfl rfl (by omega) Try.underlying28 sz100) trivial ?_
     refine t_up1 5 (by kernel_rfl) ?_
     refine up_mk rfl ?_
     refine s_apsN (enc := C1.v) (size := 3) (xs := []) H 0 rfl rfl rfl rfl (hS1) (e1) C1.one (by omega) (by omega) Try.underlying28 inf100 rfl ?_
     intro B1 d1 _ H'; simp only [List.set_cons_zero, List.set_cons_succ, List.take_succ_cons, List.take_zero, List.drop_succ_cons, List.drop_zero, List.cons_append, List.nil_append, List.append_nil, List.length_cons, List.length_nil, Nat.reduceAdd] at H'; clear H; have H := H'; clear H'
     refine k_nil ?_
     refine t_on trivial ?_
     refine t_up1 11 (by kernel_rfl) ?_
     refine up_mk rfl ?_
     refine s_apsN (enc := C1.v) (size := 3)  H 0 rfl rfl rfl rfl (hS2) (e2) C1.one (by omega) (by omega) Try.underlying28 inf100 rfl ?_
     intro B2 d2 _ H'; simp only [List.set_cons_zero, List.set_cons_succ, List.take_succ_cons, List.take_zero, List.drop_succ_cons, List.drop_zero, List.cons_append, List.nil_append, List.append_nil, List.length_cons, List.length_nil, Nat.reduceAdd] at H'; clear H; have H := H'; clear H'
     refine k_nil ?_
     refine t_on trivial ?_
     refine tqh 12 rfl rfl rfl (fun _ hS => r_fa0 rfl fo31_0) trivial ?_
     refine t_up1 13 (by kernel_rfl) ?_
     refine up_mk rfl ?_
     refine s_st (u := .slice _ _ _) H 2 rfl rfl rfl rfl rfl rfl sz28 ?_
     clear H; intro _ H; simp only [jA, jB, jC, jD, jE, jF, jG, jH, jI, jJ, jK, Nat.reduceAdd] at H
     refine k_nil ?_
     refine t_on trivial ?_
     refine t_done (by kernel_rfl) ?_
     refine c_norm ?_
     refine k_sg ?_
     refine s_run rfl rfl (r_la H 2 rfl rfl rfl ag31 sz31) ?_
     refine s_run rfl rfl (rmi rfl) ?_
     refine s_sw H 1 rfl rfl rfl rfl rfl rfl rfl sz31 ?_
     clear H; intro _ H; simp only [jA, jB, jC, jD, jE, jF, jG, jH, jI, jJ, jK, Nat.reduceAdd] at H
     refine s_run rfl rfl (rai rfl) ?_
     refine s_run rfl rfl (rai rfl) ?_
     refine k_nc ?_
     refine k_ret ?_
     refine fx3r rfl (rv_a H 1 rfl rfl rfl ag31 sz31) (rv_t (v := .int _ _) rfl) (rv_t (v := .int _ _) rfl) ?_
     rw [e3] at H; exact ⟨_, _, _, rfl, .inr (Heap.drops (A := [_]) H)⟩
    ·refine up_mk rfl ?_
     refine s_run rfl rfl (r_lo H 1 rfl rfl rfl ag28) ?_
     refine k_nil ?_
     refine t_on trivial ?_
     refine tqh 4 rfl rfl rfl (fun _ hS => r_shiA (j := j) rfl rfl rfl (by omega) Try.underlying28 sz100) trivial ?_
     refine t_up1 0 (by kernel_rfl) ?_
     refine up_mk rfl ?_
     refine s_bs0 3 (by omega) H rfl Try.underlying28 inf100 ?_
     intro _ _ H'; clear H; have H := H'; clear H'
     refine k_nil ?_
     refine t_on trivial ?_
     refine t_up1 5 (by kernel_rfl) ?_
     refine up_mk rfl ?_
     refine s_apsN (enc := C1.v) (size := 3) (xs := []) H 0 rfl rfl rfl rfl (hS1) (e1) C1.one (by omega) (by omega) Try.underlying28 inf100 rfl ?_
     intro B1 d1 _ H'; simp only [List.set_cons_zero, List.set_cons_succ, List.take_succ_cons, List.take_zero, List.drop_succ_cons, List.drop_zero, List.cons_append, List.nil_append, List.append_nil, List.length_cons, List.length_nil, Nat.reduceAdd] at H'; clear H; have H := H'; clear H'
     refine k_nil ?_
     refine t_on trivial ?_
     refine t_up1 11 (by kernel_rfl) ?_
     refine up_mk rfl ?_
     refine s_apsN (enc := C1.v) (size := 3)  H 0 rfl rfl rfl rfl (hS2) (e2) C1.one (by omega) (by omega) Try.underlying28 inf100 rfl ?_
     intro B2 d2 _ H'; simp only [List.set_cons_zero, List.set_cons_succ, List.take_succ_cons, List.take_zero, List.drop_succ_cons, List.drop_zero, List.cons_append, List.nil_append, List.append_nil, List.length_cons, List.length_nil, Nat.reduceAdd] at H'; clear H; have H := H'; clear H'
     refine k_nil ?_
     refine t_on trivial ?_
     refine tqh 12 rfl rfl rfl (fun _ hS => r_fa0 rfl fo31_0) trivial ?_
     refine t_up1 13 (by kernel_rfl) ?_
     refine up_mk rfl ?_
     refine s_st (u := .slice _ _ _) H 2 rfl rfl rfl rfl rfl rfl sz28 ?_
     clear H; intro _ H; simp only [jA, jB, jC, jD, jE, jF, jG, jH, jI, jJ, jK, Nat.reduceAdd] at H
     refine k_nil ?_
     refine t_on trivial ?_
     refine t_done (by kernel_rfl) ?_
     refine c_norm ?_
     refine k_sg ?_
     refine s_run rfl rfl (r_la H 2 rfl rfl rfl ag31 sz31) ?_
     refine s_run rfl rfl (rmi rfl) ?_
     refine s_sw H 1 rfl rfl rfl rfl rfl rfl rfl sz31 ?_
     clear H; intro _ H; simp only [jA, jB, jC, jD, jE, jF, jG, jH, jI, jJ, jK, Nat.reduceAdd] at H
     refine s_run rfl rfl (rai rfl) ?_
     refine s_run rfl rfl (rai rfl) ?_
     refine k_nc ?_
     refine k_ret ?_
     refine fx3r rfl (rv_a H 1 rfl rfl rfl ag31 sz31) (rv_t (v := .int _ _) rfl) (rv_t (v := .int _ _) rfl) ?_
     rw [e3] at H; exact ⟨_, _, _, rfl, .inr (Heap.drops (A := [_]) H)⟩
theorem give_same {s : LdS} {m a : Int} (hc : (s.give m a).2.2 ≠ 0) : (s.give m a).1 = s := by
 unfold LdS.give at hc ⊢
 split
 ·rfl
 ·rename_i h1
  rw [if_neg h1] at hc
  split
  ·rfl
  ·rename_i v hv
   rw [hv] at hc
   simp at hc
theorem rGive {F : List Nat} {A : Option Addr} {n c : Nat} {s : LdS} {w : World} {N : Nat} (hD : DocOk F w A n c s) (hF : ∀ i ∈ F, i < w.heap.size) (hok : LdOk N s) (hN : N ≤ 1000) (m a : Int) :
  Calls Try.prog 35 [docV A n c s, .int .i64 m, .int .i64 a].toArray w fun e w' => ∃ A' n' c', e = .returned (.tuple [docV A' n' c' (s.give m a).1, .int .i64 (s.give m a).2.1, .int .i64 (s.give m a).2.2].toArray) ∧ DocOk F w' A' n' c' (s.give m a).1 ∧ Only [] w w' :=
 (rGiveR hD hok hN m a).mono fun e w' ⟨A', n', c', he, h⟩ => ⟨A', n', c', he, by
  rcases h with ⟨rfl, rfl, rfl, hc, hO⟩ | H
  ·rw [give_same hc]; exact ⟨hD.later hO (by simp), hO⟩
  ·exact ⟨row_doc H 0 rfl hF, H.only⟩⟩
theorem mget_app {α β : Type} [DecidableEq α] : ∀ (L M : List (α × β)) (a : α) (v : β), mget L a = some v → mget (L ++ M) a = some v
 | [], M, a, v, h => by simp [mget] at h
 | x :: L, M, a, v, h => by
  rw [mget] at h
  rw [List.cons_append, mget]
  split
  ·rename_i e; rw [if_pos e] at h; exact h
  ·rename_i e; rw [if_neg e] at h; exact mget_app L M a v h
theorem pass_give {s : LdS} {f t a v : Int} (hf : 0 ≤ f ∧ f < 4) (hg : mget s.L (f, a) = some v) (hc : (s.take t a v).2 = 0) : ((s.take t a v).1.give f a).2.2 = 0 := by
 unfold LdS.give
 rw [if_neg (by omega)]
 have h : mget (s.take t a v).1.L (f, a) = some v := by
  unfold LdS.take at hc ⊢
  split
  ·exact hg
  ·split
   ·exact hg
   ·split
    ·exact hg
    ·exact mget_app _ _ _ _ hg
 rw [h]
theorem rPass {F : List Nat} {A : Option Addr} {n c : Nat} {s : LdS} {w : World} {N : Nat} (hD : DocOk F w A n c s) (hF : ∀ i ∈ F, i < w.heap.size) (hok : LdOk N s) (hN : N ≤ 900) (f t a : Int) (ha : wfI a) :
  Calls Try.prog 36 [docV A n c s, .int .i64 f, .int .i64 t, .int .i64 a].toArray w fun e w' => ∃ A' n' c', e = .returned (.tuple [docV A' n' c' (s.pass f t a).1, .int .i64 (s.pass f t a).2].toArray) ∧ DocOk F w' A' n' c' (s.pass f t a).1 ∧ Only [] w w' := by
 have H := Heap.nil w
 have hS := hD.sees.mono (G := []) (by simp)
 have hl := hD.len
 have hNn := hok.len
 have hFi := fun {W : World} (h : Only [] w W) => rFind (c := c) (q := s.q) (pk := s.pk) (tk := s.tk) (hS.later h (by simp)) hl (by omega) hok.nd f a
 have hel := enC_len s.L
 unfold LdS.pass
 by_cases hbad : f < 0 ∨ 4 ≤ f ∨ t < 0 ∨ 4 ≤ t
 ·rw [if_pos hbad]
  unfold docV
  by_cases b1 : f < 0
  ·refine k_in (N := 66) Try.func36 rfl rfl rfl ?_
   refine k_sg ?_
   refine s_box H rfl rfl ?_
   intro p4 _ H'; clear H; have H := H'; clear H'
   refine s_al H rfl inf31 ?_
   intro p8 _ H'; clear H; have H := H'; clear H'
   refine s_run rfl rfl (rai rfl) ?_
   refine k_nc ?_
   refine k_seq ?_
   refine k_sg ?_
   refine s_run rfl rfl (rmi rfl) ?_
   refine s_run rfl rfl (r_lssT rfl rfl (by omega)) ?_
   refine s_run rfl rfl (rmb rfl) ?_
   refine s_off rfl (g_off 15 (by kernel_rfl) rfl rfl) ?_
   refine s_off rfl (g_off 15 (by kernel_rfl) rfl rfl) ?_
   refine s_run rfl rfl (r_pkT (v := .bool _) rfl rfl) ?_
   refine s_run rfl rfl (rmb rfl) ?_
   refine s_off rfl (g_off 19 (by kernel_rfl) rfl rfl) ?_
   refine s_off rfl (g_off 19 (by kernel_rfl) rfl rfl) ?_
   refine s_run rfl rfl (r_pkT (v := .bool _) rfl rfl) ?_
   refine s_run rfl rfl (rmb rfl) ?_
   refine s_off rfl (g_off 23 (by kernel_rfl) rfl rfl) ?_
   refine s_off rfl (g_off 23 (by kernel_rfl) rfl rfl) ?_
   refine s_run rfl rfl (r_pkT (v := .bool _) rfl rfl) ?_
   refine k_nc ?_
   refine k_t rfl ?_
   refine k_sg ?_
   refine s_run rfl rfl (r_la H 1 rfl rfl rfl ag31 sz31) ?_
   refine s_sw H 0 rfl rfl rfl rfl rfl rfl rfl sz31 ?_
   clear H; intro _ H; simp only [jA, jB, jC, jD, jE, jF, jG, jH, jI, jJ, jK, Nat.reduceAdd] at H
   refine s_run rfl rfl (rai rfl) ?_
   refine k_nc ?_
   refine k_ret ?_
   refine c_ret ?_
   refine fx2r rfl (rv_a H 0 rfl rfl rfl ag31 sz31) (rv_t (v := .int _ _) rfl) ?_
   exact ⟨A, n, c, rfl, hD.later H.only (by simp), H.only⟩
  by_cases b2 : 4 ≤ f
  ·refine k_in (N := 66) Try.func36 rfl rfl rfl ?_
   refine k_sg ?_
   refine s_box H rfl rfl ?_
   intro p4 _ H'; clear H; have H := H'; clear H'
   refine s_al H rfl inf31 ?_
   intro p8 _ H'; clear H; have H := H'; clear H'
   refine s_run rfl rfl (rai rfl) ?_
   refine k_nc ?_
   refine k_seq ?_
   refine k_sg ?_
   refine s_run rfl rfl (rmi rfl) ?_
   refine s_run rfl rfl (r_lssF rfl rfl (by omega)) ?_
   refine s_run rfl rfl (rmb rfl) ?_
   refine s_run rfl (g_on 15 (by kernel_rfl) rfl) (rmi rfl) ?_
   refine s_run rfl (g_on 15 (by kernel_rfl) rfl) (r_gtrT rfl rfl (by omega)) ?_
   refine s_run rfl rfl (r_pkF (v := .bool _) rfl rfl) ?_
   refine s_run rfl rfl (rmb rfl) ?_
   refine s_off rfl (g_off 19 (by kernel_rfl) rfl rfl) ?_
   refine s_off rfl (g_off 19 (by kernel_rfl) rfl rfl) ?_
   refine s_run rfl rfl (r_pkT (v := .bool _) rfl rfl) ?_
   refine s_run rfl rfl (rmb rfl) ?_
   refine s_off rfl (g_off 23 (by kernel_rfl) rfl rfl) ?_
   refine s_off rfl (g_off 23 (by kernel_rfl) rfl rfl) ?_
   refine s_run rfl rfl (r_pkT (v := .bool _) rfl rfl) ?_
   refine k_nc ?_
   refine k_t rfl ?_
   refine k_sg ?_
   refine s_run rfl rfl (r_la H 1 rfl rfl rfl ag31 sz31) ?_
   refine s_sw H 0 rfl rfl rfl rfl rfl rfl rfl sz31 ?_
   clear H; intro _ H; simp only [jA, jB, jC, jD, jE, jF, jG, jH, jI, jJ, jK, Nat.reduceAdd] at H
   refine s_run rfl rfl (rai rfl) ?_
   refine k_nc ?_
   refine k_ret ?_
   refine c_ret ?_
   refine fx2r rfl (rv_a H 0 rfl rfl rfl ag31 sz31) (rv_t (v := .int _ _) rfl) ?_
   exact ⟨A, n, c, rfl, hD.later H.only (by simp), H.only⟩
  by_cases b3 : t < 0
  ·refine k_in (N := 66) Try.func36 rfl rfl rfl ?_
   refine k_sg ?_
   refine s_box H rfl rfl ?_
   intro p4 _ H'; clear H; have H := H'; clear H'
   refine s_al H rfl inf31 ?_
   intro p8 _ H'; clear H; have H := H'; clear H'
   refine s_run rfl rfl (rai rfl) ?_
   refine k_nc ?_
   refine k_seq ?_
   refine k_sg ?_
   refine s_run rfl rfl (rmi rfl) ?_
   refine s_run rfl rfl (r_lssF rfl rfl (by omega)) ?_
   refine s_run rfl rfl (rmb rfl) ?_
   refine s_run rfl (g_on 15 (by kernel_rfl) rfl) (rmi rfl) ?_
   refine s_run rfl (g_on 15 (by kernel_rfl) rfl) (r_gtrF rfl rfl (by omega)) ?_
   refine s_run rfl rfl (r_pkF (v := .bool _) rfl rfl) ?_
   refine s_run rfl rfl (rmb rfl) ?_
   refine s_run rfl (g_on 19 (by kernel_rfl) rfl) (rmi rfl) ?_
   refine s_run rfl (g_on 19 (by kernel_rfl) rfl) (r_lssT rfl rfl (by omega)) ?_
   refine s_run rfl rfl (r_pkF (v := .bool _) rfl rfl) ?_
   refine s_run rfl rfl (rmb rfl) ?_
   refine s_off rfl (g_off 23 (by kernel_rfl) rfl rfl) ?_
   refine s_off rfl (g_off 23 (by kernel_rfl) rfl rfl) ?_
   refine s_run rfl rfl (r_pkT (v := .bool _) rfl rfl) ?_
   refine k_nc ?_
   refine k_t rfl ?_
   refine k_sg ?_
   refine s_run rfl rfl (r_la H 1 rfl rfl rfl ag31 sz31) ?_
   refine s_sw H 0 rfl rfl rfl rfl rfl rfl rfl sz31 ?_
   clear H; intro _ H; simp only [jA, jB, jC, jD, jE, jF, jG, jH, jI, jJ, jK, Nat.reduceAdd] at H
   refine s_run rfl rfl (rai rfl) ?_
   refine k_nc ?_
   refine k_ret ?_
   refine c_ret ?_
   refine fx2r rfl (rv_a H 0 rfl rfl rfl ag31 sz31) (rv_t (v := .int _ _) rfl) ?_
   exact ⟨A, n, c, rfl, hD.later H.only (by simp), H.only⟩
  ·refine k_in (N := 66) Try.func36 rfl rfl rfl ?_
   refine k_sg ?_
   refine s_box H rfl rfl ?_
   intro p4 _ H'; clear H; have H := H'; clear H'
   refine s_al H rfl inf31 ?_
   intro p8 _ H'; clear H; have H := H'; clear H'
   refine s_run rfl rfl (rai rfl) ?_
   refine k_nc ?_
   refine k_seq ?_
   refine k_sg ?_
   refine s_run rfl rfl (rmi rfl) ?_
   refine s_run rfl rfl (r_lssF rfl rfl (by omega)) ?_
   refine s_run rfl rfl (rmb rfl) ?_
   refine s_run rfl (g_on 15 (by kernel_rfl) rfl) (rmi rfl) ?_
   refine s_run rfl (g_on 15 (by kernel_rfl) rfl) (r_gtrF rfl rfl (by omega)) ?_
   refine s_run rfl rfl (r_pkF (v := .bool _) rfl rfl) ?_
   refine s_run rfl rfl (rmb rfl) ?_
   refine s_run rfl (g_on 19 (by kernel_rfl) rfl) (rmi rfl) ?_
   refine s_run rfl (g_on 19 (by kernel_rfl) rfl) (r_lssF rfl rfl (by omega)) ?_
   refine s_run rfl rfl (r_pkF (v := .bool _) rfl rfl) ?_
   refine s_run rfl rfl (rmb rfl) ?_
   refine s_run rfl (g_on 23 (by kernel_rfl) rfl) (rmi rfl) ?_
   refine s_run rfl (g_on 23 (by kernel_rfl) rfl) (r_gtrT rfl rfl (by omega)) ?_
   refine s_run rfl rfl (r_pkF (v := .bool _) rfl rfl) ?_
   refine k_nc ?_
   refine k_t rfl ?_
   refine k_sg ?_
   refine s_run rfl rfl (r_la H 1 rfl rfl rfl ag31 sz31) ?_
   refine s_sw H 0 rfl rfl rfl rfl rfl rfl rfl sz31 ?_
   clear H; intro _ H; simp only [jA, jB, jC, jD, jE, jF, jG, jH, jI, jJ, jK, Nat.reduceAdd] at H
   refine s_run rfl rfl (rai rfl) ?_
   refine k_nc ?_
   refine k_ret ?_
   refine c_ret ?_
   refine fx2r rfl (rv_a H 0 rfl rfl rfl ag31 sz31) (rv_t (v := .int _ _) rfl) ?_
   exact ⟨A, n, c, rfl, hD.later H.only (by simp), H.only⟩
 ·rw [if_neg hbad]
  cases hg : mget s.L (f, a) with
  | none =>
   rw [hg] at hFi
   unfold docV
   refine k_in (N := 66) Try.func36 rfl rfl rfl ?_
   refine k_sg ?_
   refine s_box H rfl rfl ?_
   intro p4 _ H'; clear H; have H := H'; clear H'
   refine s_al H rfl inf31 ?_
   intro p8 _ H'; clear H; have H := H'; clear H'
   refine s_run rfl rfl (rai rfl) ?_
   refine k_nc ?_
   refine k_seq ?_
   refine k_sg ?_
   refine s_run rfl rfl (rmi rfl) ?_
   refine s_run rfl rfl (r_lssF rfl rfl (by omega)) ?_
   refine s_run rfl rfl (rmb rfl) ?_
   refine s_run rfl (g_on 15 (by kernel_rfl) rfl) (rmi rfl) ?_
   refine s_run rfl (g_on 15 (by kernel_rfl) rfl) (r_gtrF rfl rfl (by omega)) ?_
   refine s_run rfl rfl (r_pkF (v := .bool _) rfl rfl) ?_
   refine s_run rfl rfl (rmb rfl) ?_
   refine s_run rfl (g_on 19 (by kernel_rfl) rfl) (rmi rfl) ?_
   refine s_run rfl (g_on 19 (by kernel_rfl) rfl) (r_lssF rfl rfl (by omega)) ?_
   refine s_run rfl rfl (r_pkF (v := .bool _) rfl rfl) ?_
   refine s_run rfl rfl (rmb rfl) ?_
   refine s_run rfl (g_on 23 (by kernel_rfl) rfl) (rmi rfl) ?_
   refine s_run rfl (g_on 23 (by kernel_rfl) rfl) (r_gtrF rfl rfl (by omega)) ?_
   refine s_run rfl rfl (r_pkF (v := .bool _) rfl rfl) ?_
   refine k_nc ?_
   refine k_f rfl ?_
   refine k_skip ?_
   refine c_norm ?_
   refine k_sg ?_
   refine s_run rfl rfl (r_la H 1 rfl rfl rfl ag31 sz31) ?_
   refine s_run rfl rfl (rmi rfl) ?_
   refine s_run rfl rfl (rmi rfl) ?_
   refine s_call rfl (hFi H.only) (ca54 rfl) ?_
   rintro e W1 ⟨⟨r, rfl, hr⟩, H'⟩
   refine ⟨_, rfl, ?_⟩
   have H := H.same H'; clear H'; obtain rfl : r = -1 := hr.elim (fun h => h.2) (fun ⟨_, _, _, _, h⟩ => by cases h)
   refine s_run rfl rfl (rai rfl) ?_
   refine k_nc ?_
   refine k_seq ?_
   refine k_sg ?_
   refine s_run rfl rfl (rmi rfl) ?_
   refine s_run rfl rfl (r_lssT rfl rfl (by omega)) ?_
   refine k_nc ?_
   refine k_t rfl ?_
   refine k_sg ?_
   refine s_run rfl rfl (r_la H 1 rfl rfl rfl ag31 sz31) ?_
   refine s_sw H 0 rfl rfl rfl rfl rfl rfl rfl sz31 ?_
   clear H; intro _ H; simp only [jA, jB, jC, jD, jE, jF, jG, jH, jI, jJ, jK, Nat.reduceAdd] at H
   refine s_run rfl rfl (rai rfl) ?_
   refine k_nc ?_
   refine k_ret ?_
   refine c_ret ?_
   refine fx2r rfl (rv_a H 0 rfl rfl rfl ag31 sz31) (rv_t (v := .int _ _) rfl) ?_
   exact ⟨A, n, c, rfl, hD.later H.only (by simp), H.only⟩
  | some v =>
   simp only
   rw [hg] at hFi
   by_cases hft : f = t
   ·rw [if_pos hft]
    unfold docV
    refine k_in (N := 66) Try.func36 rfl rfl rfl ?_
    refine k_sg ?_
    refine s_box H rfl rfl ?_
    intro p4 _ H'; clear H; have H := H'; clear H'
    refine s_al H rfl inf31 ?_
    intro p8 _ H'; clear H; have H := H'; clear H'
    refine s_run rfl rfl (rai rfl) ?_
    refine k_nc ?_
    refine k_seq ?_
    refine k_sg ?_
    refine s_run rfl rfl (rmi rfl) ?_
    refine s_run rfl rfl (r_lssF rfl rfl (by omega)) ?_
    refine s_run rfl rfl (rmb rfl) ?_
    refine s_run rfl (g_on 15 (by kernel_rfl) rfl) (rmi rfl) ?_
    refine s_run rfl (g_on 15 (by kernel_rfl) rfl) (r_gtrF rfl rfl (by omega)) ?_
    refine s_run rfl rfl (r_pkF (v := .bool _) rfl rfl) ?_
    refine s_run rfl rfl (rmb rfl) ?_
    refine s_run rfl (g_on 19 (by kernel_rfl) rfl) (rmi rfl) ?_
    refine s_run rfl (g_on 19 (by kernel_rfl) rfl) (r_lssF rfl rfl (by omega)) ?_
    refine s_run rfl rfl (r_pkF (v := .bool _) rfl rfl) ?_
    refine s_run rfl rfl (rmb rfl) ?_
    refine s_run rfl (g_on 23 (by kernel_rfl) rfl) (rmi rfl) ?_
    refine s_run rfl (g_on 23 (by kernel_rfl) rfl) (r_gtrF rfl rfl (by omega)) ?_
    refine s_run rfl rfl (r_pkF (v := .bool _) rfl rfl) ?_
    refine k_nc ?_
    refine k_f rfl ?_
    refine k_skip ?_
    refine c_norm ?_
    refine k_sg ?_
    refine s_run rfl rfl (r_la H 1 rfl rfl rfl ag31 sz31) ?_
    refine s_run rfl rfl (rmi rfl) ?_
    refine s_run rfl rfl (rmi rfl) ?_
    refine s_call rfl (hFi H.only) (ca54 rfl) ?_
    rintro e W1 ⟨⟨r, rfl, hr⟩, H'⟩
    refine ⟨_, rfl, ?_⟩
    have H := H.same H'; clear H'; obtain ⟨j, v2, hj, rfl, hm2⟩ : ∃ (j : Nat) (v2 : Int), s.L[j]? = some ((f, a), v2) ∧ r = j ∧ some v = some v2 := hr.elim (fun h => by cases h.1) id
    refine s_run rfl rfl (rai rfl) ?_
    refine k_nc ?_
    refine k_seq ?_
    refine k_sg ?_
    refine s_run rfl rfl (rmi rfl) ?_
    refine s_run rfl rfl (r_lssF rfl rfl (by omega)) ?_
    refine k_nc ?_
    refine k_f rfl ?_
    refine k_skip ?_
    refine c_norm ?_
    refine k_seq ?_
    refine k_sg ?_
    refine s_run rfl rfl (rmi rfl) ?_
    refine s_run rfl rfl (rmi rfl) ?_
    refine s_run rfl rfl (r_eqlT rfl rfl (by omega)) ?_
    refine k_nc ?_
    refine k_t rfl ?_
    refine k_sg ?_
    refine s_run rfl rfl (r_la H 1 rfl rfl rfl ag31 sz31) ?_
    refine s_sw H 0 rfl rfl rfl rfl rfl rfl rfl sz31 ?_
    clear H; intro _ H; simp only [jA, jB, jC, jD, jE, jF, jG, jH, jI, jJ, jK, Nat.reduceAdd] at H
    refine s_run rfl rfl (rai rfl) ?_
    refine k_nc ?_
    refine k_ret ?_
    refine c_ret ?_
    refine fx2r rfl (rv_a H 0 rfl rfl rfl ag31 sz31) (rv_t (v := .int _ _) rfl) ?_
    exact ⟨A, n, c, rfl, hD.later H.only (by simp), H.only⟩
   ·rw [if_neg hft]
    have hok2 := hok.take t a v ha
    have hT := fun {W : World} (h : Only [] w W) => rTakeR (hD.later h (by simp)) hok (by omega) t a v
    have hG := fun {B m d} {W : World} h => rGiveR (F := []) (A := B) (n := m) (c := d) (s := (s.take t a v).1) (w := W) h hok2 (by omega) f a
    unfold docV at hT hG ⊢
    refine k_in (N := 66) Try.func36 rfl rfl rfl ?_
    refine k_sg ?_
    refine s_box H rfl rfl ?_
    intro p4 _ H'; clear H; have H := H'; clear H'
    refine s_al H rfl inf31 ?_
    intro p8 _ H'; clear H; have H := H'; clear H'
    refine s_run rfl rfl (rai rfl) ?_
    refine k_nc ?_
    refine k_seq ?_
    refine k_sg ?_
    refine s_run rfl rfl (rmi rfl) ?_
    refine s_run rfl rfl (r_lssF rfl rfl (by omega)) ?_
    refine s_run rfl rfl (rmb rfl) ?_
    refine s_run rfl (g_on 15 (by kernel_rfl) rfl) (rmi rfl) ?_
    refine s_run rfl (g_on 15 (by kernel_rfl) rfl) (r_gtrF rfl rfl (by omega)) ?_
    refine s_run rfl rfl (r_pkF (v := .bool _) rfl rfl) ?_
    refine s_run rfl rfl (rmb rfl) ?_
    refine s_run rfl (g_on 19 (by kernel_rfl) rfl) (rmi rfl) ?_
    refine s_run rfl (g_on 19 (by kernel_rfl) rfl) (r_lssF rfl rfl (by omega)) ?_
    refine s_run rfl rfl (r_pkF (v := .bool _) rfl rfl) ?_
    refine s_run rfl rfl (rmb rfl) ?_
    refine s_run rfl (g_on 23 (by kernel_rfl) rfl) (rmi rfl) ?_
    refine s_run rfl (g_on 23 (by kernel_rfl) rfl) (r_gtrF rfl rfl (by omega)) ?_
    refine s_run rfl rfl (r_pkF (v := .bool _) rfl rfl) ?_
    refine k_nc ?_
    refine k_f rfl ?_
    refine k_skip ?_
    refine c_norm ?_
    refine k_sg ?_
    refine s_run rfl rfl (r_la H 1 rfl rfl rfl ag31 sz31) ?_
    refine s_run rfl rfl (rmi rfl) ?_
    refine s_run rfl rfl (rmi rfl) ?_
    refine s_call rfl (hFi H.only) (ca54 rfl) ?_
    rintro e W1 ⟨⟨r, rfl, hr⟩, H'⟩
    refine ⟨_, rfl, ?_⟩
    have H := H.same H'; clear H'; obtain ⟨j, v2, hj, rfl, hm2⟩ : ∃ (j : Nat) (v2 : Int), s.L[j]? = some ((f, a), v2) ∧ r = j ∧ some v = some v2 := hr.elim (fun h => by cases h.1) id
    refine s_run rfl rfl (rai rfl) ?_
    refine k_nc ?_
    refine k_seq ?_
    refine k_sg ?_
    refine s_run rfl rfl (rmi rfl) ?_
    refine s_run rfl rfl (r_lssF rfl rfl (by omega)) ?_
    refine k_nc ?_
    refine k_f rfl ?_
    refine k_skip ?_
    refine c_norm ?_
    refine k_seq ?_
    refine k_sg ?_
    refine s_run rfl rfl (rmi rfl) ?_
    refine s_run rfl rfl (rmi rfl) ?_
    refine s_run rfl rfl (r_eqlF rfl rfl (by omega)) ?_
    refine k_nc ?_
    refine k_f rfl ?_
    refine k_skip ?_
    refine c_norm ?_
    refine k_seq ?_
    injection hm2 with hm2
    subst hm2
    have hjl : j < n := by have := (List.getElem?_eq_some_iff.1 hj).1; omega
    obtain ⟨b, o, rfl, _, hrd⟩ := hS (by rw [hel]; omega)
    obtain ⟨g1, g2, g3⟩ := enC_get s.L j _ hj
    have c3 := hrd _ _ g3
    by_cases hc : (s.take t a v).2 = 0
    ·rw [if_neg (by omega)]
     have hgv := pass_give (f := f) (by omega) hg hc
     have HR := H; clear H; have H := HR.tree; refine k_tr mixed ?_
     refine tqh 0 rfl rfl rfl (fun _ hS => r_la (HR.same hS) 1 rfl rfl rfl ag31 sz31) H.only ?_
     refine tqh 1 rfl rfl rfl (fun _ hS => r_mv (v := .int _ _) rfl) H.only ?_
     refine tqh 2 rfl rfl rfl (fun _ hS => r_mv (v := .int _ _) rfl) H.only ?_
     refine tqh 3 rfl rfl rfl (fun _ hS => r_fa0 rfl fo31_0) H.only ?_
     refine tqh 4 rfl rfl rfl (fun _ hS => r_lo (HR.same hS) 1 rfl rfl rfl ag28) H.only ?_
     refine tqh 5 rfl rfl rfl (fun _ hS => r_mv (v := .int _ _) rfl) H.only ?_
     refine tqh 6 rfl rfl rfl (fun _ hS => r_ix (i := j) rfl rfl (by omega) (by omega) Try.underlying28 sz100) H.only ?_
     refine tqh 7 rfl rfl rfl (fun _ hS => r_fa rfl fo100_2) H.only ?_
     refine tqh 8 rfl rfl rfl (fun _ hS => r_lr (HR.same hS) rfl c3 (by simp) ag3) H.only ?_
     refine t_up2 9 13 (by kernel_rfl) ?_ ?_
     ·refine up_mk rfl ?_
      refine s_call rfl (hT (HR.only.trans H.only)) (ca34 rfl) ?_
      rintro e W1 ⟨B1, m1, d1, rfl, H'⟩
      refine ⟨_, rfl, ?_⟩
      have H := H.more (H'.resolve_left (fun h => h.2.2.2.1 hc)); clear H'; simp only [List.cons_append, List.nil_append] at H
      refine k_nil ?_
      refine t_on H.only ?_
      refine tqh 10 rfl rfl rfl (fun _ hS => r_mv (v := .tuple _) rfl) H.only ?_
      refine tqh 11 rfl rfl rfl (fun _ hS => r_ext (v := .agg _) rfl rfl) H.only ?_
      refine tqh 12 rfl rfl rfl (fun _ hS => r_ext (v := .int _ _) rfl rfl) H.only ?_
      refine t_up1 13 (by kernel_rfl) ?_
      refine up_mk rfl ?_
      refine s_al H rfl inf31 ?_
      intro p11 _ H'; clear H; have H := H'; clear H'
      refine k_nil ?_
      refine t_on H.only ?_
      refine t_up1 14 (by kernel_rfl) ?_
      refine up_mk rfl ?_
      refine s_sw H 0 rfl rfl rfl rfl rfl rfl rfl sz31 ?_
      clear H; intro _ H; simp only [jA, jB, jC, jD, jE, jF, jG, jH, jI, jJ, jK, Nat.reduceAdd] at H
      refine k_nil ?_
      refine t_on H.only ?_
      refine tqh 15 rfl rfl rfl (fun _ hS => r_as (v := .int _ _) rfl) H.only ?_
      refine t_done (by kernel_rfl) ?_
      have H := HR.more H; clear HR; simp only [List.cons_append, List.nil_append] at H
      refine c_norm ?_
      refine k_seq ?_
      refine k_sg ?_
      refine s_run rfl rfl (rmi rfl) ?_
      refine s_run rfl rfl (r_neqF rfl rfl (by omega)) ?_
      refine k_nc ?_
      refine k_f rfl ?_
      refine k_skip ?_
      refine c_norm ?_
      refine k_sg ?_
      refine s_run rfl rfl (r_la H 0 rfl rfl rfl ag31 sz31) ?_
      refine s_run rfl rfl (rmi rfl) ?_
      refine s_run rfl rfl (rmi rfl) ?_
      refine s_call rfl (hG (row_doc (F := []) H 1 rfl (by simp))) (ca35 rfl) ?_
      rintro e W1 ⟨B2, m2, d2, rfl, H'⟩
      refine ⟨_, rfl, ?_⟩
      have H := H.more (H'.resolve_left (fun h => h.2.2.2.1 hgv)); clear H'; simp only [List.cons_append, List.nil_append] at H
      refine s_run rfl rfl (rmt rfl) ?_
      refine s_run rfl rfl (r_ext (v := .agg _) rfl rfl) ?_
      refine s_run rfl rfl (r_ext (v := .int _ _) rfl rfl) ?_
      refine s_run rfl rfl (r_ext (v := .int _ _) rfl rfl) ?_
      refine s_sw H 1 rfl rfl rfl rfl rfl rfl rfl sz31 ?_
      clear H; intro _ H; simp only [jA, jB, jC, jD, jE, jF, jG, jH, jI, jJ, jK, Nat.reduceAdd] at H
      refine s_run rfl rfl (rai rfl) ?_
      refine k_nc ?_
      refine k_sg ?_
      refine s_run rfl rfl (r_la H 1 rfl rfl rfl ag31 sz31) ?_
      refine s_run rfl rfl (rmi rfl) ?_
      refine s_sw H 3 rfl rfl rfl rfl rfl rfl rfl sz31 ?_
      clear H; intro _ H; simp only [jA, jB, jC, jD, jE, jF, jG, jH, jI, jJ, jK, Nat.reduceAdd] at H
      refine s_run rfl rfl (rai rfl) ?_
      refine k_nc ?_
      refine k_ret ?_
      refine fx2r rfl (rv_a H 3 rfl rfl rfl ag31 sz31) (rv_t (v := .int _ _) rfl) ?_
      exact ⟨_, _, _, rfl, row_doc H 0 rfl hF, H.only⟩
     ·refine up_mk rfl ?_
      refine s_al H rfl inf31 ?_
      intro p11 _ H'; clear H; have H := H'; clear H'
      refine k_nil ?_
      refine t_on H.only ?_
      refine t_up1 9 (by kernel_rfl) ?_
      refine up_mk rfl ?_
      refine s_call rfl (hT (HR.only.trans H.only)) (ca34 rfl) ?_
      rintro e W1 ⟨B1, m1, d1, rfl, H'⟩
      refine ⟨_, rfl, ?_⟩
      have H := H.more (H'.resolve_left (fun h => h.2.2.2.1 hc)); clear H'; simp only [List.cons_append, List.nil_append] at H
      refine k_nil ?_
      refine t_on H.only ?_
      refine tqh 10 rfl rfl rfl (fun _ hS => r_mv (v := .tuple _) rfl) H.only ?_
      refine tqh 11 rfl rfl rfl (fun _ hS => r_ext (v := .agg _) rfl rfl) H.only ?_
      refine tqh 12 rfl rfl rfl (fun _ hS => r_ext (v := .int _ _) rfl rfl) H.only ?_
      refine t_up1 14 (by kernel_rfl) ?_
      refine up_mk rfl ?_
      refine s_sw H 1 rfl rfl rfl rfl rfl rfl rfl sz31 ?_
      clear H; intro _ H; simp only [jA, jB, jC, jD, jE, jF, jG, jH, jI, jJ, jK, Nat.reduceAdd] at H
      refine k_nil ?_
      refine t_on H.only ?_
      refine tqh 15 rfl rfl rfl (fun _ hS => r_as (v := .int _ _) rfl) H.only ?_
      refine t_done (by kernel_rfl) ?_
      replace H := H.pick 1 rfl; simp only [jL, jM] at H
      have H := HR.more H; clear HR; simp only [List.cons_append, List.nil_append] at H
      refine c_norm ?_
      refine k_seq ?_
      refine k_sg ?_
      refine s_run rfl rfl (rmi rfl) ?_
      refine s_run rfl rfl (r_neqF rfl rfl (by omega)) ?_
      refine k_nc ?_
      refine k_f rfl ?_
      refine k_skip ?_
      refine c_norm ?_
      refine k_sg ?_
      refine s_run rfl rfl (r_la H 0 rfl rfl rfl ag31 sz31) ?_
      refine s_run rfl rfl (rmi rfl) ?_
      refine s_run rfl rfl (rmi rfl) ?_
      refine s_call rfl (hG (row_doc (F := []) H 1 rfl (by simp))) (ca35 rfl) ?_
      rintro e W1 ⟨B2, m2, d2, rfl, H'⟩
      refine ⟨_, rfl, ?_⟩
      have H := H.more (H'.resolve_left (fun h => h.2.2.2.1 hgv)); clear H'; simp only [List.cons_append, List.nil_append] at H
      refine s_run rfl rfl (rmt rfl) ?_
      refine s_run rfl rfl (r_ext (v := .agg _) rfl rfl) ?_
      refine s_run rfl rfl (r_ext (v := .int _ _) rfl rfl) ?_
      refine s_run rfl rfl (r_ext (v := .int _ _) rfl rfl) ?_
      refine s_sw H 1 rfl rfl rfl rfl rfl rfl rfl sz31 ?_
      clear H; intro _ H; simp only [jA, jB, jC, jD, jE, jF, jG, jH, jI, jJ, jK, Nat.reduceAdd] at H
      refine s_run rfl rfl (rai rfl) ?_
      refine k_nc ?_
      refine k_sg ?_
      refine s_run rfl rfl (r_la H 1 rfl rfl rfl ag31 sz31) ?_
      refine s_run rfl rfl (rmi rfl) ?_
      refine s_sw H 3 rfl rfl rfl rfl rfl rfl rfl sz31 ?_
      clear H; intro _ H; simp only [jA, jB, jC, jD, jE, jF, jG, jH, jI, jJ, jK, Nat.reduceAdd] at H
      refine s_run rfl rfl (rai rfl) ?_
      refine k_nc ?_
      refine k_ret ?_
      refine fx2r rfl (rv_a H 3 rfl rfl rfl ag31 sz31) (rv_t (v := .int _ _) rfl) ?_
      exact ⟨_, _, _, rfl, row_doc H 0 rfl hF, H.only⟩
    ·rw [if_pos hc]
     have HR := H; clear H; have H := HR.tree; refine k_tr mixed ?_
     refine tqh 0 rfl rfl rfl (fun _ hS => r_la (HR.same hS) 1 rfl rfl rfl ag31 sz31) H.only ?_
     refine tqh 1 rfl rfl rfl (fun _ hS => r_mv (v := .int _ _) rfl) H.only ?_
     refine tqh 2 rfl rfl rfl (fun _ hS => r_mv (v := .int _ _) rfl) H.only ?_
     refine tqh 3 rfl rfl rfl (fun _ hS => r_fa0 rfl fo31_0) H.only ?_
     refine tqh 4 rfl rfl rfl (fun _ hS => r_lo (HR.same hS) 1 rfl rfl rfl ag28) H.only ?_
     refine tqh 5 rfl rfl rfl (fun _ hS => r_mv (v := .int _ _) rfl) H.only ?_
     refine tqh 6 rfl rfl rfl (fun _ hS => r_ix (i := j) rfl rfl (by omega) (by omega) Try.underlying28 sz100) H.only ?_
     refine tqh 7 rfl rfl rfl (fun _ hS => r_fa rfl fo100_2) H.only ?_
     refine tqh 8 rfl rfl rfl (fun _ hS => r_lr (HR.same hS) rfl c3 (by simp) ag3) H.only ?_
     refine t_up2 9 13 (by kernel_rfl) ?_ ?_
     ·refine up_mk rfl ?_
      refine s_call rfl (hT (HR.only.trans H.only)) (ca34 rfl) ?_
      rintro e W1 ⟨B1, m1, d1, rfl, H'⟩
      refine ⟨_, rfl, ?_⟩
      have H := H.same (H'.elim (fun h => h.2.2.2.2) (fun h => h.only)); clear H'
      refine k_nil ?_
      refine t_on H.only ?_
      refine tqh 10 rfl rfl rfl (fun _ hS => r_mv (v := .tuple _) rfl) H.only ?_
      refine tqh 11 rfl rfl rfl (fun _ hS => r_ext (v := .agg _) rfl rfl) H.only ?_
      refine tqh 12 rfl rfl rfl (fun _ hS => r_ext (v := .int _ _) rfl rfl) H.only ?_
      refine t_up1 13 (by kernel_rfl) ?_
      refine up_mk rfl ?_
      refine s_al H rfl inf31 ?_
      intro p11 _ H'; clear H; have H := H'; clear H'
      refine k_nil ?_
      refine t_on H.only ?_
      refine t_up1 14 (by kernel_rfl) ?_
      refine up_mk rfl ?_
      refine s_sw H 0 rfl rfl rfl rfl rfl rfl rfl sz31 ?_
      clear H; intro _ H; simp only [jA, jB, jC, jD, jE, jF, jG, jH, jI, jJ, jK, Nat.reduceAdd] at H
      refine k_nil ?_
      refine t_on H.only ?_
      refine tqh 15 rfl rfl rfl (fun _ hS => r_as (v := .int _ _) rfl) H.only ?_
      refine t_done (by kernel_rfl) ?_
      have H := HR.more H; clear HR; simp only [List.cons_append, List.nil_append] at H
      refine c_norm ?_
      refine k_seq ?_
      refine k_sg ?_
      refine s_run rfl rfl (rmi rfl) ?_
      refine s_run rfl rfl (r_neqT rfl rfl (by omega)) ?_
      refine k_nc ?_
      refine k_t rfl ?_
      refine k_sg ?_
      refine s_run rfl rfl (r_la H 2 rfl rfl rfl ag31 sz31) ?_
      refine s_run rfl rfl (rmi rfl) ?_
      refine s_sw H 1 rfl rfl rfl rfl rfl rfl rfl sz31 ?_
      clear H; intro _ H; simp only [jA, jB, jC, jD, jE, jF, jG, jH, jI, jJ, jK, Nat.reduceAdd] at H
      refine s_run rfl rfl (rai rfl) ?_
      refine k_nc ?_
      refine k_ret ?_
      refine c_ret ?_
      refine fx2r rfl (rv_a H 1 rfl rfl rfl ag31 sz31) (rv_t (v := .int _ _) rfl) ?_
      exact ⟨_, _, _, rfl, hD.later H.only (by simp), H.only⟩
     ·refine up_mk rfl ?_
      refine s_al H rfl inf31 ?_
      intro p11 _ H'; clear H; have H := H'; clear H'
      refine k_nil ?_
      refine t_on H.only ?_
      refine t_up1 9 (by kernel_rfl) ?_
      refine up_mk rfl ?_
      refine s_call rfl (hT (HR.only.trans H.only)) (ca34 rfl) ?_
      rintro e W1 ⟨B1, m1, d1, rfl, H'⟩
      refine ⟨_, rfl, ?_⟩
      have H := H.same (H'.elim (fun h => h.2.2.2.2) (fun h => h.only)); clear H'
      refine k_nil ?_
      refine t_on H.only ?_
      refine tqh 10 rfl rfl rfl (fun _ hS => r_mv (v := .tuple _) rfl) H.only ?_
      refine tqh 11 rfl rfl rfl (fun _ hS => r_ext (v := .agg _) rfl rfl) H.only ?_
      refine tqh 12 rfl rfl rfl (fun _ hS => r_ext (v := .int _ _) rfl rfl) H.only ?_
      refine t_up1 14 (by kernel_rfl) ?_
      refine up_mk rfl ?_
      refine s_sw H 0 rfl rfl rfl rfl rfl rfl rfl sz31 ?_
      clear H; intro _ H; simp only [jA, jB, jC, jD, jE, jF, jG, jH, jI, jJ, jK, Nat.reduceAdd] at H
      refine k_nil ?_
      refine t_on H.only ?_
      refine tqh 15 rfl rfl rfl (fun _ hS => r_as (v := .int _ _) rfl) H.only ?_
      refine t_done (by kernel_rfl) ?_
      have H := HR.more H; clear HR; simp only [List.cons_append, List.nil_append] at H
      refine c_norm ?_
      refine k_seq ?_
      refine k_sg ?_
      refine s_run rfl rfl (rmi rfl) ?_
      refine s_run rfl rfl (r_neqT rfl rfl (by omega)) ?_
      refine k_nc ?_
      refine k_t rfl ?_
      refine k_sg ?_
      refine s_run rfl rfl (r_la H 2 rfl rfl rfl ag31 sz31) ?_
      refine s_run rfl rfl (rmi rfl) ?_
      refine s_sw H 1 rfl rfl rfl rfl rfl rfl rfl sz31 ?_
      clear H; intro _ H; simp only [jA, jB, jC, jD, jE, jF, jG, jH, jI, jJ, jK, Nat.reduceAdd] at H
      refine s_run rfl rfl (rai rfl) ?_
      refine k_nc ?_
      refine k_ret ?_
      refine c_ret ?_
      refine fx2r rfl (rv_a H 1 rfl rfl rfl ag31 sz31) (rv_t (v := .int _ _) rfl) ?_
      exact ⟨_, _, _, rfl, hD.later H.only (by simp), H.only⟩
end Go.Proofs.Ytpbimgopiammaaa
end

section
namespace Go.Proofs.Ytpbimgopiammaaa
open Go.RowKit
set_option maxRecDepth 100000
set_option maxHeartbeats 4000000
theorem rd3 {w W : World} {b o : Nat} {xs : List C1} {k : Nat} {x y z : C1} (h : Reads C1.v w b o xs) (h1 : xs[k]? = some x) (h2 : xs[k + 1]? = some y) (h3 : xs[k + 2]? = some z) (hO : Only [] w W) : Reads C1.v W b (o + k) [x, y, z] := fun j v hj => by
 have h := h.later hO (by simp)
 match j, hj with
 | 0, hj => simp at hj; subst hj; exact h k _ h1
 | 1, hj => simp at hj; subst hj; have := h _ _ h2; rwa [← Nat.add_assoc] at this
 | 2, hj => simp at hj; subst hj; have := h _ _ h3; rwa [← Nat.add_assoc] at this
 | j + 3, hj => simp at hj
def outL (live : List Int) (x : (Int × Int) × Int) : Bool := decide (x.1.2 ∉ live)
theorem rSweep {F : List Nat} {A : Option Addr} {n c : Nat} {s : LdS} {w : World} {N : Nat} (hD : DocOk F w A n c s) (hF : ∀ i ∈ F, i < w.heap.size) (hok : LdOk N s) (hN : N ≤ 1000) (B : Option Addr) (m d : Nat) (live : List Int) (hSl : Sees (Value.int .i64) w [] B live) (hll : live.length = m) (hm : m ≤ 1000000) :
  Calls Try.prog 38 [docV A n c s, .slice B m d].toArray w fun e w' => ∃ A' n' c', e = .returned (.tuple [docV A' n' c' (s.sweep live).1, .int .i64 (s.sweep live).2].toArray) ∧ DocOk F w' A' n' c' (s.sweep live).1 ∧ Only [] w w' := by
 have H := Heap.nil w
 have hS := hD.sees.mono (G := []) (by simp)
 have hl := hD.len
 have hNn := hok.len
 have hel := enC_len s.L
 have hk2 : ∀ x ∈ s.L, 1 ≤ x.2 ∧ x.2 ≤ 1048576 := fun x hx => ⟨(hok.key x hx).2.2.1, (hok.key x hx).2.2.2.1⟩
 unfold docV
 refine k_in (N := 59) Try.func38 rfl rfl rfl ?_
 refine k_sg ?_
 refine s_box H rfl rfl ?_
 intro p2 _ H'; clear H; have H := H'; clear H'
 refine s_al H rfl inf31 ?_
 intro p4 _ H'; clear H; have H := H'; clear H'
 refine s_run rfl rfl (rai rfl) ?_
 refine k_nc ?_
 refine k_sg ?_
 refine s_run rfl rfl (ras rfl) ?_
 refine k_nc ?_
 refine k_sg ?_
 refine s_run rfl rfl (rai rfl) ?_
 refine k_nc ?_
 refine k_seq ?_
 refine k_sg ?_
 refine s_run rfl rfl (rai rfl) ?_
 refine k_nc ?_
 refine k_b ?_
 replace H := H.own_nil 3 100
 refine k_loop (fun z f W => ∃ (i : Nat) (OA : Option Addr) (oc : Nat) (out : LdL) (t : Int), i ≤ n ∧ z = n - i ∧ out = (s.L.take i).filter (inL live) ∧ t = sum2 ((s.L.take i).filter (outL live)) ∧ f 1 = .slice B m d ∧ f 2 = ptrL p2 ∧ f 4 = ptrL p4 ∧ f 6 = .slice OA out.length oc ∧ f 7 = .int .i64 t ∧ f 8 = .int .i64 i ∧ Heap w [] [ownN 3 (.slice OA out.length oc) out.length ((enC out).map C1.v) 100, blk p4 (docC none 0 0 (fun _ => 0) (fun _ => 0) (fun _ => 0)) 31, blk p2 (docC A n c s.q s.pk s.tk) 31] W) n ⟨0, none, 0, [], 0, by omega, rfl, rfl, rfl, rfl, rfl, rfl, rfl, rfl, rfl, H⟩ ?_
 clear H
 rintro z f W ⟨i, OA, oc, out, t, hi, rfl, hout, ht, f1, f2, f4, f6, f7, f8, H⟩
 obtain ⟨f, rfl⟩ := live6 f1 f2 f4 f6 f7 f8
 clear f1 f2 f4 f6 f7 f8
 have hol : out.length ≤ i := by
  rw [hout]
  have := List.length_filter_le (inL live) (s.L.take i)
  rw [List.length_take] at this; omega
 have htb := sum2_bd ((s.L.take i).filter (outL live)) (fun x hx => hk2 x (List.mem_of_mem_take (List.mem_filter.1 hx).1))
 have htl := List.length_filter_le (outL live) (s.L.take i)
 rw [List.length_take] at htl
 rw [← ht] at htb
 by_cases hlt : i < n
 ·obtain ⟨x, hx⟩ : ∃ x, s.L[i]? = some x := ⟨_, List.getElem?_eq_getElem (by omega)⟩
  obtain ⟨b, o, rfl, _, hrd⟩ := hS (by rw [hel]; omega)
  obtain ⟨g1, g2, g3⟩ := enC_get s.L i x hx
  have c1 := hrd _ _ g1
  have c2 := hrd _ _ g2
  have c3 := hrd _ _ g3
  have hxk := hk2 x (List.mem_of_getElem? hx)
  refine k_seq ?_
  refine k_sg ?_
  refine s_run rfl rfl (rmi rfl) ?_
  refine s_run rfl rfl (r_fa0 rfl fo31_0) ?_
  refine s_run rfl rfl (r_lo H 2 rfl rfl rfl ag28) ?_
  refine s_run rfl rfl (r_len rfl Try.underlying28) ?_
  refine s_run rfl rfl (r_lssT rfl rfl (by omega)) ?_
  refine k_nc ?_
  refine k_t rfl ?_
  refine k_skip ?_
  refine c_norm ?_
  refine k_seq ?_
  refine k_b ?_
  refine k_sg ?_
  refine s_run rfl rfl (rab rfl) ?_
  refine k_nc ?_
  refine k_seq ?_
  refine k_sg ?_
  refine s_run rfl rfl (rai rfl) ?_
  refine k_nc ?_
  refine k_b ?_
  refine k_loop (fun z f W => ∃ (j : Nat) (is : Bool), j ≤ m ∧ z = m - j ∧ is = decide (x.1.2 ∈ live.take j) ∧ f 1 = .slice B m d ∧ f 2 = ptrL p2 ∧ f 4 = ptrL p4 ∧ f 6 = .slice OA out.length oc ∧ f 7 = .int .i64 t ∧ f 8 = .int .i64 i ∧ f 9 = .bool is ∧ f 10 = .int .i64 j ∧ Heap w [] [ownN 3 (.slice OA out.length oc) out.length ((enC out).map C1.v) 100, blk p4 (docC none 0 0 (fun _ => 0) (fun _ => 0) (fun _ => 0)) 31, blk p2 (docC (some ⟨b, o, none⟩) n c s.q s.pk s.tk) 31] W) m ⟨0, false, by omega, rfl, by simp, rfl, rfl, rfl, rfl, rfl, rfl, rfl, rfl, H⟩ ?_
  clear H
  rintro z f W ⟨j, is, hj, rfl, his, f1, f2, f4, f6, f7, f8, f9, f10, H⟩
  obtain ⟨f, rfl⟩ := lv8 f1 f2 f4 f6 f7 f8 f9 f10
  clear f1 f2 f4 f6 f7 f8 f9 f10
  by_cases hjl : j < m
  ·obtain ⟨y, hy⟩ : ∃ y, live[j]? = some y := ⟨_, List.getElem?_eq_getElem (by omega)⟩
   obtain ⟨b2, o2, rfl, _, hrd2⟩ := hSl (by omega)
   have cy := hrd2 _ _ hy
   have hst : decide (x.1.2 ∈ live.take (j + 1)) = (is || decide (x.1.2 = y)) := by
    rw [← tk_snoc hy, his]; simp
   cases is with
   | true =>
    rw [Bool.true_or] at hst
    refine k_seq ?_
    refine k_sg ?_
    refine s_run rfl rfl (rmi rfl) ?_
    refine s_run rfl rfl (rms rfl) ?_
    refine s_run rfl rfl (r_len rfl Try.underlying22) ?_
    refine s_run rfl rfl (r_lssT rfl rfl (by omega)) ?_
    refine k_nc ?_
    refine k_t rfl ?_
    refine k_skip ?_
    refine c_norm ?_
    refine k_seq ?_
    refine k_b ?_
    refine k_q mixed (by kernel_rfl) H ?_
    refine q_run rfl rfl (fun _ H => r_mv (v := .bool _) rfl) ?_
    refine q_run rfl rfl (fun _ H => r_mv (v := .bool _) rfl) ?_
    refine q_off rfl (g_off 25 (by kernel_rfl) rfl rfl) ?_
    refine q_off rfl (g_off 25 (by kernel_rfl) rfl rfl) ?_
    refine q_off rfl (g_off 25 (by kernel_rfl) rfl rfl) ?_
    refine q_off rfl (g_off 25 (by kernel_rfl) rfl rfl) ?_
    refine q_off rfl (g_off 25 (by kernel_rfl) rfl rfl) ?_
    refine q_off rfl (g_off 25 (by kernel_rfl) rfl rfl) ?_
    refine q_off rfl (g_off 25 (by kernel_rfl) rfl rfl) ?_
    refine q_off rfl (g_off 25 (by kernel_rfl) rfl rfl) ?_
    refine q_off rfl (g_off 25 (by kernel_rfl) rfl rfl) ?_
    refine q_off rfl (g_off 25 (by kernel_rfl) rfl rfl) ?_
    refine q_off rfl (g_off 25 (by kernel_rfl) rfl rfl) ?_
    refine q_run rfl rfl (fun _ H => r_pkT (v := .bool _) rfl rfl) ?_
    refine q_run rfl rfl (fun _ H => r_as (v := .bool _) rfl) ?_
    refine q_nil ?_
    intro _ H'; clear H; have H := H'; clear H'
    refine b_norm ?_
    refine c_norm ?_
    refine k_rg ?_
    refine s_run rfl rfl (rmi rfl) ?_
    refine s_run rfl rfl (r_add rfl rfl (wI (by omega))) ?_
    refine s_run rfl rfl (rai rfl) ?_
    refine k_nil ?_
    refine c_round ?_
    refine ⟨_, _, ?_, rfl, j + 1, true, by omega, rfl, hst.symm, rfl, rfl, rfl, rfl, rfl, rfl, rfl, rfl, H⟩
    omega
   | false =>
    by_cases hxy : y = x.1.2
    ·rw [decide_eq_true hxy.symm, Bool.or_true] at hst
     refine k_seq ?_
     refine k_sg ?_
     refine s_run rfl rfl (rmi rfl) ?_
     refine s_run rfl rfl (rms rfl) ?_
     refine s_run rfl rfl (r_len rfl Try.underlying22) ?_
     refine s_run rfl rfl (r_lssT rfl rfl (by omega)) ?_
     refine k_nc ?_
     refine k_t rfl ?_
     refine k_skip ?_
     refine c_norm ?_
     refine k_seq ?_
     refine k_b ?_
     refine k_q mixed (by kernel_rfl) H ?_
     refine q_run rfl rfl (fun _ H => r_mv (v := .bool _) rfl) ?_
     refine q_run rfl rfl (fun _ H => r_mv (v := .bool _) rfl) ?_
     refine q_run rfl (g_on 25 (by kernel_rfl) rfl) (fun _ H => r_mv (v := .slice _ _ _) rfl) ?_
     refine q_run rfl (g_on 25 (by kernel_rfl) rfl) (fun _ H => r_mv (v := .int _ _) rfl) ?_
     refine q_run rfl (g_on 25 (by kernel_rfl) rfl) (fun _ H => r_ix1o (i := j) rfl rfl (by omega) (by omega) Try.underlying22 sz3) ?_
     refine q_run rfl (g_on 25 (by kernel_rfl) rfl) (fun _ H => r_lr H rfl cy (by simp) ag3) ?_
     refine q_run rfl (g_on 25 (by kernel_rfl) rfl) (fun _ H => r_fa0 rfl fo31_0) ?_
     refine q_run rfl (g_on 25 (by kernel_rfl) rfl) (fun _ H => r_lo H 2 rfl rfl rfl ag28) ?_
     refine q_run rfl (g_on 25 (by kernel_rfl) rfl) (fun _ H => r_mv (v := .int _ _) rfl) ?_
     refine q_run rfl (g_on 25 (by kernel_rfl) rfl) (fun _ H => r_ix (i := i) rfl rfl (by omega) (by omega) Try.underlying28 sz100) ?_
     refine q_run rfl (g_on 25 (by kernel_rfl) rfl) (fun _ H => r_fa rfl fo100_1) ?_
     refine q_run rfl (g_on 25 (by kernel_rfl) rfl) (fun _ H => r_lr H rfl c2 (by simp) ag3) ?_
     refine q_run rfl (g_on 25 (by kernel_rfl) rfl) (fun _ H => r_eqlT rfl rfl (by omega)) ?_
     refine q_run rfl rfl (fun _ H => r_pkF (v := .bool _) rfl rfl) ?_
     refine q_run rfl rfl (fun _ H => r_as (v := .bool _) rfl) ?_
     refine q_nil ?_
     intro _ H'; clear H; have H := H'; clear H'
     refine b_norm ?_
     refine c_norm ?_
     refine k_rg ?_
     refine s_run rfl rfl (rmi rfl) ?_
     refine s_run rfl rfl (r_add rfl rfl (wI (by omega))) ?_
     refine s_run rfl rfl (rai rfl) ?_
     refine k_nil ?_
     refine c_round ?_
     refine ⟨_, _, ?_, rfl, j + 1, true, by omega, rfl, hst.symm, rfl, rfl, rfl, rfl, rfl, rfl, rfl, rfl, H⟩
     omega
    ·rw [decide_eq_false (show ¬ x.1.2 = y from fun e => hxy e.symm), Bool.or_false] at hst
     refine k_seq ?_
     refine k_sg ?_
     refine s_run rfl rfl (rmi rfl) ?_
     refine s_run rfl rfl (rms rfl) ?_
     refine s_run rfl rfl (r_len rfl Try.underlying22) ?_
     refine s_run rfl rfl (r_lssT rfl rfl (by omega)) ?_
     refine k_nc ?_
     refine k_t rfl ?_
     refine k_skip ?_
     refine c_norm ?_
     refine k_seq ?_
     refine k_b ?_
     refine k_q mixed (by kernel_rfl) H ?_
     refine q_run rfl rfl (fun _ H => r_mv (v := .bool _) rfl) ?_
     refine q_run rfl rfl (fun _ H => r_mv (v := .bool _) rfl) ?_
     refine q_run rfl (g_on 25 (by kernel_rfl) rfl) (fun _ H => r_mv (v := .slice _ _ _) rfl) ?_
     refine q_run rfl (g_on 25 (by kernel_rfl) rfl) (fun _ H => r_mv (v := .int _ _) rfl) ?_
     refine q_run rfl (g_on 25 (by kernel_rfl) rfl) (fun _ H => r_ix1o (i := j) rfl rfl (by omega) (by omega) Try.underlying22 sz3) ?_
     refine q_run rfl (g_on 25 (by kernel_rfl) rfl) (fun _ H => r_lr H rfl cy (by simp) ag3) ?_
     refine q_run rfl (g_on 25 (by kernel_rfl) rfl) (fun _ H => r_fa0 rfl fo31_0) ?_
     refine q_run rfl (g_on 25 (by kernel_rfl) rfl) (fun _ H => r_lo H 2 rfl rfl rfl ag28) ?_
     refine q_run rfl (g_on 25 (by kernel_rfl) rfl) (fun _ H => r_mv (v := .int _ _) rfl) ?_
     refine q_run rfl (g_on 25 (by kernel_rfl) rfl) (fun _ H => r_ix (i := i) rfl rfl (by omega) (by omega) Try.underlying28 sz100) ?_
     refine q_run rfl (g_on 25 (by kernel_rfl) rfl) (fun _ H => r_fa rfl fo100_1) ?_
     refine q_run rfl (g_on 25 (by kernel_rfl) rfl) (fun _ H => r_lr H rfl c2 (by simp) ag3) ?_
     refine q_run rfl (g_on 25 (by kernel_rfl) rfl) (fun _ H => r_eqlF rfl rfl (by omega)) ?_
     refine q_run rfl rfl (fun _ H => r_pkF (v := .bool _) rfl rfl) ?_
     refine q_run rfl rfl (fun _ H => r_as (v := .bool _) rfl) ?_
     refine q_nil ?_
     intro _ H'; clear H; have H := H'; clear H'
     refine b_norm ?_
     refine c_norm ?_
     refine k_rg ?_
     refine s_run rfl rfl (rmi rfl) ?_
     refine s_run rfl rfl (r_add rfl rfl (wI (by omega))) ?_
     refine s_run rfl rfl (rai rfl) ?_
     refine k_nil ?_
     refine c_round ?_
     refine ⟨_, _, ?_, rfl, j + 1, false, by omega, rfl, hst.symm, rfl, rfl, rfl, rfl, rfl, rfl, rfl, rfl, H⟩
     omega
  ·obtain rfl : j = m := by omega
   rw [show live.take j = live by rw [← hll]; exact List.take_length] at his
   have hf1 : (s.L.take (i + 1)).filter (inL live) = out ++ (if is = true then [x] else []) := by
    rw [← tk_snoc hx, List.filter_append, ← hout, his]
    congr 1
    by_cases hin : x.1.2 ∈ live <;> simp [inL, hin]
   have hf2 : sum2 ((s.L.take (i + 1)).filter (outL live)) = t + (if is = true then 0 else x.2) := by
    have h1 := sum2_split (fun x : (Int × Int) × Int => x.1.2 ∈ live) (s.L.take (i + 1))
    have h2 := sum2_split (fun x : (Int × Int) × Int => x.1.2 ∈ live) (s.L.take i)
    have h3 : ∀ L : LdL, sum2 (L.filter (outL live)) = sum2 (L.filter fun x => decide (¬ x.1.2 ∈ live)) := fun L => rfl
    rw [ht, h3, h3, ← tk_snoc hx, List.filter_append]
    by_cases hin : x.1.2 ∈ live
    ·simp [his, hin]
    ·have : ∀ (a : LdL), sum2 (a ++ [x]) = sum2 a + x.2 := fun a => by
      induction a with
      | nil => simp [sum2]
      | cons y a ih => rw [List.cons_append, sum2, sum2, ih]; omega
     simp [his, hin, this]
   cases is with
   | true =>
    rw [if_pos rfl] at hf1 hf2
    rw [Int.add_zero] at hf2
    have e3 : enC out ++ [C1.i .i64 x.1.1, C1.i .i64 x.1.2, C1.i .i64 x.2] = enC (out ++ [x]) := by rw [enC_app]; rfl
    have hl1 : (out ++ [x]).length = out.length + 1 := by simp
    refine k_seq ?_
    refine k_sg ?_
    refine s_run rfl rfl (rmi rfl) ?_
    refine s_run rfl rfl (rms rfl) ?_
    refine s_run rfl rfl (r_len rfl Try.underlying22) ?_
    refine s_run rfl rfl (r_lssF rfl rfl (by omega)) ?_
    refine k_nc ?_
    refine k_f rfl ?_
    refine k_exit ?_
    refine c_exit ?_
    refine c_exit ?_
    refine b_hit ?_
    refine c_norm ?_
    refine k_sg ?_
    refine s_run rfl rfl (rmb rfl) ?_
    refine k_nc ?_
    refine k_t rfl ?_
    refine k_rg ?_
    refine s_run rfl rfl (rms rfl) ?_
    refine s_run rfl rfl (r_fa0 rfl fo31_0) ?_
    refine s_run rfl rfl (r_lo H 2 rfl rfl rfl ag28) ?_
    refine s_run rfl rfl (rmi rfl) ?_
    refine s_run rfl rfl (r_ix (i := i) rfl rfl (by omega) (by omega) Try.underlying28 sz100) ?_
    refine s_run rfl rfl (r_lA (enc := C1.v) (zs := [C1.i .i64 x.1.1, C1.i .i64 x.1.2, C1.i .i64 x.2]) (rd3 hrd g1 g2 g3 H.only) rfl rfl ag100 sz100) ?_
    refine s_appN (enc := C1.v) (zs := [C1.i .i64 x.1.1, C1.i .i64 x.1.2, C1.i .i64 x.2]) H 0 rfl rfl rfl rfl C1.one (by omega) (by kernel_rfl) rfl rfl rfl (by omega) Try.underlying28 inf100 rfl ?_
    intro _ O2 oc2 _ H'; simp only [List.set_cons_zero, List.set_cons_succ, List.take_succ_cons, List.take_zero, List.drop_succ_cons, List.drop_zero, List.cons_append, List.nil_append, List.append_nil, List.length_cons, List.length_nil, Nat.reduceAdd] at H'; clear H; have H := H'; clear H'
    refine s_run rfl rfl (ras rfl) ?_
    refine k_nil ?_
    refine b_norm ?_
    refine c_norm ?_
    refine k_rg ?_
    refine s_run rfl rfl (rmi rfl) ?_
    refine s_run rfl rfl (r_add rfl rfl (wI (by omega))) ?_
    refine s_run rfl rfl (rai rfl) ?_
    refine k_nil ?_
    refine c_round ?_
    rw [e3] at H
    refine ⟨_, _, ?_, rfl, i + 1, some ⟨O2, 0, none⟩, oc2, out ++ [x], t, by omega, rfl, hf1.symm, hf2.symm, rfl, rfl, rfl, by rw [hl1]; rfl, rfl, rfl, by rw [hl1]; exact H⟩
    omega
   | false =>
    rw [if_neg (by simp)] at hf1 hf2
    rw [List.append_nil] at hf1
    refine k_seq ?_
    refine k_sg ?_
    refine s_run rfl rfl (rmi rfl) ?_
    refine s_run rfl rfl (rms rfl) ?_
    refine s_run rfl rfl (r_len rfl Try.underlying22) ?_
    refine s_run rfl rfl (r_lssF rfl rfl (by omega)) ?_
    refine k_nc ?_
    refine k_f rfl ?_
    refine k_exit ?_
    refine c_exit ?_
    refine c_exit ?_
    refine b_hit ?_
    refine c_norm ?_
    refine k_sg ?_
    refine s_run rfl rfl (rmb rfl) ?_
    refine k_nc ?_
    refine k_f rfl ?_
    refine k_rg ?_
    refine s_run rfl rfl (rmi rfl) ?_
    refine s_run rfl rfl (r_fa0 rfl fo31_0) ?_
    refine s_run rfl rfl (r_lo H 2 rfl rfl rfl ag28) ?_
    refine s_run rfl rfl (rmi rfl) ?_
    refine s_run rfl rfl (r_ix (i := i) rfl rfl (by omega) (by omega) Try.underlying28 sz100) ?_
    refine s_run rfl rfl (r_fa rfl fo100_2) ?_
    refine s_run rfl rfl (r_lr H rfl c3 (by simp) ag3) ?_
    refine s_run rfl rfl (r_add rfl rfl (wI (by omega))) ?_
    refine s_run rfl rfl (rai rfl) ?_
    refine k_nil ?_
    refine b_norm ?_
    refine c_norm ?_
    refine k_rg ?_
    refine s_run rfl rfl (rmi rfl) ?_
    refine s_run rfl rfl (r_add rfl rfl (wI (by omega))) ?_
    refine s_run rfl rfl (rai rfl) ?_
    refine k_nil ?_
    refine c_round ?_
    refine ⟨_, _, ?_, rfl, i + 1, OA, oc, out, _, by omega, rfl, hf1.symm, hf2.symm, rfl, rfl, rfl, rfl, rfl, rfl, H⟩
    omega
 ·obtain rfl : i = n := by omega
  rw [show s.L.take i = s.L by rw [← hl]; exact List.take_length] at hout ht
  have e1 : out = (s.sweep live).1.L := hout
  have e2 : t = (s.sweep live).2 := ht
  subst e1; subst e2
  refine k_seq ?_
  refine k_sg ?_
  refine s_run rfl rfl (rmi rfl) ?_
  refine s_run rfl rfl (r_fa0 rfl fo31_0) ?_
  refine s_run rfl rfl (r_lo H 2 rfl rfl rfl ag28) ?_
  refine s_run rfl rfl (r_len rfl Try.underlying28) ?_
  refine s_run rfl rfl (r_lssF rfl rfl (by omega)) ?_
  refine k_nc ?_
  refine k_f rfl ?_
  refine k_exit ?_
  refine c_exit ?_
  refine c_exit ?_
  refine b_hit ?_
  refine c_norm ?_
  refine k_sg ?_
  refine s_run rfl rfl (rms rfl) ?_
  refine s_run rfl rfl (r_fa0 rfl fo31_0) ?_
  refine s_st (u := .slice _ _ _) H 2 rfl rfl rfl rfl rfl rfl sz28 ?_
  clear H; intro _ H; simp only [jA, jB, jC, jD, jE, jF, jG, jH, jI, jJ, jK, Nat.reduceAdd] at H
  refine k_nc ?_
  refine k_sg ?_
  refine s_run rfl rfl (r_la H 2 rfl rfl rfl ag31 sz31) ?_
  refine s_run rfl rfl (rmi rfl) ?_
  refine s_sw H 1 rfl rfl rfl rfl rfl rfl rfl sz31 ?_
  clear H; intro _ H; simp only [jA, jB, jC, jD, jE, jF, jG, jH, jI, jJ, jK, Nat.reduceAdd] at H
  refine s_run rfl rfl (rai rfl) ?_
  refine k_nc ?_
  refine k_ret ?_
  refine fx2r rfl (rv_a H 1 rfl rfl rfl ag31 sz31) (rv_t (v := .int _ _) rfl) ?_
  exact ⟨OA, _, oc, rfl, row_doc H 0 rfl hF, H.only⟩
end Go.Proofs.Ytpbimgopiammaaa
end

section
namespace Go.Proofs.Ytpbimgopiammaaa
open Go.RowKit
set_option maxRecDepth 100000
set_option maxHeartbeats 4000000
theorem atsOf_app (a b : LdL) (m : Int) : atsOf (a ++ b) m = atsOf a m ++ atsOf b m := by simp [atsOf]
theorem fold_sIns_len (l s : List Int) : (l.foldl sIns s).length = s.length + l.length := by
 induction l generalizing s with
 | nil => rfl
 | cons x l ih => rw [List.foldl_cons, ih, sIns_len, List.length_cons]; omega
theorem rAll {F : List Nat} {A : Option Addr} {n c : Nat} {s : LdS} {w : World} {N : Nat} (hD : DocOk F w A n c s) (hF : ∀ i ∈ F, i < w.heap.size) (hok : LdOk N s) (hN : N ≤ 1000) (m : Int) :
  Calls Try.prog 32 [docV A n c s, .int .i64 m].toArray w fun e w' => ∃ A' c', e = .returned (.slice A' (atsOf s.L m).length c') ∧ Sees (Value.int .i64) w' F A' (srt (atsOf s.L m)) ∧ (atsOf s.L m).length ≤ c' ∧ Only [] w w' := by
 have H := Heap.nil w
 have hS := hD.sees.mono (G := []) (by simp)
 have hl := hD.len
 have hNn := hok.len
 have hel := enC_len s.L
 unfold docV
 refine k_in (N := 63) Try.func32 rfl rfl rfl ?_
 refine k_sg ?_
 refine s_box H rfl rfl ?_
 intro p2 _ H'; clear H; have H := H'; clear H'
 refine s_run rfl rfl (ras rfl) ?_
 refine k_nc ?_
 refine k_sg ?_
 refine s_run rfl rfl (ras rfl) ?_
 refine k_nc ?_
 refine k_seq ?_
 refine k_sg ?_
 refine s_run rfl rfl (rai rfl) ?_
 refine k_nc ?_
 refine k_b ?_
 refine k_loop (fun z f W => ∃ (i : Nat) (OA : Option Addr) (oc : Nat) (out : List Int), i ≤ n ∧ z = n - i ∧ out = (atsOf (s.L.take i) m).foldl sIns [] ∧ Sees (Value.int .i64) W F OA out ∧ out.length ≤ oc ∧ f 1 = .int .i64 m ∧ f 2 = ptrL p2 ∧ f 5 = .slice OA out.length oc ∧ f 6 = .int .i64 i ∧ Heap w [] [blk p2 (docC A n c s.q s.pk s.tk) 31] W) n ⟨0, none, 0, [], by omega, rfl, rfl, Sees.nil, by simp, rfl, rfl, rfl, rfl, H⟩ ?_
 clear H
 rintro z f W ⟨i, OA, oc, out, hi, rfl, hout, hSo, hoc, f1, f2, f5, f6, HB⟩
 obtain ⟨f, rfl⟩ := live4 f1 f2 f5 f6
 clear f1 f2 f5 f6
 have hol : out.length ≤ i := by
  rw [hout, fold_sIns_len, List.length_nil, Nat.zero_add]
  have := atsOf_len (s.L.take i) m
  rw [List.length_take] at this; omega
 have hFW : ∀ j ∈ F, j < W.heap.size := fun j hj => Nat.lt_of_lt_of_le (hF j hj) HB.only.size
 have H := Heap.nil W
 by_cases hlt : i < n
 ·obtain ⟨x, hx⟩ : ∃ x, s.L[i]? = some x := ⟨_, List.getElem?_eq_getElem (by omega)⟩
  obtain ⟨b, o, rfl, _, hrd0⟩ := hS (by rw [hel]; omega)
  have hrd := hrd0.later HB.only (by simp)
  obtain ⟨g1, g2, g3⟩ := enC_get s.L i x hx
  have c1 := hrd _ _ g1
  have c2 := hrd _ _ g2
  have hst : atsOf (s.L.take (i + 1)) m = atsOf (s.L.take i) m ++ (if x.1.1 = m then [x.1.2] else []) := by
   rw [← tk_snoc hx, atsOf_app, atsOf_cons]
   show _ ++ (_ ++ atsOf [] m) = _
   rw [show atsOf [] m = [] from rfl, List.append_nil]
  by_cases hm : x.1.1 = m
  ·rw [if_pos hm] at hst
   have hst2 : (atsOf (s.L.take (i + 1)) m).foldl sIns [] = sIns out x.1.2 := by rw [hst, List.foldl_append, ← hout]; rfl
   refine k_seq ?_
   refine k_sg ?_
   refine s_run rfl rfl (rmi rfl) ?_
   refine s_run rfl rfl (r_fa0 rfl fo31_0) ?_
   refine s_run rfl rfl (r_lo (HB.same H.only) 0 rfl rfl rfl ag28) ?_
   refine s_run rfl rfl (r_len rfl Try.underlying28) ?_
   refine s_run rfl rfl (r_lssT rfl rfl (by omega)) ?_
   refine k_nc ?_
   refine k_t rfl ?_
   refine k_skip ?_
   refine c_norm ?_
   refine k_seq ?_
   refine k_b ?_
   refine k_seq ?_
   refine k_sg ?_
   refine s_run rfl rfl (r_fa0 rfl fo31_0) ?_
   refine s_run rfl rfl (r_lo (HB.same H.only) 0 rfl rfl rfl ag28) ?_
   refine s_run rfl rfl (rmi rfl) ?_
   refine s_run rfl rfl (r_ix (i := i) rfl rfl (by omega) (by omega) Try.underlying28 sz100) ?_
   refine s_run rfl rfl (r_fa rfl fo100_0) ?_
   refine s_run rfl rfl (r_lr H rfl c1 (by simp) ag3) ?_
   refine s_run rfl rfl (rmi rfl) ?_
   refine s_run rfl rfl (r_neqF rfl rfl (by omega)) ?_
   refine k_nc ?_
   refine k_f rfl ?_
   refine k_skip ?_
   refine c_norm ?_
   refine k_sg ?_
   refine s_run rfl rfl (rai rfl) ?_
   refine k_nc ?_
   refine k_seq ?_
   refine k_b ?_
   refine k_loop (fun z f W2 => ∃ (j : Nat), j ≤ out.length ∧ z = out.length - j ∧ (∀ k y, k < j → out[k]? = some y → y < x.1.2) ∧ f 1 = .int .i64 m ∧ f 2 = ptrL p2 ∧ f 5 = .slice OA out.length oc ∧ f 6 = .int .i64 i ∧ f 7 = .int .i64 j ∧ Heap W [] [] W2) out.length ⟨0, by omega, rfl, by omega, rfl, rfl, rfl, rfl, rfl, H⟩ ?_
   clear H
   rintro z f W2 ⟨j, hj, rfl, hlo, f1, f2, f5, f6, f7, H⟩
   have hp := sIns_at out x.1.2 j hj hlo
   have hS2 := (hSo.mono (G := []) (by simp)).slo j hoc
   have hSo0 := hSo.mono (G := []) (by simp)
   by_cases hjl : j < out.length
   ·obtain ⟨y, hy⟩ : ∃ y, out[j]? = some y := ⟨_, List.getElem?_eq_getElem hjl⟩
    obtain ⟨b2, o2, rfl, hb2, hrd2⟩ := hSo (by omega)
    have cy := hrd2 _ _ hy
    obtain ⟨f, rfl⟩ := live5 f1 f2 f5 f6 f7
    clear f1 f2 f5 f6 f7
    by_cases hyx : y < x.1.2
    ·refine k_seq ?_
     refine k_seq ?_
     refine k_q mixed (by kernel_rfl) H ?_
     refine q_run rfl rfl (fun _ H => r_mv (v := .int _ _) rfl) ?_
     refine q_run rfl rfl (fun _ H => r_mv (v := .slice _ _ _) rfl) ?_
     refine q_run rfl rfl (fun _ H => r_len rfl Try.underlying22) ?_
     refine q_run rfl rfl (fun _ H => r_lssT rfl rfl (by omega)) ?_
     refine q_run rfl rfl (fun _ H => r_mv (v := .bool _) rfl) ?_
     refine q_run rfl (g_on 28 (by kernel_rfl) rfl) (fun _ H => r_mv (v := .slice _ _ _) rfl) ?_
     refine q_run rfl (g_on 28 (by kernel_rfl) rfl) (fun _ H => r_mv (v := .int _ _) rfl) ?_
     refine q_run rfl (g_on 28 (by kernel_rfl) rfl) (fun _ H => r_ix1o (i := j) rfl rfl (by omega) (by omega) Try.underlying22 sz3) ?_
     refine q_run rfl (g_on 28 (by kernel_rfl) rfl) (fun _ H => r_lr H rfl cy (by simp) ag3) ?_
     refine q_run rfl (g_on 28 (by kernel_rfl) rfl) (fun _ H => r_fa0 rfl fo31_0) ?_
     refine q_run rfl (g_on 28 (by kernel_rfl) rfl) (fun _ H => r_lo (HB.same H.only) 0 rfl rfl rfl ag28) ?_
     refine q_run rfl (g_on 28 (by kernel_rfl) rfl) (fun _ H => r_mv (v := .int _ _) rfl) ?_
     refine q_run rfl (g_on 28 (by kernel_rfl) rfl) (fun _ H => r_ix (i := i) rfl rfl (by omega) (by omega) Try.underlying28 sz100) ?_
     refine q_run rfl (g_on 28 (by kernel_rfl) rfl) (fun _ H => r_fa rfl fo100_1) ?_
     refine q_run rfl (g_on 28 (by kernel_rfl) rfl) (fun _ H => r_lr H rfl c2 (by simp) ag3) ?_
     refine q_run rfl (g_on 28 (by kernel_rfl) rfl) (fun _ H => r_lssT rfl rfl (by omega)) ?_
     refine q_run rfl rfl (fun _ H => r_pkT (v := .bool _) rfl rfl) ?_
     refine q_nil ?_
     intro _ H'; clear H; have H := H'; clear H'
     refine c_norm ?_
     refine k_t rfl ?_
     refine k_skip ?_
     refine c_norm ?_
     refine k_b ?_
     refine k_rg ?_
     refine s_run rfl rfl (rmi rfl) ?_
     refine s_run rfl rfl (r_add rfl rfl (wI (by omega))) ?_
     refine s_run rfl rfl (rai rfl) ?_
     refine k_nil ?_
     refine b_norm ?_
     refine c_round ?_
     refine ⟨_, _, ?_, rfl, j + 1, by omega, rfl, fun k u hk hu => ?_, rfl, rfl, rfl, rfl, rfl, H⟩
     ·omega
     ·by_cases e : k = j
      ·subst e; rw [hy] at hu; injection hu with hu; subst hu; exact hyx
      ·exact hlo k u (by omega) hu
    ·replace hp := hp (fun u hu => by rw [hy] at hu; injection hu with hu; subst hu; exact hyx)
     have e3 : out.take j ++ [x.1.2] ++ out.drop j = sIns out x.1.2 := by rw [hp]; simp
     have hln : j + 1 + (0 + (out.length - j)) = (sIns out x.1.2).length := by rw [sIns_len]; omega
     refine k_seq ?_
     refine k_seq ?_
     refine k_q mixed (by kernel_rfl) H ?_
     refine q_run rfl rfl (fun _ H => r_mv (v := .int _ _) rfl) ?_
     refine q_run rfl rfl (fun _ H => r_mv (v := .slice _ _ _) rfl) ?_
     refine q_run rfl rfl (fun _ H => r_len rfl Try.underlying22) ?_
     refine q_run rfl rfl (fun _ H => r_lssT rfl rfl (by omega)) ?_
     refine q_run rfl rfl (fun _ H => r_mv (v := .bool _) rfl) ?_
     refine q_run rfl (g_on 28 (by kernel_rfl) rfl) (fun _ H => r_mv (v := .slice _ _ _) rfl) ?_
     refine q_run rfl (g_on 28 (by kernel_rfl) rfl) (fun _ H => r_mv (v := .int _ _) rfl) ?_
     refine q_run rfl (g_on 28 (by kernel_rfl) rfl) (fun _ H => r_ix1o (i := j) rfl rfl (by omega) (by omega) Try.underlying22 sz3) ?_
     refine q_run rfl (g_on 28 (by kernel_rfl) rfl) (fun _ H => r_lr H rfl cy (by simp) ag3) ?_
     refine q_run rfl (g_on 28 (by kernel_rfl) rfl) (fun _ H => r_fa0 rfl fo31_0) ?_
     refine q_run rfl (g_on 28 (by kernel_rfl) rfl) (fun _ H => r_lo (HB.same H.only) 0 rfl rfl rfl ag28) ?_
     refine q_run rfl (g_on 28 (by kernel_rfl) rfl) (fun _ H => r_mv (v := .int _ _) rfl) ?_
     refine q_run rfl (g_on 28 (by kernel_rfl) rfl) (fun _ H => r_ix (i := i) rfl rfl (by omega) (by omega) Try.underlying28 sz100) ?_
     refine q_run rfl (g_on 28 (by kernel_rfl) rfl) (fun _ H => r_fa rfl fo100_1) ?_
     refine q_run rfl (g_on 28 (by kernel_rfl) rfl) (fun _ H => r_lr H rfl c2 (by simp) ag3) ?_
     refine q_run rfl (g_on 28 (by kernel_rfl) rfl) (fun _ H => r_lssF rfl rfl (by omega)) ?_
     refine q_run rfl rfl (fun _ H => r_pkT (v := .bool _) rfl rfl) ?_
     refine q_nil ?_
     intro _ H'; clear H; have H := H'; clear H'
     refine c_norm ?_
     refine k_f rfl ?_
     refine k_exit ?_
     refine c_exit ?_
     refine c_exit ?_
     refine b_hit ?_
     refine c_norm ?_
     refine k_sg ?_
     refine s_bs0 1 (by omega) H rfl Try.underlying22 inf3 ?_
     intro _ _ H'; clear H; have H := H'; clear H'
     refine s_run rfl rfl (rms rfl) ?_
     refine s_run rfl rfl (rmi rfl) ?_
     refine s_run rfl rfl (r_sloA (i := j) rfl rfl rfl (by omega) Try.underlying22 sz3) ?_
     refine s_apps (enc := (Value.int .i64)) (xs := []) H 0 rfl rfl rfl rfl (hS2) ((by rw [List.length_drop])) (fun _ => rfl) (by omega) Try.underlying22 inf3 rfl ?_
     intro _ _ _ hA H'; simp only [List.set_cons_zero, List.set_cons_succ, List.take_succ_cons, List.take_zero, List.drop_succ_cons, List.drop_zero, List.cons_append, List.nil_append, List.append_nil, List.length_cons, List.length_nil, Nat.reduceAdd] at H'; clear H; have H := H'; clear H'
     refine s_run rfl rfl (ras rfl) ?_
     refine k_nc ?_
     refine k_trF mixed ?_; have H' := H.drew; clear H; have H := H'; clear H'
     refine tqh 0 rfl rfl rfl (fun _ hS => r_mv (v := .slice _ _ _) rfl) trivial ?_
     refine tqh 1 rfl rfl rfl (fun _ hS => r_mv (v := .int _ _) rfl) trivial ?_
     refine tqh 2 rfl rfl rfl (fun _ hS => r_mv (v := .int _ _) rfl) trivial ?_
     refine tqh 3 rfl rfl rfl (fun _ hS => r_shm (j := j) (j2 := j) rfl rfl rfl rfl rfl (by omega) (by omega) Try.underlying22 sz3) trivial ?_
     refine tqh 4 rfl rfl rfl (fun _ hS => r_fa0 rfl fo31_0) trivial ?_
     refine tqh 6 rfl rfl rfl (fun _ hS => r_mv (v := .int _ _) rfl) trivial ?_
     refine tqh 12 rfl rfl rfl (fun _ hS => r_mv (v := .slice _ _ _) rfl) trivial ?_
     refine t_up1 5 (by kernel_rfl) ?_
     refine up_mk rfl ?_
     refine s_run rfl rfl (r_lo (HB.same H.only) 0 rfl rfl rfl ag28) ?_
     refine k_nil ?_
     refine t_on trivial ?_
     refine tqh 7 rfl rfl rfl (fun _ hS => r_ix (i := i) rfl rfl (by omega) (by omega) Try.underlying28 sz100) trivial ?_
     refine tqh 8 rfl rfl rfl (fun _ hS => r_fa rfl fo100_1) trivial ?_
     refine t_up1 9 (by kernel_rfl) ?_
     refine up_mk rfl ?_
     refine s_run rfl rfl (r_lr H rfl c2 (by simp) ag3) ?_
     refine k_nil ?_
     refine t_on trivial ?_
     refine t_up1 10 (by kernel_rfl) ?_
     refine up_mk rfl ?_
     refine s_bsO (enc := (Value.int .i64)) (zs := [x.1.2]) H rfl rfl rfl (by omega) (by kernel_rfl) Try.underlying22 inf3 ?_
     intro q10 _ H'; clear H; have H := H'; clear H'
     refine k_nil ?_
     refine t_on trivial ?_
     refine t_up1 11 (by kernel_rfl) ?_
     refine up_mk rfl ?_
     refine s_apG (enc := (Value.int .i64)) H ((hSo0.later H.only (by simp)).head j) ((by rw [List.length_take]; omega)) ((H.own_sees 0 rfl)) ((show ([x.1.2] : List Int).length = 1 from rfl)) (by omega) rfl rfl rfl (fun _ => rfl) (by omega) Try.underlying22 inf3 rfl ?_
     intro _ _ _ H'; clear H; have H := H'; clear H'
     refine k_nil ?_
     refine t_on trivial ?_
     refine t_up1 13 (by kernel_rfl) ?_
     refine up_mk rfl ?_
     refine s_apW (enc := (Value.int .i64)) H 0 rfl rfl rfl rfl ((H.own_sees 2 rfl)) ((by simp)) (fun _ => rfl) (by omega) Try.underlying22 inf3 rfl ?_
     intro A2 c9 _ H'; simp only [List.set_cons_zero, List.set_cons_succ, List.take_succ_cons, List.take_zero, List.drop_succ_cons, List.drop_zero, List.cons_append, List.nil_append, List.append_nil, List.length_cons, List.length_nil, Nat.reduceAdd] at H'; clear H; have H := H'; clear H'
     refine k_nil ?_
     refine t_on trivial ?_
     refine tqh 14 rfl rfl rfl (fun _ hS => r_as (v := .slice _ _ _) rfl) trivial ?_
     refine t_done (by kernel_rfl) ?_
     refine b_norm ?_
     refine c_norm ?_
     refine k_rg ?_
     refine s_run rfl rfl (rmi rfl) ?_
     refine s_run rfl rfl (r_add rfl rfl (wI (by omega))) ?_
     refine s_run rfl rfl (rai rfl) ?_
     refine k_nil ?_
     refine c_round ?_
     rw [e3, hln] at H; exact ⟨_, _, by omega, rfl, i + 1, A2, c9, _, by omega, rfl, hst2.symm, H.own_fresh 0 rfl hFW, own_cap H 0 rfl, rfl, rfl, by rw [← hln]; rfl, rfl, HB.same H.only⟩
   ·obtain rfl : j = out.length := by omega
    replace hp := hp (fun u hu => by rw [List.getElem?_eq_none (Nat.le_refl _)] at hu; cases hu)
    obtain ⟨f, rfl⟩ := live5 f1 f2 f5 f6 f7
    clear f1 f2 f5 f6 f7
    have e3 : out.take out.length ++ [x.1.2] ++ out.drop out.length = sIns out x.1.2 := by rw [hp]; simp
    have hln : out.length + 1 + (0 + (out.length - out.length)) = (sIns out x.1.2).length := by rw [sIns_len]; omega
    refine k_seq ?_
    refine k_seq ?_
    refine k_q mixed (by kernel_rfl) H ?_
    refine q_run rfl rfl (fun _ H => r_mv (v := .int _ _) rfl) ?_
    refine q_run rfl rfl (fun _ H => r_mv (v := .slice _ _ _) rfl) ?_
    refine q_run rfl rfl (fun _ H => r_len rfl Try.underlying22) ?_
    refine q_run rfl rfl (fun _ H => r_lssF rfl rfl (by omega)) ?_
    refine q_run rfl rfl (fun _ H => r_mv (v := .bool _) rfl) ?_
    refine q_off rfl (g_off 28 (by kernel_rfl) rfl rfl) ?_
    refine q_off rfl (g_off 28 (by kernel_rfl) rfl rfl) ?_
    refine q_off rfl (g_off 28 (by kernel_rfl) rfl rfl) ?_
    refine q_off rfl (g_off 28 (by kernel_rfl) rfl rfl) ?_
    refine q_off rfl (g_off 28 (by kernel_rfl) rfl rfl) ?_
    refine q_off rfl (g_off 28 (by kernel_rfl) rfl rfl) ?_
    refine q_off rfl (g_off 28 (by kernel_rfl) rfl rfl) ?_
    refine q_off rfl (g_off 28 (by kernel_rfl) rfl rfl) ?_
    refine q_off rfl (g_off 28 (by kernel_rfl) rfl rfl) ?_
    refine q_off rfl (g_off 28 (by kernel_rfl) rfl rfl) ?_
    refine q_off rfl (g_off 28 (by kernel_rfl) rfl rfl) ?_
    refine q_run rfl rfl (fun _ H => r_pkF (v := .bool _) rfl rfl) ?_
    refine q_nil ?_
    intro _ H'; clear H; have H := H'; clear H'
    refine c_norm ?_
    refine k_f rfl ?_
    refine k_exit ?_
    refine c_exit ?_
    refine c_exit ?_
    refine b_hit ?_
    refine c_norm ?_
    refine k_sg ?_
    refine s_bs0 1 (by omega) H rfl Try.underlying22 inf3 ?_
    intro _ _ H'; clear H; have H := H'; clear H'
    refine s_run rfl rfl (rms rfl) ?_
    refine s_run rfl rfl (rmi rfl) ?_
    refine s_run rfl rfl (r_sloA (i := out.length) rfl rfl rfl (by omega) Try.underlying22 sz3) ?_
    refine s_apps (enc := (Value.int .i64)) (xs := []) H 0 rfl rfl rfl rfl (hS2) ((by rw [List.length_drop])) (fun _ => rfl) (by omega) Try.underlying22 inf3 rfl ?_
    intro _ _ _ hA H'; simp only [List.set_cons_zero, List.set_cons_succ, List.take_succ_cons, List.take_zero, List.drop_succ_cons, List.drop_zero, List.cons_append, List.nil_append, List.append_nil, List.length_cons, List.length_nil, Nat.reduceAdd] at H'; clear H; have H := H'; clear H'
    refine s_run rfl rfl (ras rfl) ?_
    refine k_nc ?_
    refine k_trF mixed ?_; have H' := H.drew; clear H; have H := H'; clear H'
    refine tqh 0 rfl rfl rfl (fun _ hS => r_mv (v := .slice _ _ _) rfl) trivial ?_
    refine tqh 1 rfl rfl rfl (fun _ hS => r_mv (v := .int _ _) rfl) trivial ?_
    refine tqh 2 rfl rfl rfl (fun _ hS => r_mv (v := .int _ _) rfl) trivial ?_
    refine tqh 3 rfl rfl rfl (fun _ hS => r_shm (j := out.length) (j2 := out.length) rfl rfl rfl rfl rfl (by omega) (by omega) Try.underlying22 sz3) trivial ?_
    refine tqh 4 rfl rfl rfl (fun _ hS => r_fa0 rfl fo31_0) trivial ?_
    refine tqh 6 rfl rfl rfl (fun _ hS => r_mv (v := .int _ _) rfl) trivial ?_
    refine tqh 12 rfl rfl rfl (fun _ hS => r_mv (v := .slice _ _ _) rfl) trivial ?_
    refine t_up1 5 (by kernel_rfl) ?_
    refine up_mk rfl ?_
    refine s_run rfl rfl (r_lo (HB.same H.only) 0 rfl rfl rfl ag28) ?_
    refine k_nil ?_
    refine t_on trivial ?_
    refine tqh 7 rfl rfl rfl (fun _ hS => r_ix (i := i) rfl rfl (by omega) (by omega) Try.underlying28 sz100) trivial ?_
    refine tqh 8 rfl rfl rfl (fun _ hS => r_fa rfl fo100_1) trivial ?_
    refine t_up1 9 (by kernel_rfl) ?_
    refine up_mk rfl ?_
    refine s_run rfl rfl (r_lr H rfl c2 (by simp) ag3) ?_
    refine k_nil ?_
    refine t_on trivial ?_
    refine t_up1 10 (by kernel_rfl) ?_
    refine up_mk rfl ?_
    refine s_bsO (enc := (Value.int .i64)) (zs := [x.1.2]) H rfl rfl rfl (by omega) (by kernel_rfl) Try.underlying22 inf3 ?_
    intro q10 _ H'; clear H; have H := H'; clear H'
    refine k_nil ?_
    refine t_on trivial ?_
    refine t_up1 11 (by kernel_rfl) ?_
    refine up_mk rfl ?_
    refine s_apG (enc := (Value.int .i64)) H ((hSo0.later H.only (by simp)).head out.length) ((by rw [List.length_take]; omega)) ((H.own_sees 0 rfl)) ((show ([x.1.2] : List Int).length = 1 from rfl)) (by omega) rfl rfl rfl (fun _ => rfl) (by omega) Try.underlying22 inf3 rfl ?_
    intro _ _ _ H'; clear H; have H := H'; clear H'
    refine k_nil ?_
    refine t_on trivial ?_
    refine t_up1 13 (by kernel_rfl) ?_
    refine up_mk rfl ?_
    refine s_apW (enc := (Value.int .i64)) H 0 rfl rfl rfl rfl ((H.own_sees 2 rfl)) ((by simp)) (fun _ => rfl) (by omega) Try.underlying22 inf3 rfl ?_
    intro A2 c9 _ H'; simp only [List.set_cons_zero, List.set_cons_succ, List.take_succ_cons, List.take_zero, List.drop_succ_cons, List.drop_zero, List.cons_append, List.nil_append, List.append_nil, List.length_cons, List.length_nil, Nat.reduceAdd] at H'; clear H; have H := H'; clear H'
    refine k_nil ?_
    refine t_on trivial ?_
    refine tqh 14 rfl rfl rfl (fun _ hS => r_as (v := .slice _ _ _) rfl) trivial ?_
    refine t_done (by kernel_rfl) ?_
    refine b_norm ?_
    refine c_norm ?_
    refine k_rg ?_
    refine s_run rfl rfl (rmi rfl) ?_
    refine s_run rfl rfl (r_add rfl rfl (wI (by omega))) ?_
    refine s_run rfl rfl (rai rfl) ?_
    refine k_nil ?_
    refine c_round ?_
    rw [e3, hln] at H; exact ⟨_, _, by omega, rfl, i + 1, A2, c9, _, by omega, rfl, hst2.symm, H.own_fresh 0 rfl hFW, own_cap H 0 rfl, rfl, rfl, by rw [← hln]; rfl, rfl, HB.same H.only⟩
  ·rw [if_neg hm, List.append_nil] at hst
   rw [← hst] at hout
   refine k_seq ?_
   refine k_sg ?_
   refine s_run rfl rfl (rmi rfl) ?_
   refine s_run rfl rfl (r_fa0 rfl fo31_0) ?_
   refine s_run rfl rfl (r_lo (HB.same H.only) 0 rfl rfl rfl ag28) ?_
   refine s_run rfl rfl (r_len rfl Try.underlying28) ?_
   refine s_run rfl rfl (r_lssT rfl rfl (by omega)) ?_
   refine k_nc ?_
   refine k_t rfl ?_
   refine k_skip ?_
   refine c_norm ?_
   refine k_seq ?_
   refine k_b ?_
   refine k_seq ?_
   refine k_sg ?_
   refine s_run rfl rfl (r_fa0 rfl fo31_0) ?_
   refine s_run rfl rfl (r_lo (HB.same H.only) 0 rfl rfl rfl ag28) ?_
   refine s_run rfl rfl (rmi rfl) ?_
   refine s_run rfl rfl (r_ix (i := i) rfl rfl (by omega) (by omega) Try.underlying28 sz100) ?_
   refine s_run rfl rfl (r_fa rfl fo100_0) ?_
   refine s_run rfl rfl (r_lr H rfl c1 (by simp) ag3) ?_
   refine s_run rfl rfl (rmi rfl) ?_
   refine s_run rfl rfl (r_neqT rfl rfl (by omega)) ?_
   refine k_nc ?_
   refine k_t rfl ?_
   refine k_exit ?_
   refine c_exit ?_
   refine b_hit ?_
   refine c_norm ?_
   refine k_rg ?_
   refine s_run rfl rfl (rmi rfl) ?_
   refine s_run rfl rfl (r_add rfl rfl (wI (by omega))) ?_
   refine s_run rfl rfl (rai rfl) ?_
   refine k_nil ?_
   refine c_round ?_
   refine ⟨_, _, ?_, rfl, i + 1, OA, oc, out, by omega, rfl, hout, hSo.later H.only (by simp), hoc, rfl, rfl, rfl, rfl, HB.same H.only⟩
   omega
 ·obtain rfl : i = n := by omega
  rw [show s.L.take i = s.L by rw [← hl]; exact List.take_length, sIns_fold] at hout
  have hlo : out.length = (atsOf s.L m).length := by rw [hout, srt_len]
  refine k_seq ?_
  refine k_sg ?_
  refine s_run rfl rfl (rmi rfl) ?_
  refine s_run rfl rfl (r_fa0 rfl fo31_0) ?_
  refine s_run rfl rfl (r_lo (HB.same H.only) 0 rfl rfl rfl ag28) ?_
  refine s_run rfl rfl (r_len rfl Try.underlying28) ?_
  refine s_run rfl rfl (r_lssF rfl rfl (by omega)) ?_
  refine k_nc ?_
  refine k_f rfl ?_
  refine k_exit ?_
  refine c_exit ?_
  refine c_exit ?_
  refine b_hit ?_
  refine c_norm ?_
  refine k_sg ?_
  refine s_run rfl rfl (rms rfl) ?_
  refine s_run rfl rfl (ras rfl) ?_
  refine k_nc ?_
  refine k_ret ?_
  refine fin1r (v := .slice _ _ _) rfl rfl ?_
  rw [hout] at hSo
  exact ⟨OA, oc, by rw [hlo], hSo.later H.only (by simp), by omega, (HB.same H.only).only⟩
end Go.Proofs.Ytpbimgopiammaaa
end

section
namespace Go.Proofs.Ytpbimgopiammaaa
open Go.RowKit
set_option maxRecDepth 100000
set_option maxHeartbeats 2000000
theorem rIntsT (A B : Option Addr) (n c d : Nat) (l : List Int) (w : World) (hA : Sees (Value.int .i64) w [] A l) (hB : Sees (Value.int .i64) w [] B l) (hl : l.length = n) (hn : n ≤ 1000000000) :
  Calls Try.prog 20 [.slice A n c, .slice B n d].toArray w fun e w' => e = .returned (.bool true) ∧ Only [] w w' := by
 have H := Heap.nil w
 refine k_in (N := 26) Try.func20 rfl rfl rfl ?_
 refine k_sg ?_
 refine s_run rfl rfl (rab rfl) ?_
 refine k_nc ?_
 refine k_seq ?_
 refine k_sg ?_
 refine s_run rfl rfl (rms rfl) ?_
 refine s_run rfl rfl (r_len rfl Try.underlying22) ?_
 refine s_run rfl rfl (rms rfl) ?_
 refine s_run rfl rfl (r_len rfl Try.underlying22) ?_
 refine s_run rfl rfl (r_neqF rfl rfl (by omega)) ?_
 refine k_nc ?_
 refine k_f rfl ?_
 refine k_skip ?_
 refine c_norm ?_
 refine k_seq ?_
 refine k_sg ?_
 refine s_run rfl rfl (rai rfl) ?_
 refine k_nc ?_
 refine k_b ?_
 refine k_loop (fun z f W => ∃ (i : Nat), i ≤ n ∧ z = n - i ∧ f 0 = .slice A n c ∧ f 1 = .slice B n d ∧ f 5 = .int .i64 i ∧ Heap w [] [] W) n ⟨0, by omega, rfl, rfl, rfl, rfl, H⟩ ?_
 clear H
 rintro z f W ⟨i, hi, rfl, f0, f1, f5, H⟩
 by_cases hlt : i < n
 ·obtain ⟨y, hy⟩ : ∃ y, l[i]? = some y := ⟨_, List.getElem?_eq_getElem (by omega)⟩
  obtain ⟨b, o, rfl, _, hrd⟩ := hA (by omega)
  have hc0 := hrd i y hy
  obtain ⟨b', o', rfl, _, hrd'⟩ := hB (by omega)
  have hc1 := hrd' i y hy
  obtain ⟨f, rfl⟩ := live3 f0 f1 f5
  clear f0 f1 f5
  refine k_seq ?_
  refine k_sg ?_
  refine s_run rfl rfl (rmi rfl) ?_
  refine s_run rfl rfl (rms rfl) ?_
  refine s_run rfl rfl (r_len rfl Try.underlying22) ?_
  refine s_run rfl rfl (r_lssT rfl rfl (by omega)) ?_
  refine k_nc ?_
  refine k_t rfl ?_
  refine k_skip ?_
  refine c_norm ?_
  refine k_seq ?_
  refine k_b ?_
  refine k_seq ?_
  refine k_q mixed (by kernel_rfl) H ?_
  refine q_run rfl rfl (fun _ H => r_mv (v := .slice _ _ _) rfl) ?_
  refine q_run rfl rfl (fun _ H => r_mv (v := .int _ _) rfl) ?_
  refine q_run rfl rfl (fun _ H => r_ix1o (i := i) rfl rfl (by omega) (by omega) Try.underlying22 sz3) ?_
  refine q_run rfl rfl (fun _ H => r_lr H rfl hc0 (by simp) ag3) ?_
  refine q_run rfl rfl (fun _ H => r_mv (v := .slice _ _ _) rfl) ?_
  refine q_run rfl rfl (fun _ H => r_mv (v := .int _ _) rfl) ?_
  refine q_run rfl rfl (fun _ H => r_ix1o (i := i) rfl rfl (by omega) (by omega) Try.underlying22 sz3) ?_
  refine q_run rfl rfl (fun _ H => r_lr H rfl hc1 (by simp) ag3) ?_
  refine q_run rfl rfl (fun _ H => r_neqF rfl rfl (by omega)) ?_
  refine q_nil ?_
  intro _ H'; clear H; have H := H'; clear H'
  refine c_norm ?_
  refine k_f rfl ?_
  refine k_skip ?_
  refine b_norm ?_
  refine c_norm ?_
  refine k_rg ?_
  refine s_run rfl rfl (rmi rfl) ?_
  refine s_run rfl rfl (r_add rfl rfl (wI (by omega))) ?_
  refine s_run rfl rfl (rai rfl) ?_
  refine k_nil ?_
  refine c_round ?_
  refine ⟨_, _, ?_, rfl, i + 1, by omega, rfl, rfl, rfl, rfl, H⟩
  omega
 ·obtain rfl : i = n := by omega
  obtain ⟨f, rfl⟩ := live3 f0 f1 f5
  clear f0 f1 f5
  refine k_seq ?_
  refine k_sg ?_
  refine s_run rfl rfl (rmi rfl) ?_
  refine s_run rfl rfl (rms rfl) ?_
  refine s_run rfl rfl (r_len rfl Try.underlying22) ?_
  refine s_run rfl rfl (r_lssF rfl rfl (by omega)) ?_
  refine k_nc ?_
  refine k_f rfl ?_
  refine k_exit ?_
  refine c_exit ?_
  refine c_exit ?_
  refine b_hit ?_
  refine c_norm ?_
  refine k_sg ?_
  refine s_run rfl rfl (rab rfl) ?_
  refine k_nc ?_
  refine k_ret ?_
  refine fin1r (v := .bool _) rfl rfl ?_
  exact ⟨rfl, H.only⟩
end Go.Proofs.Ytpbimgopiammaaa
end

section
namespace Go.Proofs.Ytpbimgopiammaaa
open Go.RowKit
set_option maxRecDepth 100000
set_option maxHeartbeats 8000000
theorem ldC_h {b : Nat} {q h h' pk tk : Int → Int} (hq : ∀ k : Nat, k < 4 → h k = h' k) : ldC b q h pk tk = ldC b q h' pk tk := by
 have h0 := hq 0 (by omega)
 have h1 := hq 1 (by omega)
 have h2 := hq 2 (by omega)
 have h3 := hq 3 (by omega)
 unfold ldC
 rw [show h 0 = h' 0 from h0, show h 1 = h' 1 from h1, show h 2 = h' 2 from h2, show h 3 = h' 3 from h3]
theorem oSweepL (p b : Nat) (s : LdS) (N : Nat) (A : Option Addr) (n c : Nat) (live : List Int) (w : World) (hE : Ents (ldE p b s) w) (hok : LdOk N s) (hN : N ≤ 1000) (hS : Sees (Value.int .i64) w (ids (ldE p b s)) A live) (hl : live.length = n) (hn : n ≤ 1000000) (hb : ∀ x ∈ live, wfI x) :
  Calls Try.prog 37 [ptrL p, .slice A n c].toArray w fun e w' => e = .returned (.int .i64 (s.sweep live).2) ∧ Heap w (ids (ldE p b s)) (ldE p b (s.sweep live).1) w' :=
 (oSweep p b s N A n c live w hE hok hN hS hl hn hb).mono fun e w' ⟨he, s', H, h1, h2, h3, h4, h5⟩ => ⟨he, by
  have e : ldE p b s' = ldE p b (s.sweep live).1 := by
   unfold ldE
   rw [h1, h3, h4, h5, ldC_h h2]
   rfl
  rw [← e]; exact H⟩
/-- a call: the state, how many, the error's number -/
def ldDo (s : LdS) (k m a x : Int) (live : List Int) : LdS × Int × Int :=
 if k = 0 then ((s.take m a x).1, 0, (s.take m a x).2)
 else if k = 1 then ((s.give m a).1, (s.give m a).2.1, (s.give m a).2.2)
 else if k = 2 then ((s.pass m x a).1, 0, (s.pass m x a).2)
 else if k = 3 then (if 100 < live.length then (s, 0, 0) else ((s.sweep live).1, (s.sweep live).2, 0))
 else (s, 0, 0)
theorem LdOk.doK {N : Nat} {s : LdS} (h : LdOk N s) (k m a x : Int) (live : List Int) (ha : wfI a) : LdOk (N + 1) (ldDo s k m a x live).1 := by
 unfold ldDo
 split
 ·exact h.take m a x ha
 split
 ·exact (h.give m a).mono (by omega)
 split
 ·exact h.pass m x a ha
 split
 ·split
  ·exact h.mono (by omega)
  ·exact (h.sweep live).mono (by omega)
 ·exact h.mono (by omega)
theorem DocOk.on {I K : List Nat} {L : List Ent} {w W : World} {A : Option Addr} {n c : Nat} {s : LdS} (h : DocOk K w A n c s) (H : Heap w I L W) (hIK : ∀ i ∈ I, i ∈ K) : DocOk (K ++ ids L) W A n c s :=
 ⟨(h.sees.news (G := K ++ ids L) (fun i hi => by
  rcases List.mem_append.1 hi with h1 | h1
  ·exact .inl h1
  ·exact (H.own i h1).imp (hIK i) id)).later H.only (fun i hi => List.mem_append_left _ (hIK i hi)), h.len, h.cap⟩
theorem DocOk.off {I J : List Nat} {w W : World} {A : Option Addr} {n c : Nat} {s : LdS} (h : DocOk (I ++ J) w A n c s) (hO : Only J w W) : DocOk I W A n c s :=
 ⟨(h.sees.later hO (fun i hi => List.mem_append_right _ hi)).mono (fun i hi => List.mem_append_left _ hi), h.len, h.cap⟩
theorem DocOk.mono {I J : List Nat} {w : World} {A : Option Addr} {n c : Nat} {s : LdS} (h : DocOk I w A n c s) (hJ : ∀ i ∈ J, i ∈ I) : DocOk J w A n c s := ⟨h.sees.mono hJ, h.len, h.cap⟩
theorem on_lt {I K : List Nat} {L : List Ent} {w W : World} (hK : ∀ i ∈ K, i < w.heap.size) (H : Heap w I L W) : ∀ i ∈ K ++ ids L, i < W.heap.size := fun i hi => by
 rcases List.mem_append.1 hi with h | h
 ·exact Nat.lt_of_lt_of_le (hK i h) H.only.size
 ·exact H.idlt i h
theorem lDo {I K : List Nat} (p b : Nat) (s t : LdS) (N M : Nat) (A : Option Addr) (n c : Nat) (k m a x : Int) (LA : Option Addr) (ln lc : Nat) (live : List Int) (w : World) (hE : Ents (ldE p b s) w) (hI : ids (ldE p b s) = I) (hIK : ∀ i ∈ I, i ∈ K) (hK : ∀ i ∈ K, i < w.heap.size) (hD : DocOk K w A n c t) (hs : LdOk N s) (ht : LdOk M t) (hN : N ≤ 900) (hM : M ≤ 900)
  (ha : wfI a) (hSl : Sees (Value.int .i64) w I LA live) (hll : live.length = ln) (hlb : ∀ x ∈ live, wfI x) :
  Calls Try.prog 10 [ptrL p, docV A n c t, .agg [.int .i64 k, .int .i64 m, .int .i64 a, .int .i64 x, .slice LA ln lc].toArray].toArray w fun e w' => ∃ A' n' c', e = .returned (.tuple [docV A' n' c' (ldDo t k m a x live).1, .bool (decide ((ldDo s k m a x live).2 = (ldDo t k m a x live).2))].toArray) ∧ DocOk K w' A' n' c' (ldDo t k m a x live).1 ∧ Heap w I (ldE p b (ldDo s k m a x live).1) w' := by
 have hlt := hK
 have H : Heap w I [grp (ldE p b s)] w := by rw [← hI]; exact grp_start hE
 have hids : ∀ s', ids (ldE p b s') = I := fun s' => by rw [← hI]; rfl
 unfold docV
 unfold ldDo
 by_cases k0 : k = 0
 ·rw [if_pos k0, if_pos k0]
  have hT := fun {W : World} hE => oTake p b s N m a x W hE hs (by omega) ha
  have hT2 := fun {L} {W : World} (H : Heap w I L W) => rTake (hD.on H hIK) (on_lt hlt H) ht (by omega) m a x
  unfold docV at hT2
  rw [hids] at hT
  by_cases hc : (s.take m a x).2 = (t.take m a x).2
  ·rw [decide_eq_true (by rw [hc])]
   refine k_in (N := 105) Try.func10 rfl rfl rfl ?_
   refine k_sg ?_
   refine s_box H rfl rfl ?_
   intro p4 _ H'; clear H; have H := H'; clear H'
   refine s_box H rfl rfl ?_
   intro p5 _ H'; clear H; have H := H'; clear H'
   refine s_al H rfl inf31 ?_
   intro p6 _ H'; clear H; have H := H'; clear H'
   refine s_run rfl rfl (rab rfl) ?_
   refine k_nc ?_
   refine k_sg ?_
   refine s_run rfl rfl (rai rfl) ?_
   refine s_run rfl rfl (rai rfl) ?_
   refine s_run rfl rfl (rai rfl) ?_
   refine s_run rfl rfl (rai rfl) ?_
   refine k_nc ?_
   refine k_seq ?_
   refine k_sg ?_
   refine s_run rfl rfl (r_fa0 rfl fo36_0) ?_
   refine s_run rfl rfl (r_lo H 1 rfl rfl rfl ag3) ?_
   refine k_nc ?_
   refine k_b ?_
   refine k_sg ?_
   refine s_run rfl rfl (r_eqlT rfl rfl (by omega)) ?_
   refine s_run rfl rfl (rab rfl) ?_
   refine k_nc ?_
   refine k_t rfl ?_
   refine k_sg ?_
   refine s_run rfl rfl (rmp rfl) ?_
   refine s_run rfl rfl (r_fa0 rfl fo36_1) ?_
   refine s_run rfl rfl (r_lo H 1 rfl rfl rfl ag3) ?_
   refine s_run rfl rfl (r_fa0 rfl fo36_2) ?_
   refine s_run rfl rfl (r_lo H 1 rfl rfl rfl ag3) ?_
   refine s_run rfl rfl (r_fa0 rfl fo36_3) ?_
   refine s_run rfl rfl (r_lo H 1 rfl rfl rfl ag3) ?_
   refine s_call rfl (hT (H.grp_ents 3 rfl)) (ca16 rfl) ?_
   rintro e W1 ⟨rfl, H'⟩
   refine ⟨_, rfl, ?_⟩
   have H := H.grp_at 3 rfl ((hids s).symm ▸ H'); clear H'; simp only [List.set_cons_zero, List.set_cons_succ] at H
   refine s_run rfl rfl (rai rfl) ?_
   refine k_nc ?_
   refine k_rg ?_
   refine s_run rfl rfl (r_la H 2 rfl rfl rfl ag31 sz31) ?_
   refine s_run rfl rfl (r_fa0 rfl fo36_1) ?_
   refine s_run rfl rfl (r_lo H 1 rfl rfl rfl ag3) ?_
   refine s_run rfl rfl (r_fa0 rfl fo36_2) ?_
   refine s_run rfl rfl (r_lo H 1 rfl rfl rfl ag3) ?_
   refine s_run rfl rfl (r_fa0 rfl fo36_3) ?_
   refine s_run rfl rfl (r_lo H 1 rfl rfl rfl ag3) ?_
   refine s_call rfl (hT2 H) (ca34 rfl) ?_
   rintro e W1 ⟨A2, n2, c2, rfl, hD2, H'⟩
   refine ⟨_, rfl, ?_⟩
   have HB := H.same H'; clear H; have H := Heap.start HB.ents; clear H'
   refine s_run rfl rfl (rmt rfl) ?_
   refine s_run rfl rfl (r_ext (v := .agg _) rfl rfl) ?_
   refine s_run rfl rfl (r_ext (v := .int _ _) rfl rfl) ?_
   refine s_sw H 2 rfl rfl rfl rfl rfl rfl rfl sz31 ?_
   clear H; intro _ H; simp only [jA, jB, jC, jD, jE, jF, jG, jH, jI, jJ, jK, Nat.reduceAdd] at H
   refine s_run rfl rfl (rai rfl) ?_
   refine k_nil ?_
   refine b_norm ?_
   refine c_norm ?_
   refine k_sg ?_
   refine s_run rfl rfl (r_la H 2 rfl rfl rfl ag31 sz31) ?_
   refine s_run rfl rfl (rmi rfl) ?_
   refine s_run rfl rfl (rmi rfl) ?_
   refine s_run rfl rfl (r_eqlT rfl rfl (by omega)) ?_
   refine s_run rfl rfl (rmb rfl) ?_
   refine s_run rfl (g_on 100 (by kernel_rfl) rfl) (rmi rfl) ?_
   refine s_run rfl (g_on 100 (by kernel_rfl) rfl) (rmi rfl) ?_
   refine s_run rfl (g_on 100 (by kernel_rfl) rfl) (r_eqlT rfl rfl (by omega)) ?_
   refine s_run rfl rfl (r_pkT (v := .bool _) rfl rfl) ?_
   refine s_sw H 0 rfl rfl rfl rfl rfl rfl rfl sz31 ?_
   clear H; intro _ H; simp only [jA, jB, jC, jD, jE, jF, jG, jH, jI, jJ, jK, Nat.reduceAdd] at H
   refine s_run rfl rfl (rab rfl) ?_
   refine k_nc ?_
   refine k_ret ?_
   refine fx2r rfl (rv_a H 0 rfl rfl rfl ag31 sz31) (rv_t (v := .bool _) rfl) ?_
   exact ⟨_, _, _, rfl, hD2.off H.only, grp_open (Heap.subl (HB.whole H) [3] rfl rfl)⟩
  ·rw [decide_eq_false (fun e => hc (by injection e))]
   refine k_in (N := 105) Try.func10 rfl rfl rfl ?_
   refine k_sg ?_
   refine s_box H rfl rfl ?_
   intro p4 _ H'; clear H; have H := H'; clear H'
   refine s_box H rfl rfl ?_
   intro p5 _ H'; clear H; have H := H'; clear H'
   refine s_al H rfl inf31 ?_
   intro p6 _ H'; clear H; have H := H'; clear H'
   refine s_run rfl rfl (rab rfl) ?_
   refine k_nc ?_
   refine k_sg ?_
   refine s_run rfl rfl (rai rfl) ?_
   refine s_run rfl rfl (rai rfl) ?_
   refine s_run rfl rfl (rai rfl) ?_
   refine s_run rfl rfl (rai rfl) ?_
   refine k_nc ?_
   refine k_seq ?_
   refine k_sg ?_
   refine s_run rfl rfl (r_fa0 rfl fo36_0) ?_
   refine s_run rfl rfl (r_lo H 1 rfl rfl rfl ag3) ?_
   refine k_nc ?_
   refine k_b ?_
   refine k_sg ?_
   refine s_run rfl rfl (r_eqlT rfl rfl (by omega)) ?_
   refine s_run rfl rfl (rab rfl) ?_
   refine k_nc ?_
   refine k_t rfl ?_
   refine k_sg ?_
   refine s_run rfl rfl (rmp rfl) ?_
   refine s_run rfl rfl (r_fa0 rfl fo36_1) ?_
   refine s_run rfl rfl (r_lo H 1 rfl rfl rfl ag3) ?_
   refine s_run rfl rfl (r_fa0 rfl fo36_2) ?_
   refine s_run rfl rfl (r_lo H 1 rfl rfl rfl ag3) ?_
   refine s_run rfl rfl (r_fa0 rfl fo36_3) ?_
   refine s_run rfl rfl (r_lo H 1 rfl rfl rfl ag3) ?_
   refine s_call rfl (hT (H.grp_ents 3 rfl)) (ca16 rfl) ?_
   rintro e W1 ⟨rfl, H'⟩
   refine ⟨_, rfl, ?_⟩
   have H := H.grp_at 3 rfl ((hids s).symm ▸ H'); clear H'; simp only [List.set_cons_zero, List.set_cons_succ] at H
   refine s_run rfl rfl (rai rfl) ?_
   refine k_nc ?_
   refine k_rg ?_
   refine s_run rfl rfl (r_la H 2 rfl rfl rfl ag31 sz31) ?_
   refine s_run rfl rfl (r_fa0 rfl fo36_1) ?_
   refine s_run rfl rfl (r_lo H 1 rfl rfl rfl ag3) ?_
   refine s_run rfl rfl (r_fa0 rfl fo36_2) ?_
   refine s_run rfl rfl (r_lo H 1 rfl rfl rfl ag3) ?_
   refine s_run rfl rfl (r_fa0 rfl fo36_3) ?_
   refine s_run rfl rfl (r_lo H 1 rfl rfl rfl ag3) ?_
   refine s_call rfl (hT2 H) (ca34 rfl) ?_
   rintro e W1 ⟨A2, n2, c2, rfl, hD2, H'⟩
   refine ⟨_, rfl, ?_⟩
   have HB := H.same H'; clear H; have H := Heap.start HB.ents; clear H'
   refine s_run rfl rfl (rmt rfl) ?_
   refine s_run rfl rfl (r_ext (v := .agg _) rfl rfl) ?_
   refine s_run rfl rfl (r_ext (v := .int _ _) rfl rfl) ?_
   refine s_sw H 2 rfl rfl rfl rfl rfl rfl rfl sz31 ?_
   clear H; intro _ H; simp only [jA, jB, jC, jD, jE, jF, jG, jH, jI, jJ, jK, Nat.reduceAdd] at H
   refine s_run rfl rfl (rai rfl) ?_
   refine k_nil ?_
   refine b_norm ?_
   refine c_norm ?_
   refine k_sg ?_
   refine s_run rfl rfl (r_la H 2 rfl rfl rfl ag31 sz31) ?_
   refine s_run rfl rfl (rmi rfl) ?_
   refine s_run rfl rfl (rmi rfl) ?_
   refine s_run rfl rfl (r_eqlT rfl rfl (by omega)) ?_
   refine s_run rfl rfl (rmb rfl) ?_
   refine s_run rfl (g_on 100 (by kernel_rfl) rfl) (rmi rfl) ?_
   refine s_run rfl (g_on 100 (by kernel_rfl) rfl) (rmi rfl) ?_
   refine s_run rfl (g_on 100 (by kernel_rfl) rfl) (r_eqlF rfl rfl (by omega)) ?_
   refine s_run rfl rfl (r_pkT (v := .bool _) rfl rfl) ?_
   refine s_sw H 0 rfl rfl rfl rfl rfl rfl rfl sz31 ?_
   clear H; intro _ H; simp only [jA, jB, jC, jD, jE, jF, jG, jH, jI, jJ, jK, Nat.reduceAdd] at H
   refine s_run rfl rfl (rab rfl) ?_
   refine k_nc ?_
   refine k_ret ?_
   refine fx2r rfl (rv_a H 0 rfl rfl rfl ag31 sz31) (rv_t (v := .bool _) rfl) ?_
   exact ⟨_, _, _, rfl, hD2.off H.only, grp_open (Heap.subl (HB.whole H) [3] rfl rfl)⟩
 rw [if_neg k0, if_neg k0]
 by_cases k1 : k = 1
 ·rw [if_pos k1, if_pos k1]
  have hT := fun {W : World} hE => oGive p b s N m a W hE hs (by omega) ha
  have hT2 := fun {L} {W : World} (H : Heap w I L W) => rGive (hD.on H hIK) (on_lt hlt H) ht (by omega) m a
  unfold docV at hT2
  rw [hids] at hT
  by_cases hc1 : (s.give m a).2.1 = (t.give m a).2.1
  ·by_cases hc2 : (s.give m a).2.2 = (t.give m a).2.2
   ·rw [decide_eq_true (by rw [hc1, hc2])]
    refine k_in (N := 105) Try.func10 rfl rfl rfl ?_
    refine k_sg ?_
    refine s_box H rfl rfl ?_
    intro p4 _ H'; clear H; have H := H'; clear H'
    refine s_box H rfl rfl ?_
    intro p5 _ H'; clear H; have H := H'; clear H'
    refine s_al H rfl inf31 ?_
    intro p6 _ H'; clear H; have H := H'; clear H'
    refine s_run rfl rfl (rab rfl) ?_
    refine k_nc ?_
    refine k_sg ?_
    refine s_run rfl rfl (rai rfl) ?_
    refine s_run rfl rfl (rai rfl) ?_
    refine s_run rfl rfl (rai rfl) ?_
    refine s_run rfl rfl (rai rfl) ?_
    refine k_nc ?_
    refine k_seq ?_
    refine k_sg ?_
    refine s_run rfl rfl (r_fa0 rfl fo36_0) ?_
    refine s_run rfl rfl (r_lo H 1 rfl rfl rfl ag3) ?_
    refine k_nc ?_
    refine k_b ?_
    refine k_sg ?_
    refine s_run rfl rfl (r_eqlF rfl rfl (by omega)) ?_
    refine s_run rfl rfl (rab rfl) ?_
    refine k_nc ?_
    refine k_f rfl ?_
    refine k_sg ?_
    refine s_run rfl rfl (r_eqlT rfl rfl (by omega)) ?_
    refine s_run rfl rfl (rab rfl) ?_
    refine k_nc ?_
    refine k_t rfl ?_
    refine k_sg ?_
    refine s_run rfl rfl (rmp rfl) ?_
    refine s_run rfl rfl (r_fa0 rfl fo36_1) ?_
    refine s_run rfl rfl (r_lo H 1 rfl rfl rfl ag3) ?_
    refine s_run rfl rfl (r_fa0 rfl fo36_2) ?_
    refine s_run rfl rfl (r_lo H 1 rfl rfl rfl ag3) ?_
    refine s_call rfl (hT (H.grp_ents 3 rfl)) (ca15 rfl) ?_
    rintro e W1 ⟨rfl, H'⟩
    refine ⟨_, rfl, ?_⟩
    have H := H.grp_at 3 rfl ((hids s).symm ▸ H'); clear H'; simp only [List.set_cons_zero, List.set_cons_succ] at H
    refine s_run rfl rfl (rmt rfl) ?_
    refine s_run rfl rfl (r_ext (v := .int _ _) rfl rfl) ?_
    refine s_run rfl rfl (r_ext (v := .int _ _) rfl rfl) ?_
    refine s_run rfl rfl (rai rfl) ?_
    refine s_run rfl rfl (rai rfl) ?_
    refine k_nc ?_
    refine k_rg ?_
    refine s_run rfl rfl (r_la H 2 rfl rfl rfl ag31 sz31) ?_
    refine s_run rfl rfl (r_fa0 rfl fo36_1) ?_
    refine s_run rfl rfl (r_lo H 1 rfl rfl rfl ag3) ?_
    refine s_run rfl rfl (r_fa0 rfl fo36_2) ?_
    refine s_run rfl rfl (r_lo H 1 rfl rfl rfl ag3) ?_
    refine s_call rfl (hT2 H) (ca35 rfl) ?_
    rintro e W1 ⟨A2, n2, c2, rfl, hD2, H'⟩
    refine ⟨_, rfl, ?_⟩
    have HB := H.same H'; clear H; have H := Heap.start HB.ents; clear H'
    refine s_run rfl rfl (rmt rfl) ?_
    refine s_run rfl rfl (r_ext (v := .agg _) rfl rfl) ?_
    refine s_run rfl rfl (r_ext (v := .int _ _) rfl rfl) ?_
    refine s_run rfl rfl (r_ext (v := .int _ _) rfl rfl) ?_
    refine s_sw H 2 rfl rfl rfl rfl rfl rfl rfl sz31 ?_
    clear H; intro _ H; simp only [jA, jB, jC, jD, jE, jF, jG, jH, jI, jJ, jK, Nat.reduceAdd] at H
    refine s_run rfl rfl (rai rfl) ?_
    refine s_run rfl rfl (rai rfl) ?_
    refine k_nil ?_
    refine b_norm ?_
    refine c_norm ?_
    refine k_sg ?_
    refine s_run rfl rfl (r_la H 2 rfl rfl rfl ag31 sz31) ?_
    refine s_run rfl rfl (rmi rfl) ?_
    refine s_run rfl rfl (rmi rfl) ?_
    refine s_run rfl rfl (r_eqlT rfl rfl (by omega)) ?_
    refine s_run rfl rfl (rmb rfl) ?_
    refine s_run rfl (g_on 100 (by kernel_rfl) rfl) (rmi rfl) ?_
    refine s_run rfl (g_on 100 (by kernel_rfl) rfl) (rmi rfl) ?_
    refine s_run rfl (g_on 100 (by kernel_rfl) rfl) (r_eqlT rfl rfl (by omega)) ?_
    refine s_run rfl rfl (r_pkT (v := .bool _) rfl rfl) ?_
    refine s_sw H 0 rfl rfl rfl rfl rfl rfl rfl sz31 ?_
    clear H; intro _ H; simp only [jA, jB, jC, jD, jE, jF, jG, jH, jI, jJ, jK, Nat.reduceAdd] at H
    refine s_run rfl rfl (rab rfl) ?_
    refine k_nc ?_
    refine k_ret ?_
    refine fx2r rfl (rv_a H 0 rfl rfl rfl ag31 sz31) (rv_t (v := .bool _) rfl) ?_
    exact ⟨_, _, _, rfl, hD2.off H.only, grp_open (Heap.subl (HB.whole H) [3] rfl rfl)⟩
   ·rw [decide_eq_false (fun e => hc2 (by injection e))]
    refine k_in (N := 105) Try.func10 rfl rfl rfl ?_
    refine k_sg ?_
    refine s_box H rfl rfl ?_
    intro p4 _ H'; clear H; have H := H'; clear H'
    refine s_box H rfl rfl ?_
    intro p5 _ H'; clear H; have H := H'; clear H'
    refine s_al H rfl inf31 ?_
    intro p6 _ H'; clear H; have H := H'; clear H'
    refine s_run rfl rfl (rab rfl) ?_
    refine k_nc ?_
    refine k_sg ?_
    refine s_run rfl rfl (rai rfl) ?_
    refine s_run rfl rfl (rai rfl) ?_
    refine s_run rfl rfl (rai rfl) ?_
    refine s_run rfl rfl (rai rfl) ?_
    refine k_nc ?_
    refine k_seq ?_
    refine k_sg ?_
    refine s_run rfl rfl (r_fa0 rfl fo36_0) ?_
    refine s_run rfl rfl (r_lo H 1 rfl rfl rfl ag3) ?_
    refine k_nc ?_
    refine k_b ?_
    refine k_sg ?_
    refine s_run rfl rfl (r_eqlF rfl rfl (by omega)) ?_
    refine s_run rfl rfl (rab rfl) ?_
    refine k_nc ?_
    refine k_f rfl ?_
    refine k_sg ?_
    refine s_run rfl rfl (r_eqlT rfl rfl (by omega)) ?_
    refine s_run rfl rfl (rab rfl) ?_
    refine k_nc ?_
    refine k_t rfl ?_
    refine k_sg ?_
    refine s_run rfl rfl (rmp rfl) ?_
    refine s_run rfl rfl (r_fa0 rfl fo36_1) ?_
    refine s_run rfl rfl (r_lo H 1 rfl rfl rfl ag3) ?_
    refine s_run rfl rfl (r_fa0 rfl fo36_2) ?_
    refine s_run rfl rfl (r_lo H 1 rfl rfl rfl ag3) ?_
    refine s_call rfl (hT (H.grp_ents 3 rfl)) (ca15 rfl) ?_
    rintro e W1 ⟨rfl, H'⟩
    refine ⟨_, rfl, ?_⟩
    have H := H.grp_at 3 rfl ((hids s).symm ▸ H'); clear H'; simp only [List.set_cons_zero, List.set_cons_succ] at H
    refine s_run rfl rfl (rmt rfl) ?_
    refine s_run rfl rfl (r_ext (v := .int _ _) rfl rfl) ?_
    refine s_run rfl rfl (r_ext (v := .int _ _) rfl rfl) ?_
    refine s_run rfl rfl (rai rfl) ?_
    refine s_run rfl rfl (rai rfl) ?_
    refine k_nc ?_
    refine k_rg ?_
    refine s_run rfl rfl (r_la H 2 rfl rfl rfl ag31 sz31) ?_
    refine s_run rfl rfl (r_fa0 rfl fo36_1) ?_
    refine s_run rfl rfl (r_lo H 1 rfl rfl rfl ag3) ?_
    refine s_run rfl rfl (r_fa0 rfl fo36_2) ?_
    refine s_run rfl rfl (r_lo H 1 rfl rfl rfl ag3) ?_
    refine s_call rfl (hT2 H) (ca35 rfl) ?_
    rintro e W1 ⟨A2, n2, c2, rfl, hD2, H'⟩
    refine ⟨_, rfl, ?_⟩
    have HB := H.same H'; clear H; have H := Heap.start HB.ents; clear H'
    refine s_run rfl rfl (rmt rfl) ?_
    refine s_run rfl rfl (r_ext (v := .agg _) rfl rfl) ?_
    refine s_run rfl rfl (r_ext (v := .int _ _) rfl rfl) ?_
    refine s_run rfl rfl (r_ext (v := .int _ _) rfl rfl) ?_
    refine s_sw H 2 rfl rfl rfl rfl rfl rfl rfl sz31 ?_
    clear H; intro _ H; simp only [jA, jB, jC, jD, jE, jF, jG, jH, jI, jJ, jK, Nat.reduceAdd] at H
    refine s_run rfl rfl (rai rfl) ?_
    refine s_run rfl rfl (rai rfl) ?_
    refine k_nil ?_
    refine b_norm ?_
    refine c_norm ?_
    refine k_sg ?_
    refine s_run rfl rfl (r_la H 2 rfl rfl rfl ag31 sz31) ?_
    refine s_run rfl rfl (rmi rfl) ?_
    refine s_run rfl rfl (rmi rfl) ?_
    refine s_run rfl rfl (r_eqlT rfl rfl (by omega)) ?_
    refine s_run rfl rfl (rmb rfl) ?_
    refine s_run rfl (g_on 100 (by kernel_rfl) rfl) (rmi rfl) ?_
    refine s_run rfl (g_on 100 (by kernel_rfl) rfl) (rmi rfl) ?_
    refine s_run rfl (g_on 100 (by kernel_rfl) rfl) (r_eqlF rfl rfl (by omega)) ?_
    refine s_run rfl rfl (r_pkT (v := .bool _) rfl rfl) ?_
    refine s_sw H 0 rfl rfl rfl rfl rfl rfl rfl sz31 ?_
    clear H; intro _ H; simp only [jA, jB, jC, jD, jE, jF, jG, jH, jI, jJ, jK, Nat.reduceAdd] at H
    refine s_run rfl rfl (rab rfl) ?_
    refine k_nc ?_
    refine k_ret ?_
    refine fx2r rfl (rv_a H 0 rfl rfl rfl ag31 sz31) (rv_t (v := .bool _) rfl) ?_
    exact ⟨_, _, _, rfl, hD2.off H.only, grp_open (Heap.subl (HB.whole H) [3] rfl rfl)⟩
  ·rw [decide_eq_false (fun e => hc1 (by injection e))]
   refine k_in (N := 105) Try.func10 rfl rfl rfl ?_
   refine k_sg ?_
   refine s_box H rfl rfl ?_
   intro p4 _ H'; clear H; have H := H'; clear H'
   refine s_box H rfl rfl ?_
   intro p5 _ H'; clear H; have H := H'; clear H'
   refine s_al H rfl inf31 ?_
   intro p6 _ H'; clear H; have H := H'; clear H'
   refine s_run rfl rfl (rab rfl) ?_
   refine k_nc ?_
   refine k_sg ?_
   refine s_run rfl rfl (rai rfl) ?_
   refine s_run rfl rfl (rai rfl) ?_
   refine s_run rfl rfl (rai rfl) ?_
   refine s_run rfl rfl (rai rfl) ?_
   refine k_nc ?_
   refine k_seq ?_
   refine k_sg ?_
   refine s_run rfl rfl (r_fa0 rfl fo36_0) ?_
   refine s_run rfl rfl (r_lo H 1 rfl rfl rfl ag3) ?_
   refine k_nc ?_
   refine k_b ?_
   refine k_sg ?_
   refine s_run rfl rfl (r_eqlF rfl rfl (by omega)) ?_
   refine s_run rfl rfl (rab rfl) ?_
   refine k_nc ?_
   refine k_f rfl ?_
   refine k_sg ?_
   refine s_run rfl rfl (r_eqlT rfl rfl (by omega)) ?_
   refine s_run rfl rfl (rab rfl) ?_
   refine k_nc ?_
   refine k_t rfl ?_
   refine k_sg ?_
   refine s_run rfl rfl (rmp rfl) ?_
   refine s_run rfl rfl (r_fa0 rfl fo36_1) ?_
   refine s_run rfl rfl (r_lo H 1 rfl rfl rfl ag3) ?_
   refine s_run rfl rfl (r_fa0 rfl fo36_2) ?_
   refine s_run rfl rfl (r_lo H 1 rfl rfl rfl ag3) ?_
   refine s_call rfl (hT (H.grp_ents 3 rfl)) (ca15 rfl) ?_
   rintro e W1 ⟨rfl, H'⟩
   refine ⟨_, rfl, ?_⟩
   have H := H.grp_at 3 rfl ((hids s).symm ▸ H'); clear H'; simp only [List.set_cons_zero, List.set_cons_succ] at H
   refine s_run rfl rfl (rmt rfl) ?_
   refine s_run rfl rfl (r_ext (v := .int _ _) rfl rfl) ?_
   refine s_run rfl rfl (r_ext (v := .int _ _) rfl rfl) ?_
   refine s_run rfl rfl (rai rfl) ?_
   refine s_run rfl rfl (rai rfl) ?_
   refine k_nc ?_
   refine k_rg ?_
   refine s_run rfl rfl (r_la H 2 rfl rfl rfl ag31 sz31) ?_
   refine s_run rfl rfl (r_fa0 rfl fo36_1) ?_
   refine s_run rfl rfl (r_lo H 1 rfl rfl rfl ag3) ?_
   refine s_run rfl rfl (r_fa0 rfl fo36_2) ?_
   refine s_run rfl rfl (r_lo H 1 rfl rfl rfl ag3) ?_
   refine s_call rfl (hT2 H) (ca35 rfl) ?_
   rintro e W1 ⟨A2, n2, c2, rfl, hD2, H'⟩
   refine ⟨_, rfl, ?_⟩
   have HB := H.same H'; clear H; have H := Heap.start HB.ents; clear H'
   refine s_run rfl rfl (rmt rfl) ?_
   refine s_run rfl rfl (r_ext (v := .agg _) rfl rfl) ?_
   refine s_run rfl rfl (r_ext (v := .int _ _) rfl rfl) ?_
   refine s_run rfl rfl (r_ext (v := .int _ _) rfl rfl) ?_
   refine s_sw H 2 rfl rfl rfl rfl rfl rfl rfl sz31 ?_
   clear H; intro _ H; simp only [jA, jB, jC, jD, jE, jF, jG, jH, jI, jJ, jK, Nat.reduceAdd] at H
   refine s_run rfl rfl (rai rfl) ?_
   refine s_run rfl rfl (rai rfl) ?_
   refine k_nil ?_
   refine b_norm ?_
   refine c_norm ?_
   refine k_sg ?_
   refine s_run rfl rfl (r_la H 2 rfl rfl rfl ag31 sz31) ?_
   refine s_run rfl rfl (rmi rfl) ?_
   refine s_run rfl rfl (rmi rfl) ?_
   refine s_run rfl rfl (r_eqlF rfl rfl (by omega)) ?_
   refine s_run rfl rfl (rmb rfl) ?_
   refine s_off rfl (g_off 100 (by kernel_rfl) rfl rfl) ?_
   refine s_off rfl (g_off 100 (by kernel_rfl) rfl rfl) ?_
   refine s_off rfl (g_off 100 (by kernel_rfl) rfl rfl) ?_
   refine s_run rfl rfl (r_pkF (v := .bool _) rfl rfl) ?_
   refine s_sw H 0 rfl rfl rfl rfl rfl rfl rfl sz31 ?_
   clear H; intro _ H; simp only [jA, jB, jC, jD, jE, jF, jG, jH, jI, jJ, jK, Nat.reduceAdd] at H
   refine s_run rfl rfl (rab rfl) ?_
   refine k_nc ?_
   refine k_ret ?_
   refine fx2r rfl (rv_a H 0 rfl rfl rfl ag31 sz31) (rv_t (v := .bool _) rfl) ?_
   exact ⟨_, _, _, rfl, hD2.off H.only, grp_open (Heap.subl (HB.whole H) [3] rfl rfl)⟩
 rw [if_neg k1, if_neg k1]
 by_cases k2 : k = 2
 ·rw [if_pos k2, if_pos k2]
  have hT := fun {W : World} hE => oPass p b s N m x a W hE hs (by omega) ha
  have hT2 := fun {L} {W : World} (H : Heap w I L W) => rPass (hD.on H hIK) (on_lt hlt H) ht (by omega) m x a ha
  unfold docV at hT2
  rw [hids] at hT
  by_cases hc : (s.pass m x a).2 = (t.pass m x a).2
  ·rw [decide_eq_true (by rw [hc])]
   refine k_in (N := 105) Try.func10 rfl rfl rfl ?_
   refine k_sg ?_
   refine s_box H rfl rfl ?_
   intro p4 _ H'; clear H; have H := H'; clear H'
   refine s_box H rfl rfl ?_
   intro p5 _ H'; clear H; have H := H'; clear H'
   refine s_al H rfl inf31 ?_
   intro p6 _ H'; clear H; have H := H'; clear H'
   refine s_run rfl rfl (rab rfl) ?_
   refine k_nc ?_
   refine k_sg ?_
   refine s_run rfl rfl (rai rfl) ?_
   refine s_run rfl rfl (rai rfl) ?_
   refine s_run rfl rfl (rai rfl) ?_
   refine s_run rfl rfl (rai rfl) ?_
   refine k_nc ?_
   refine k_seq ?_
   refine k_sg ?_
   refine s_run rfl rfl (r_fa0 rfl fo36_0) ?_
   refine s_run rfl rfl (r_lo H 1 rfl rfl rfl ag3) ?_
   refine k_nc ?_
   refine k_b ?_
   refine k_sg ?_
   refine s_run rfl rfl (r_eqlF rfl rfl (by omega)) ?_
   refine s_run rfl rfl (rab rfl) ?_
   refine k_nc ?_
   refine k_f rfl ?_
   refine k_sg ?_
   refine s_run rfl rfl (r_eqlF rfl rfl (by omega)) ?_
   refine s_run rfl rfl (rab rfl) ?_
   refine k_nc ?_
   refine k_f rfl ?_
   refine k_sg ?_
   refine s_run rfl rfl (r_eqlT rfl rfl (by omega)) ?_
   refine s_run rfl rfl (rab rfl) ?_
   refine k_nc ?_
   refine k_t rfl ?_
   refine k_sg ?_
   refine s_run rfl rfl (rmp rfl) ?_
   refine s_run rfl rfl (r_fa0 rfl fo36_1) ?_
   refine s_run rfl rfl (r_lo H 1 rfl rfl rfl ag3) ?_
   refine s_run rfl rfl (r_fa0 rfl fo36_3) ?_
   refine s_run rfl rfl (r_lo H 1 rfl rfl rfl ag3) ?_
   refine s_run rfl rfl (r_fa0 rfl fo36_2) ?_
   refine s_run rfl rfl (r_lo H 1 rfl rfl rfl ag3) ?_
   refine s_call rfl (hT (H.grp_ents 3 rfl)) (ca14 rfl) ?_
   rintro e W1 ⟨rfl, H'⟩
   refine ⟨_, rfl, ?_⟩
   have H := H.grp_at 3 rfl ((hids s).symm ▸ H'); clear H'; simp only [List.set_cons_zero, List.set_cons_succ] at H
   refine s_run rfl rfl (rai rfl) ?_
   refine k_nc ?_
   refine k_rg ?_
   refine s_run rfl rfl (r_la H 2 rfl rfl rfl ag31 sz31) ?_
   refine s_run rfl rfl (r_fa0 rfl fo36_1) ?_
   refine s_run rfl rfl (r_lo H 1 rfl rfl rfl ag3) ?_
   refine s_run rfl rfl (r_fa0 rfl fo36_3) ?_
   refine s_run rfl rfl (r_lo H 1 rfl rfl rfl ag3) ?_
   refine s_run rfl rfl (r_fa0 rfl fo36_2) ?_
   refine s_run rfl rfl (r_lo H 1 rfl rfl rfl ag3) ?_
   refine s_call rfl (hT2 H) (ca36 rfl) ?_
   rintro e W1 ⟨A2, n2, c2, rfl, hD2, H'⟩
   refine ⟨_, rfl, ?_⟩
   have HB := H.same H'; clear H; have H := Heap.start HB.ents; clear H'
   refine s_run rfl rfl (rmt rfl) ?_
   refine s_run rfl rfl (r_ext (v := .agg _) rfl rfl) ?_
   refine s_run rfl rfl (r_ext (v := .int _ _) rfl rfl) ?_
   refine s_sw H 2 rfl rfl rfl rfl rfl rfl rfl sz31 ?_
   clear H; intro _ H; simp only [jA, jB, jC, jD, jE, jF, jG, jH, jI, jJ, jK, Nat.reduceAdd] at H
   refine s_run rfl rfl (rai rfl) ?_
   refine k_nil ?_
   refine b_norm ?_
   refine c_norm ?_
   refine k_sg ?_
   refine s_run rfl rfl (r_la H 2 rfl rfl rfl ag31 sz31) ?_
   refine s_run rfl rfl (rmi rfl) ?_
   refine s_run rfl rfl (rmi rfl) ?_
   refine s_run rfl rfl (r_eqlT rfl rfl (by omega)) ?_
   refine s_run rfl rfl (rmb rfl) ?_
   refine s_run rfl (g_on 100 (by kernel_rfl) rfl) (rmi rfl) ?_
   refine s_run rfl (g_on 100 (by kernel_rfl) rfl) (rmi rfl) ?_
   refine s_run rfl (g_on 100 (by kernel_rfl) rfl) (r_eqlT rfl rfl (by omega)) ?_
   refine s_run rfl rfl (r_pkT (v := .bool _) rfl rfl) ?_
   refine s_sw H 0 rfl rfl rfl rfl rfl rfl rfl sz31 ?_
   clear H; intro _ H; simp only [jA, jB, jC, jD, jE, jF, jG, jH, jI, jJ, jK, Nat.reduceAdd] at H
   refine s_run rfl rfl (rab rfl) ?_
   refine k_nc ?_
   refine k_ret ?_
   refine fx2r rfl (rv_a H 0 rfl rfl rfl ag31 sz31) (rv_t (v := .bool _) rfl) ?_
   exact ⟨_, _, _, rfl, hD2.off H.only, grp_open (Heap.subl (HB.whole H) [3] rfl rfl)⟩
  ·rw [decide_eq_false (fun e => hc (by injection e))]
   refine k_in (N := 105) Try.func10 rfl rfl rfl ?_
   refine k_sg ?_
   refine s_box H rfl rfl ?_
   intro p4 _ H'; clear H; have H := H'; clear H'
   refine s_box H rfl rfl ?_
   intro p5 _ H'; clear H; have H := H'; clear H'
   refine s_al H rfl inf31 ?_
   intro p6 _ H'; clear H; have H := H'; clear H'
   refine s_run rfl rfl (rab rfl) ?_
   refine k_nc ?_
   refine k_sg ?_
   refine s_run rfl rfl (rai rfl) ?_
   refine s_run rfl rfl (rai rfl) ?_
   refine s_run rfl rfl (rai rfl) ?_
   refine s_run rfl rfl (rai rfl) ?_
   refine k_nc ?_
   refine k_seq ?_
   refine k_sg ?_
   refine s_run rfl rfl (r_fa0 rfl fo36_0) ?_
   refine s_run rfl rfl (r_lo H 1 rfl rfl rfl ag3) ?_
   refine k_nc ?_
   refine k_b ?_
   refine k_sg ?_
   refine s_run rfl rfl (r_eqlF rfl rfl (by omega)) ?_
   refine s_run rfl rfl (rab rfl) ?_
   refine k_nc ?_
   refine k_f rfl ?_
   refine k_sg ?_
   refine s_run rfl rfl (r_eqlF rfl rfl (by omega)) ?_
   refine s_run rfl rfl (rab rfl) ?_
   refine k_nc ?_
   refine k_f rfl ?_
   refine k_sg ?_
   refine s_run rfl rfl (r_eqlT rfl rfl (by omega)) ?_
   refine s_run rfl rfl (rab rfl) ?_
   refine k_nc ?_
   refine k_t rfl ?_
   refine k_sg ?_
   refine s_run rfl rfl (rmp rfl) ?_
   refine s_run rfl rfl (r_fa0 rfl fo36_1) ?_
   refine s_run rfl rfl (r_lo H 1 rfl rfl rfl ag3) ?_
   refine s_run rfl rfl (r_fa0 rfl fo36_3) ?_
   refine s_run rfl rfl (r_lo H 1 rfl rfl rfl ag3) ?_
   refine s_run rfl rfl (r_fa0 rfl fo36_2) ?_
   refine s_run rfl rfl (r_lo H 1 rfl rfl rfl ag3) ?_
   refine s_call rfl (hT (H.grp_ents 3 rfl)) (ca14 rfl) ?_
   rintro e W1 ⟨rfl, H'⟩
   refine ⟨_, rfl, ?_⟩
   have H := H.grp_at 3 rfl ((hids s).symm ▸ H'); clear H'; simp only [List.set_cons_zero, List.set_cons_succ] at H
   refine s_run rfl rfl (rai rfl) ?_
   refine k_nc ?_
   refine k_rg ?_
   refine s_run rfl rfl (r_la H 2 rfl rfl rfl ag31 sz31) ?_
   refine s_run rfl rfl (r_fa0 rfl fo36_1) ?_
   refine s_run rfl rfl (r_lo H 1 rfl rfl rfl ag3) ?_
   refine s_run rfl rfl (r_fa0 rfl fo36_3) ?_
   refine s_run rfl rfl (r_lo H 1 rfl rfl rfl ag3) ?_
   refine s_run rfl rfl (r_fa0 rfl fo36_2) ?_
   refine s_run rfl rfl (r_lo H 1 rfl rfl rfl ag3) ?_
   refine s_call rfl (hT2 H) (ca36 rfl) ?_
   rintro e W1 ⟨A2, n2, c2, rfl, hD2, H'⟩
   refine ⟨_, rfl, ?_⟩
   have HB := H.same H'; clear H; have H := Heap.start HB.ents; clear H'
   refine s_run rfl rfl (rmt rfl) ?_
   refine s_run rfl rfl (r_ext (v := .agg _) rfl rfl) ?_
   refine s_run rfl rfl (r_ext (v := .int _ _) rfl rfl) ?_
   refine s_sw H 2 rfl rfl rfl rfl rfl rfl rfl sz31 ?_
   clear H; intro _ H; simp only [jA, jB, jC, jD, jE, jF, jG, jH, jI, jJ, jK, Nat.reduceAdd] at H
   refine s_run rfl rfl (rai rfl) ?_
   refine k_nil ?_
   refine b_norm ?_
   refine c_norm ?_
   refine k_sg ?_
   refine s_run rfl rfl (r_la H 2 rfl rfl rfl ag31 sz31) ?_
   refine s_run rfl rfl (rmi rfl) ?_
   refine s_run rfl rfl (rmi rfl) ?_
   refine s_run rfl rfl (r_eqlT rfl rfl (by omega)) ?_
   refine s_run rfl rfl (rmb rfl) ?_
   refine s_run rfl (g_on 100 (by kernel_rfl) rfl) (rmi rfl) ?_
   refine s_run rfl (g_on 100 (by kernel_rfl) rfl) (rmi rfl) ?_
   refine s_run rfl (g_on 100 (by kernel_rfl) rfl) (r_eqlF rfl rfl (by omega)) ?_
   refine s_run rfl rfl (r_pkT (v := .bool _) rfl rfl) ?_
   refine s_sw H 0 rfl rfl rfl rfl rfl rfl rfl sz31 ?_
   clear H; intro _ H; simp only [jA, jB, jC, jD, jE, jF, jG, jH, jI, jJ, jK, Nat.reduceAdd] at H
   refine s_run rfl rfl (rab rfl) ?_
   refine k_nc ?_
   refine k_ret ?_
   refine fx2r rfl (rv_a H 0 rfl rfl rfl ag31 sz31) (rv_t (v := .bool _) rfl) ?_
   exact ⟨_, _, _, rfl, hD2.off H.only, grp_open (Heap.subl (HB.whole H) [3] rfl rfl)⟩
 rw [if_neg k2, if_neg k2]
 by_cases k3 : k = 3
 ·rw [if_pos k3, if_pos k3]
  by_cases hbig : 100 < live.length
  ·rw [if_pos hbig, if_pos hbig, decide_eq_true rfl]
   refine k_in (N := 105) Try.func10 rfl rfl rfl ?_
   refine k_sg ?_
   refine s_box H rfl rfl ?_
   intro p4 _ H'; clear H; have H := H'; clear H'
   refine s_box H rfl rfl ?_
   intro p5 _ H'; clear H; have H := H'; clear H'
   refine s_al H rfl inf31 ?_
   intro p6 _ H'; clear H; have H := H'; clear H'
   refine s_run rfl rfl (rab rfl) ?_
   refine k_nc ?_
   refine k_sg ?_
   refine s_run rfl rfl (rai rfl) ?_
   refine s_run rfl rfl (rai rfl) ?_
   refine s_run rfl rfl (rai rfl) ?_
   refine s_run rfl rfl (rai rfl) ?_
   refine k_nc ?_
   refine k_seq ?_
   refine k_sg ?_
   refine s_run rfl rfl (r_fa0 rfl fo36_0) ?_
   refine s_run rfl rfl (r_lo H 1 rfl rfl rfl ag3) ?_
   refine k_nc ?_
   refine k_b ?_
   refine k_sg ?_
   refine s_run rfl rfl (r_eqlF rfl rfl (by omega)) ?_
   refine s_run rfl rfl (rab rfl) ?_
   refine k_nc ?_
   refine k_f rfl ?_
   refine k_sg ?_
   refine s_run rfl rfl (r_eqlF rfl rfl (by omega)) ?_
   refine s_run rfl rfl (rab rfl) ?_
   refine k_nc ?_
   refine k_f rfl ?_
   refine k_sg ?_
   refine s_run rfl rfl (r_eqlF rfl rfl (by omega)) ?_
   refine s_run rfl rfl (rab rfl) ?_
   refine k_nc ?_
   refine k_f rfl ?_
   refine k_sg ?_
   refine s_run rfl rfl (r_eqlT rfl rfl (by omega)) ?_
   refine s_run rfl rfl (rab rfl) ?_
   refine k_nc ?_
   refine k_t rfl ?_
   refine k_seq ?_
   refine k_sg ?_
   refine s_run rfl rfl (r_fa0 rfl fo36_4) ?_
   refine s_run rfl rfl (r_lo H 1 rfl rfl rfl ag22) ?_
   refine s_run rfl rfl (r_len rfl Try.underlying22) ?_
   refine s_run rfl rfl (r_gtrT rfl rfl (by omega)) ?_
   refine k_nc ?_
   refine k_t rfl ?_
   refine k_sg ?_
   refine s_run rfl rfl (r_la H 2 rfl rfl rfl ag31 sz31) ?_
   refine s_sw H 0 rfl rfl rfl rfl rfl rfl rfl sz31 ?_
   clear H; intro _ H; simp only [jA, jB, jC, jD, jE, jF, jG, jH, jI, jJ, jK, Nat.reduceAdd] at H
   refine s_run rfl rfl (rab rfl) ?_
   refine k_nc ?_
   refine k_ret ?_
   refine c_ret ?_
   refine b_ret ?_
   refine c_ret ?_
   refine fx2r rfl (rv_a H 0 rfl rfl rfl ag31 sz31) (rv_t (v := .bool _) rfl) ?_
   exact ⟨_, _, _, rfl, (hD.on H hIK).off (Only.refl _ _), grp_open (Heap.subl H [3] rfl rfl)⟩
  ·rw [if_neg hbig, if_neg hbig]
   have hT := fun {W : World} hE hS => oSweepL p b s N LA ln lc live W hE hs (by omega) hS hll (by omega) hlb
   have hT2 := fun {L} {W : World} (H : Heap w I L W) h => rSweep (hD.on H hIK) (on_lt hlt H) ht (by omega) LA ln lc live h hll (by omega)
   unfold docV at hT2
   rw [hids] at hT
   by_cases hc : (s.sweep live).2 = (t.sweep live).2
   ·rw [decide_eq_true (by rw [hc])]
    refine k_in (N := 105) Try.func10 rfl rfl rfl ?_
    refine k_sg ?_
    refine s_box H rfl rfl ?_
    intro p4 _ H'; clear H; have H := H'; clear H'
    refine s_box H rfl rfl ?_
    intro p5 _ H'; clear H; have H := H'; clear H'
    refine s_al H rfl inf31 ?_
    intro p6 _ H'; clear H; have H := H'; clear H'
    refine s_run rfl rfl (rab rfl) ?_
    refine k_nc ?_
    refine k_sg ?_
    refine s_run rfl rfl (rai rfl) ?_
    refine s_run rfl rfl (rai rfl) ?_
    refine s_run rfl rfl (rai rfl) ?_
    refine s_run rfl rfl (rai rfl) ?_
    refine k_nc ?_
    refine k_seq ?_
    refine k_sg ?_
    refine s_run rfl rfl (r_fa0 rfl fo36_0) ?_
    refine s_run rfl rfl (r_lo H 1 rfl rfl rfl ag3) ?_
    refine k_nc ?_
    refine k_b ?_
    refine k_sg ?_
    refine s_run rfl rfl (r_eqlF rfl rfl (by omega)) ?_
    refine s_run rfl rfl (rab rfl) ?_
    refine k_nc ?_
    refine k_f rfl ?_
    refine k_sg ?_
    refine s_run rfl rfl (r_eqlF rfl rfl (by omega)) ?_
    refine s_run rfl rfl (rab rfl) ?_
    refine k_nc ?_
    refine k_f rfl ?_
    refine k_sg ?_
    refine s_run rfl rfl (r_eqlF rfl rfl (by omega)) ?_
    refine s_run rfl rfl (rab rfl) ?_
    refine k_nc ?_
    refine k_f rfl ?_
    refine k_sg ?_
    refine s_run rfl rfl (r_eqlT rfl rfl (by omega)) ?_
    refine s_run rfl rfl (rab rfl) ?_
    refine k_nc ?_
    refine k_t rfl ?_
    refine k_seq ?_
    refine k_sg ?_
    refine s_run rfl rfl (r_fa0 rfl fo36_4) ?_
    refine s_run rfl rfl (r_lo H 1 rfl rfl rfl ag22) ?_
    refine s_run rfl rfl (r_len rfl Try.underlying22) ?_
    refine s_run rfl rfl (r_gtrF rfl rfl (by omega)) ?_
    refine k_nc ?_
    refine k_f rfl ?_
    refine k_skip ?_
    refine c_norm ?_
    refine k_sg ?_
    refine s_run rfl rfl (rmp rfl) ?_
    refine s_run rfl rfl (r_fa0 rfl fo36_4) ?_
    refine s_run rfl rfl (r_lo H 1 rfl rfl rfl ag22) ?_
    refine s_call rfl (hT (H.grp_ents 3 rfl) (hSl.later H.only (fun _ h => h))) (ca37 rfl) ?_
    rintro e W1 ⟨rfl, H'⟩
    refine ⟨_, rfl, ?_⟩
    have H := H.grp_at 3 rfl ((hids s).symm ▸ H'); clear H'; simp only [List.set_cons_zero, List.set_cons_succ] at H
    refine s_run rfl rfl (rai rfl) ?_
    refine k_nc ?_
    refine k_rg ?_
    refine s_run rfl rfl (r_la H 2 rfl rfl rfl ag31 sz31) ?_
    refine s_run rfl rfl (r_fa0 rfl fo36_4) ?_
    refine s_run rfl rfl (r_lo H 1 rfl rfl rfl ag22) ?_
    refine s_call rfl (hT2 H ((hSl.later H.only (fun _ h => h)).mono (by simp))) (ca38 rfl) ?_
    rintro e W1 ⟨A2, n2, c2, rfl, hD2, H'⟩
    refine ⟨_, rfl, ?_⟩
    have HB := H.same H'; clear H; have H := Heap.start HB.ents; clear H'
    refine s_run rfl rfl (rmt rfl) ?_
    refine s_run rfl rfl (r_ext (v := .agg _) rfl rfl) ?_
    refine s_run rfl rfl (r_ext (v := .int _ _) rfl rfl) ?_
    refine s_sw H 2 rfl rfl rfl rfl rfl rfl rfl sz31 ?_
    clear H; intro _ H; simp only [jA, jB, jC, jD, jE, jF, jG, jH, jI, jJ, jK, Nat.reduceAdd] at H
    refine s_run rfl rfl (rai rfl) ?_
    refine k_nil ?_
    refine b_norm ?_
    refine c_norm ?_
    refine k_sg ?_
    refine s_run rfl rfl (r_la H 2 rfl rfl rfl ag31 sz31) ?_
    refine s_run rfl rfl (rmi rfl) ?_
    refine s_run rfl rfl (rmi rfl) ?_
    refine s_run rfl rfl (r_eqlT rfl rfl (by omega)) ?_
    refine s_run rfl rfl (rmb rfl) ?_
    refine s_run rfl (g_on 100 (by kernel_rfl) rfl) (rmi rfl) ?_
    refine s_run rfl (g_on 100 (by kernel_rfl) rfl) (rmi rfl) ?_
    refine s_run rfl (g_on 100 (by kernel_rfl) rfl) (r_eqlT rfl rfl (by omega)) ?_
    refine s_run rfl rfl (r_pkT (v := .bool _) rfl rfl) ?_
    refine s_sw H 0 rfl rfl rfl rfl rfl rfl rfl sz31 ?_
    clear H; intro _ H; simp only [jA, jB, jC, jD, jE, jF, jG, jH, jI, jJ, jK, Nat.reduceAdd] at H
    refine s_run rfl rfl (rab rfl) ?_
    refine k_nc ?_
    refine k_ret ?_
    refine fx2r rfl (rv_a H 0 rfl rfl rfl ag31 sz31) (rv_t (v := .bool _) rfl) ?_
    exact ⟨_, _, _, rfl, hD2.off H.only, grp_open (Heap.subl (HB.whole H) [3] rfl rfl)⟩
   ·rw [decide_eq_false (fun e => hc (by injection e))]
    refine k_in (N := 105) Try.func10 rfl rfl rfl ?_
    refine k_sg ?_
    refine s_box H rfl rfl ?_
    intro p4 _ H'; clear H; have H := H'; clear H'
    refine s_box H rfl rfl ?_
    intro p5 _ H'; clear H; have H := H'; clear H'
    refine s_al H rfl inf31 ?_
    intro p6 _ H'; clear H; have H := H'; clear H'
    refine s_run rfl rfl (rab rfl) ?_
    refine k_nc ?_
    refine k_sg ?_
    refine s_run rfl rfl (rai rfl) ?_
    refine s_run rfl rfl (rai rfl) ?_
    refine s_run rfl rfl (rai rfl) ?_
    refine s_run rfl rfl (rai rfl) ?_
    refine k_nc ?_
    refine k_seq ?_
    refine k_sg ?_
    refine s_run rfl rfl (r_fa0 rfl fo36_0) ?_
    refine s_run rfl rfl (r_lo H 1 rfl rfl rfl ag3) ?_
    refine k_nc ?_
    refine k_b ?_
    refine k_sg ?_
    refine s_run rfl rfl (r_eqlF rfl rfl (by omega)) ?_
    refine s_run rfl rfl (rab rfl) ?_
    refine k_nc ?_
    refine k_f rfl ?_
    refine k_sg ?_
    refine s_run rfl rfl (r_eqlF rfl rfl (by omega)) ?_
    refine s_run rfl rfl (rab rfl) ?_
    refine k_nc ?_
    refine k_f rfl ?_
    refine k_sg ?_
    refine s_run rfl rfl (r_eqlF rfl rfl (by omega)) ?_
    refine s_run rfl rfl (rab rfl) ?_
    refine k_nc ?_
    refine k_f rfl ?_
    refine k_sg ?_
    refine s_run rfl rfl (r_eqlT rfl rfl (by omega)) ?_
    refine s_run rfl rfl (rab rfl) ?_
    refine k_nc ?_
    refine k_t rfl ?_
    refine k_seq ?_
    refine k_sg ?_
    refine s_run rfl rfl (r_fa0 rfl fo36_4) ?_
    refine s_run rfl rfl (r_lo H 1 rfl rfl rfl ag22) ?_
    refine s_run rfl rfl (r_len rfl Try.underlying22) ?_
    refine s_run rfl rfl (r_gtrF rfl rfl (by omega)) ?_
    refine k_nc ?_
    refine k_f rfl ?_
    refine k_skip ?_
    refine c_norm ?_
    refine k_sg ?_
    refine s_run rfl rfl (rmp rfl) ?_
    refine s_run rfl rfl (r_fa0 rfl fo36_4) ?_
    refine s_run rfl rfl (r_lo H 1 rfl rfl rfl ag22) ?_
    refine s_call rfl (hT (H.grp_ents 3 rfl) (hSl.later H.only (fun _ h => h))) (ca37 rfl) ?_
    rintro e W1 ⟨rfl, H'⟩
    refine ⟨_, rfl, ?_⟩
    have H := H.grp_at 3 rfl ((hids s).symm ▸ H'); clear H'; simp only [List.set_cons_zero, List.set_cons_succ] at H
    refine s_run rfl rfl (rai rfl) ?_
    refine k_nc ?_
    refine k_rg ?_
    refine s_run rfl rfl (r_la H 2 rfl rfl rfl ag31 sz31) ?_
    refine s_run rfl rfl (r_fa0 rfl fo36_4) ?_
    refine s_run rfl rfl (r_lo H 1 rfl rfl rfl ag22) ?_
    refine s_call rfl (hT2 H ((hSl.later H.only (fun _ h => h)).mono (by simp))) (ca38 rfl) ?_
    rintro e W1 ⟨A2, n2, c2, rfl, hD2, H'⟩
    refine ⟨_, rfl, ?_⟩
    have HB := H.same H'; clear H; have H := Heap.start HB.ents; clear H'
    refine s_run rfl rfl (rmt rfl) ?_
    refine s_run rfl rfl (r_ext (v := .agg _) rfl rfl) ?_
    refine s_run rfl rfl (r_ext (v := .int _ _) rfl rfl) ?_
    refine s_sw H 2 rfl rfl rfl rfl rfl rfl rfl sz31 ?_
    clear H; intro _ H; simp only [jA, jB, jC, jD, jE, jF, jG, jH, jI, jJ, jK, Nat.reduceAdd] at H
    refine s_run rfl rfl (rai rfl) ?_
    refine k_nil ?_
    refine b_norm ?_
    refine c_norm ?_
    refine k_sg ?_
    refine s_run rfl rfl (r_la H 2 rfl rfl rfl ag31 sz31) ?_
    refine s_run rfl rfl (rmi rfl) ?_
    refine s_run rfl rfl (rmi rfl) ?_
    refine s_run rfl rfl (r_eqlF rfl rfl (by omega)) ?_
    refine s_run rfl rfl (rmb rfl) ?_
    refine s_off rfl (g_off 100 (by kernel_rfl) rfl rfl) ?_
    refine s_off rfl (g_off 100 (by kernel_rfl) rfl rfl) ?_
    refine s_off rfl (g_off 100 (by kernel_rfl) rfl rfl) ?_
    refine s_run rfl rfl (r_pkF (v := .bool _) rfl rfl) ?_
    refine s_sw H 0 rfl rfl rfl rfl rfl rfl rfl sz31 ?_
    clear H; intro _ H; simp only [jA, jB, jC, jD, jE, jF, jG, jH, jI, jJ, jK, Nat.reduceAdd] at H
    refine s_run rfl rfl (rab rfl) ?_
    refine k_nc ?_
    refine k_ret ?_
    refine fx2r rfl (rv_a H 0 rfl rfl rfl ag31 sz31) (rv_t (v := .bool _) rfl) ?_
    exact ⟨_, _, _, rfl, hD2.off H.only, grp_open (Heap.subl (HB.whole H) [3] rfl rfl)⟩
 ·rw [if_neg k3, if_neg k3, decide_eq_true rfl]
  refine k_in (N := 105) Try.func10 rfl rfl rfl ?_
  refine k_sg ?_
  refine s_box H rfl rfl ?_
  intro p4 _ H'; clear H; have H := H'; clear H'
  refine s_box H rfl rfl ?_
  intro p5 _ H'; clear H; have H := H'; clear H'
  refine s_al H rfl inf31 ?_
  intro p6 _ H'; clear H; have H := H'; clear H'
  refine s_run rfl rfl (rab rfl) ?_
  refine k_nc ?_
  refine k_sg ?_
  refine s_run rfl rfl (rai rfl) ?_
  refine s_run rfl rfl (rai rfl) ?_
  refine s_run rfl rfl (rai rfl) ?_
  refine s_run rfl rfl (rai rfl) ?_
  refine k_nc ?_
  refine k_seq ?_
  refine k_sg ?_
  refine s_run rfl rfl (r_fa0 rfl fo36_0) ?_
  refine s_run rfl rfl (r_lo H 1 rfl rfl rfl ag3) ?_
  refine k_nc ?_
  refine k_b ?_
  refine k_sg ?_
  refine s_run rfl rfl (r_eqlF rfl rfl (by omega)) ?_
  refine s_run rfl rfl (rab rfl) ?_
  refine k_nc ?_
  refine k_f rfl ?_
  refine k_sg ?_
  refine s_run rfl rfl (r_eqlF rfl rfl (by omega)) ?_
  refine s_run rfl rfl (rab rfl) ?_
  refine k_nc ?_
  refine k_f rfl ?_
  refine k_sg ?_
  refine s_run rfl rfl (r_eqlF rfl rfl (by omega)) ?_
  refine s_run rfl rfl (rab rfl) ?_
  refine k_nc ?_
  refine k_f rfl ?_
  refine k_sg ?_
  refine s_run rfl rfl (r_eqlF rfl rfl (by omega)) ?_
  refine s_run rfl rfl (rab rfl) ?_
  refine k_nc ?_
  refine k_f rfl ?_
  refine k_sg ?_
  refine s_run rfl rfl (r_la H 2 rfl rfl rfl ag31 sz31) ?_
  refine s_sw H 0 rfl rfl rfl rfl rfl rfl rfl sz31 ?_
  clear H; intro _ H; simp only [jA, jB, jC, jD, jE, jF, jG, jH, jI, jJ, jK, Nat.reduceAdd] at H
  refine s_run rfl rfl (rab rfl) ?_
  refine k_nc ?_
  refine k_ret ?_
  refine b_ret ?_
  refine c_ret ?_
  refine fx2r rfl (rv_a H 0 rfl rfl rfl ag31 sz31) (rv_t (v := .bool _) rfl) ?_
  exact ⟨_, _, _, rfl, (hD.on H hIK).off (Only.refl _ _), grp_open (Heap.subl H [3] rfl rfl)⟩
end Go.Proofs.Ytpbimgopiammaaa
end
