/-
  LedgerBack: for every input the Go function answers true, and its arguments read afterwards as they read before. No condition.
-/
import Derived.Test.YtpbimgopiammaaaKLedgerBackc
set_option linter.unusedSimpArgs false
set_option linter.unusedVariables false
set_option linter.unusedSectionVars false
section
namespace Go.Proofs.Ytpbimgopiammaaa
open Go.RowKit
set_option maxRecDepth 100000
set_option maxHeartbeats 8000000
theorem ldC_h {b : Nat} {q h h' pk tk : Int → Int} (hq : ∀ k : Nat, k < 4 → h k = h' k) : ldC b q h pk tk = ldC b q h' pk tk := by
 have h0 := hq 0 (by omega)
 have h1 := hq 1 (by omega)
 have h2 := hq 2 (by omega)
 have h3 := hq 3 (by omega)
 unfold ldC
 rw [show h 0 = h' 0 from h0, show h 1 = h' 1 from h1, show h 2 = h' 2 from h2, show h 3 = h' 3 from h3]
theorem oSweepL (p b : Nat) (s : LdS) (N : Nat) (A : Option Addr) (n c : Nat) (live : List Int) (w : World) (hE : Ents (ldE p b s) w) (hok : LdOk N s) (hN : N ≤ 1000) (hS : Sees (Value.int .i64) w (ids (ldE p b s)) A live) (hl : live.length = n) (hn : n ≤ 1000000) (hb : ∀ x ∈ live, wfI x) :
  Calls Try.prog 37 [ptrL p, .slice A n c].toArray w fun e w' => e = .returned (.int .i64 (s.sweep live).2) ∧ Heap w (ids (ldE p b s)) (ldE p b (s.sweep live).1) w' :=
 (oSweep p b s N A n c live w hE hok hN hS hl hn hb).mono fun e w' ⟨he, s', H, h1, h2, h3, h4, h5⟩ => ⟨he, by
  have e : ldE p b s' = ldE p b (s.sweep live).1 := by
   unfold ldE
   rw [h1, h3, h4, h5, ldC_h h2]
   rfl
  rw [← e]; exact H⟩
/-- a call: the state, how many, the error's number -/
def ldDo (s : LdS) (k m a x : Int) (live : List Int) : LdS × Int × Int :=
 if k = 0 then ((s.take m a x).1, 0, (s.take m a x).2)
 else if k = 1 then ((s.give m a).1, (s.give m a).2.1, (s.give m a).2.2)
 else if k = 2 then ((s.pass m x a).1, 0, (s.pass m x a).2)
 else if k = 3 then (if 100 < live.length then (s, 0, 0) else ((s.sweep live).1, (s.sweep live).2, 0))
 else (s, 0, 0)
theorem LdOk.doK {N : Nat} {s : LdS} (h : LdOk N s) (k m a x : Int) (live : List Int) (ha : wfI a) : LdOk (N + 1) (ldDo s k m a x live).1 := by
 unfold ldDo
 split
 ·exact h.take m a x ha
 split
 ·exact (h.give m a).mono (by omega)
 split
 ·exact h.pass m x a ha
 split
 ·split
  ·exact h.mono (by omega)
  ·exact (h.sweep live).mono (by omega)
 ·exact h.mono (by omega)
theorem DocOk.on {I K : List Nat} {L : List Ent} {w W : World} {A : Option Addr} {n c : Nat} {s : LdS} (h : DocOk K w A n c s) (H : Heap w I L W) (hIK : ∀ i ∈ I, i ∈ K) : DocOk (K ++ ids L) W A n c s :=
 ⟨(h.sees.news (G := K ++ ids L) (fun i hi => by
  rcases List.mem_append.1 hi with h1 | h1
  ·exact .inl h1
  ·exact (H.own i h1).imp (hIK i) id)).later H.only (fun i hi => List.mem_append_left _ (hIK i hi)), h.len, h.cap⟩
theorem DocOk.off {I J : List Nat} {w W : World} {A : Option Addr} {n c : Nat} {s : LdS} (h : DocOk (I ++ J) w A n c s) (hO : Only J w W) : DocOk I W A n c s :=
 ⟨(h.sees.later hO (fun i hi => List.mem_append_right _ hi)).mono (fun i hi => List.mem_append_left _ hi), h.len, h.cap⟩
theorem DocOk.mono {I J : List Nat} {w : World} {A : Option Addr} {n c : Nat} {s : LdS} (h : DocOk I w A n c s) (hJ : ∀ i ∈ J, i ∈ I) : DocOk J w A n c s := ⟨h.sees.mono hJ, h.len, h.cap⟩
theorem on_lt {I K : List Nat} {L : List Ent} {w W : World} (hK : ∀ i ∈ K, i < w.heap.size) (H : Heap w I L W) : ∀ i ∈ K ++ ids L, i < W.heap.size := fun i hi => by
 rcases List.mem_append.1 hi with h | h
 ·exact Nat.lt_of_lt_of_le (hK i h) H.only.size
 ·exact H.idlt i h
theorem lDo {I K : List Nat} (p b : Nat) (s t : LdS) (N M : Nat) (A : Option Addr) (n c : Nat) (k m a x : Int) (LA : Option Addr) (ln lc : Nat) (live : List Int) (w : World) (hE : Ents (ldE p b s) w) (hI : ids (ldE p b s) = I) (hIK : ∀ i ∈ I, i ∈ K) (hK : ∀ i ∈ K, i < w.heap.size) (hD : DocOk K w A n c t) (hs : LdOk N s) (ht : LdOk M t) (hN : N ≤ 900) (hM : M ≤ 900)
  (ha : wfI a) (hSl : Sees (Value.int .i64) w I LA live) (hll : live.length = ln) (hlb : ∀ x ∈ live, wfI x) :
  Calls Try.prog 10 [ptrL p, docV A n c t, .agg [.int .i64 k, .int .i64 m, .int .i64 a, .int .i64 x, .slice LA ln lc].toArray].toArray w fun e w' => ∃ A' n' c', e = .returned (.tuple [docV A' n' c' (ldDo t k m a x live).1, .bool (decide ((ldDo s k m a x live).2 = (ldDo t k m a x live).2))].toArray) ∧ DocOk K w' A' n' c' (ldDo t k m a x live).1 ∧ Heap w I (ldE p b (ldDo s k m a x live).1) w' := by
 have hlt := hK
 have H : Heap w I [grp (ldE p b s)] w := by rw [← hI]; exact grp_start hE
 have hids : ∀ s', ids (ldE p b s') = I := fun s' => by rw [← hI]; rfl
 unfold docV
 unfold ldDo
 by_cases k0 : k = 0
 ·rw [if_pos k0, if_pos k0]
  have hT := fun {W : World} hE => oTake p b s N m a x W hE hs (by omega) ha
  have hT2 := fun {L} {W : World} (H : Heap w I L W) => rTake (hD.on H hIK) (on_lt hlt H) ht (by omega) m a x
  unfold docV at hT2
  rw [hids] at hT
  by_cases hc : (s.take m a x).2 = (t.take m a x).2
  ·rw [decide_eq_true (by rw [hc])]
   refine k_in (N := 105) Try.func10 rfl rfl rfl ?_
   refine k_sg ?_
   refine s_box H rfl rfl ?_
   intro p4 _ H'; clear H; have H := H'; clear H'
   refine s_box H rfl rfl ?_
   intro p5 _ H'; clear H; have H := H'; clear H'
   refine s_al H rfl inf31 ?_
   intro p6 _ H'; clear H; have H := H'; clear H'
   refine s_run rfl rfl (rab rfl) ?_
   refine k_nc ?_
   refine k_sg ?_
   refine s_run rfl rfl (rai rfl) ?_
   refine s_run rfl rfl (rai rfl) ?_
   refine s_run rfl rfl (rai rfl) ?_
   refine s_run rfl rfl (rai rfl) ?_
   refine k_nc ?_
   refine k_seq ?_
   refine k_sg ?_
   refine s_run rfl rfl (r_fa0 rfl fo36_0) ?_
   refine s_run rfl rfl (r_lo H 1 rfl rfl rfl ag3) ?_
   refine k_nc ?_
   refine k_b ?_
   refine k_sg ?_
   refine s_run rfl rfl (r_eqlT rfl rfl (by omega)) ?_
   refine s_run rfl rfl (rab rfl) ?_
   refine k_nc ?_
   refine k_t rfl ?_
   refine k_sg ?_
   refine s_run rfl rfl (rmp rfl) ?_
   refine s_run rfl rfl (r_fa0 rfl fo36_1) ?_
   refine s_run rfl rfl (r_lo H 1 rfl rfl rfl ag3) ?_
   refine s_run rfl rfl (r_fa0 rfl fo36_2) ?_
   refine s_run rfl rfl (r_lo H 1 rfl rfl rfl ag3) ?_
   refine s_run rfl rfl (r_fa0 rfl fo36_3) ?_
   refine s_run rfl rfl (r_lo H 1 rfl rfl rfl ag3) ?_
   refine s_call rfl (hT (H.grp_ents 3 rfl)) (ca16 rfl) ?_
   rintro e W1 ⟨rfl, H'⟩
   refine ⟨_, rfl, ?_⟩
   have H := H.grp_at 3 rfl ((hids s).symm ▸ H'); clear H'; simp only [List.set_cons_zero, List.set_cons_succ] at H
   refine s_run rfl rfl (rai rfl) ?_
   refine k_nc ?_
   refine k_rg ?_
   refine s_run rfl rfl (r_la H 2 rfl rfl rfl ag31 sz31) ?_
   refine s_run rfl rfl (r_fa0 rfl fo36_1) ?_
   refine s_run rfl rfl (r_lo H 1 rfl rfl rfl ag3) ?_
   refine s_run rfl rfl (r_fa0 rfl fo36_2) ?_
   refine s_run rfl rfl (r_lo H 1 rfl rfl rfl ag3) ?_
   refine s_run rfl rfl (r_fa0 rfl fo36_3) ?_
   refine s_run rfl rfl (r_lo H 1 rfl rfl rfl ag3) ?_
   refine s_call rfl (hT2 H) (ca34 rfl) ?_
   rintro e W1 ⟨A2, n2, c2, rfl, hD2, H'⟩
   refine ⟨_, rfl, ?_⟩
   have HB := H.same H'; clear H; have H := Heap.start HB.ents; clear H'
   refine s_run rfl rfl (rmt rfl) ?_
   refine s_run rfl rfl (r_ext (v := .agg _) rfl rfl) ?_
   refine s_run rfl rfl (r_ext (v := .int _ _) rfl rfl) ?_
   refine s_sw H 2 rfl rfl rfl rfl rfl rfl rfl sz31 ?_
   clear H; intro _ H; simp only [jA, jB, jC, jD, jE, jF, jG, jH, jI, jJ, jK, Nat.reduceAdd] at H
   refine s_run rfl rfl (rai rfl) ?_
   refine k_nil ?_
   refine b_norm ?_
   refine c_norm ?_
   refine k_sg ?_
   refine s_run rfl rfl (r_la H 2 rfl rfl rfl ag31 sz31) ?_
   refine s_run rfl rfl (rmi rfl) ?_
   refine s_run rfl rfl (rmi rfl) ?_
   refine s_run rfl rfl (r_eqlT rfl rfl (by omega)) ?_
   refine s_run rfl rfl (rmb rfl) ?_
   refine s_run rfl (g_on 100 (by kernel_rfl) rfl) (rmi rfl) ?_
   refine s_run rfl (g_on 100 (by kernel_rfl) rfl) (rmi rfl) ?_
   refine s_run rfl (g_on 100 (by kernel_rfl) rfl) (r_eqlT rfl rfl (by omega)) ?_
   refine s_run rfl rfl (r_pkT (v := .bool _) rfl rfl) ?_
   refine s_sw H 0 rfl rfl rfl rfl rfl rfl rfl sz31 ?_
   clear H; intro _ H; simp only [jA, jB, jC, jD, jE, jF, jG, jH, jI, jJ, jK, Nat.reduceAdd] at H
   refine s_run rfl rfl (rab rfl) ?_
   refine k_nc ?_
   refine k_ret ?_
   refine fx2r rfl (rv_a H 0 rfl rfl rfl ag31 sz31) (rv_t (v := .bool _) rfl) ?_
   exact ⟨_, _, _, rfl, hD2.off H.only, grp_open (Heap.subl (HB.whole H) [3] rfl rfl)⟩
  ·rw [decide_eq_false (fun e => hc (by injection e))]
   refine k_in (N := 105) Try.func10 rfl rfl rfl ?_
   refine k_sg ?_
   refine s_box H rfl rfl ?_
   intro p4 _ H'; clear H; have H := H'; clear H'
   refine s_box H rfl rfl ?_
   intro p5 _ H'; clear H; have H := H'; clear H'
   refine s_al H rfl inf31 ?_
   intro p6 _ H'; clear H; have H := H'; clear H'
   refine s_run rfl rfl (rab rfl) ?_
   refine k_nc ?_
   refine k_sg ?_
   refine s_run rfl rfl (rai rfl) ?_
   refine s_run rfl rfl (rai rfl) ?_
   refine s_run rfl rfl (rai rfl) ?_
   refine s_run rfl rfl (rai rfl) ?_
   refine k_nc ?_
   refine k_seq ?_
   refine k_sg ?_
   refine s_run rfl rfl (r_fa0 rfl fo36_0) ?_
   refine s_run rfl rfl (r_lo H 1 rfl rfl rfl ag3) ?_
   refine k_nc ?_
   refine k_b ?_
   refine k_sg ?_
   refine s_run rfl rfl (r_eqlT rfl rfl (by omega)) ?_
   refine s_run rfl rfl (rab rfl) ?_
   refine k_nc ?_
   refine k_t rfl ?_
   refine k_sg ?_
   refine s_run rfl rfl (rmp rfl) ?_
   refine s_run rfl rfl (r_fa0 rfl fo36_1) ?_
   refine s_run rfl rfl (r_lo H 1 rfl rfl rfl ag3) ?_
   refine s_run rfl rfl (r_fa0 rfl fo36_2) ?_
   refine s_run rfl rfl (r_lo H 1 rfl rfl rfl ag3) ?_
   refine s_run rfl rfl (r_fa0 rfl fo36_3) ?_
   refine s_run rfl rfl (r_lo H 1 rfl rfl rfl ag3) ?_
   refine s_call rfl (hT (H.grp_ents 3 rfl)) (ca16 rfl) ?_
   rintro e W1 ⟨rfl, H'⟩
   refine ⟨_, rfl, ?_⟩
   have H := H.grp_at 3 rfl ((hids s).symm ▸ H'); clear H'; simp only [List.set_cons_zero, List.set_cons_succ] at H
   refine s_run rfl rfl (rai rfl) ?_
   refine k_nc ?_
   refine k_rg ?_
   refine s_run rfl rfl (r_la H 2 rfl rfl rfl ag31 sz31) ?_
   refine s_run rfl rfl (r_fa0 rfl fo36_1) ?_
   refine s_run rfl rfl (r_lo H 1 rfl rfl rfl ag3) ?_
   refine s_run rfl rfl (r_fa0 rfl fo36_2) ?_
   refine s_run rfl rfl (r_lo H 1 rfl rfl rfl ag3) ?_
   refine s_run rfl rfl (r_fa0 rfl fo36_3) ?_
   refine s_run rfl rfl (r_lo H 1 rfl rfl rfl ag3) ?_
   refine s_call rfl (hT2 H) (ca34 rfl) ?_
   rintro e W1 ⟨A2, n2, c2, rfl, hD2, H'⟩
   refine ⟨_, rfl, ?_⟩
   have HB := H.same H'; clear H; have H := Heap.start HB.ents; clear H'
   refine s_run rfl rfl (rmt rfl) ?_
   refine s_run rfl rfl (r_ext (v := .agg _) rfl rfl) ?_
   refine s_run rfl rfl (r_ext (v := .int _ _) rfl rfl) ?_
   refine s_sw H 2 rfl rfl rfl rfl rfl rfl rfl sz31 ?_
   clear H; intro _ H; simp only [jA, jB, jC, jD, jE, jF, jG, jH, jI, jJ, jK, Nat.reduceAdd] at H
   refine s_run rfl rfl (rai rfl) ?_
   refine k_nil ?_
   refine b_norm ?_
   refine c_norm ?_
   refine k_sg ?_
   refine s_run rfl rfl (r_la H 2 rfl rfl rfl ag31 sz31) ?_
   refine s_run rfl rfl (rmi rfl) ?_
   refine s_run rfl rfl (rmi rfl) ?_
   refine s_run rfl rfl (r_eqlT rfl rfl (by omega)) ?_
   refine s_run rfl rfl (rmb rfl) ?_
   refine s_run rfl (g_on 100 (by kernel_rfl) rfl) (rmi rfl) ?_
   refine s_run rfl (g_on 100 (by kernel_rfl) rfl) (rmi rfl) ?_
   refine s_run rfl (g_on 100 (by kernel_rfl) rfl) (r_eqlF rfl rfl (by omega)) ?_
   refine s_run rfl rfl (r_pkT (v := .bool _) rfl rfl) ?_
   refine s_sw H 0 rfl rfl rfl rfl rfl rfl rfl sz31 ?_
   clear H; intro _ H; simp only [jA, jB, jC, jD, jE, jF, jG, jH, jI, jJ, jK, Nat.reduceAdd] at H
   refine s_run rfl rfl (rab rfl) ?_
   refine k_nc ?_
   refine k_ret ?_
   refine fx2r rfl (rv_a H 0 rfl rfl rfl ag31 sz31) (rv_t (v := .bool _) rfl) ?_
   exact ⟨_, _, _, rfl, hD2.off H.only, grp_open (Heap.subl (HB.whole H) [3] rfl rfl)⟩
 rw [if_neg k0, if_neg k0]
 by_cases k1 : k = 1
 ·rw [if_pos k1, if_pos k1]
  have hT := fun {W : World} hE => oGive p b s N m a W hE hs (by omega) ha
  have hT2 := fun {L} {W : World} (H : Heap w I L W) => rGive (hD.on H hIK) (on_lt hlt H) ht (by omega) m a
  unfold docV at hT2
  rw [hids] at hT
  by_cases hc1 : (s.give m a).2.1 = (t.give m a).2.1
  ·by_cases hc2 : (s.give m a).2.2 = (t.give m a).2.2
   ·rw [decide_eq_true (by rw [hc1, hc2])]
    refine k_in (N := 105) Try.func10 rfl rfl rfl ?_
    refine k_sg ?_
    refine s_box H rfl rfl ?_
    intro p4 _ H'; clear H; have H := H'; clear H'
    refine s_box H rfl rfl ?_
    intro p5 _ H'; clear H; have H := H'; clear H'
    refine s_al H rfl inf31 ?_
    intro p6 _ H'; clear H; have H := H'; clear H'
    refine s_run rfl rfl (rab rfl) ?_
    refine k_nc ?_
    refine k_sg ?_
    refine s_run rfl rfl (rai rfl) ?_
    refine s_run rfl rfl (rai rfl) ?_
    refine s_run rfl rfl (rai rfl) ?_
    refine s_run rfl rfl (rai rfl) ?_
    refine k_nc ?_
    refine k_seq ?_
    refine k_sg ?_
    refine s_run rfl rfl (r_fa0 rfl fo36_0) ?_
    refine s_run rfl rfl (r_lo H 1 rfl rfl rfl ag3) ?_
    refine k_nc ?_
    refine k_b ?_
    refine k_sg ?_
    refine s_run rfl rfl (r_eqlF rfl rfl (by omega)) ?_
    refine s_run rfl rfl (rab rfl) ?_
    refine k_nc ?_
    refine k_f rfl ?_
    refine k_sg ?_
    refine s_run rfl rfl (r_eqlT rfl rfl (by omega)) ?_
    refine s_run rfl rfl (rab rfl) ?_
    refine k_nc ?_
    refine k_t rfl ?_
    refine k_sg ?_
    refine s_run rfl rfl (rmp rfl) ?_
    refine s_run rfl rfl (r_fa0 rfl fo36_1) ?_
    refine s_run rfl rfl (r_lo H 1 rfl rfl rfl ag3) ?_
    refine s_run rfl rfl (r_fa0 rfl fo36_2) ?_
    refine s_run rfl rfl (r_lo H 1 rfl rfl rfl ag3) ?_
    refine s_call rfl (hT (H.grp_ents 3 rfl)) (ca15 rfl) ?_
    rintro e W1 ⟨rfl, H'⟩
    refine ⟨_, rfl, ?_⟩
    have H := H.grp_at 3 rfl ((hids s).symm ▸ H'); clear H'; simp only [List.set_cons_zero, List.set_cons_succ] at H
    refine s_run rfl rfl (rmt rfl) ?_
    refine s_run rfl rfl (r_ext (v := .int _ _) rfl rfl) ?_
    refine s_run rfl rfl (r_ext (v := .int _ _) rfl rfl) ?_
    refine s_run rfl rfl (rai rfl) ?_
    refine s_run rfl rfl (rai rfl) ?_
    refine k_nc ?_
    refine k_rg ?_
    refine s_run rfl rfl (r_la H 2 rfl rfl rfl ag31 sz31) ?_
    refine s_run rfl rfl (r_fa0 rfl fo36_1) ?_
    refine s_run rfl rfl (r_lo H 1 rfl rfl rfl ag3) ?_
    refine s_run rfl rfl (r_fa0 rfl fo36_2) ?_
    refine s_run rfl rfl (r_lo H 1 rfl rfl rfl ag3) ?_
    refine s_call rfl (hT2 H) (ca35 rfl) ?_
    rintro e W1 ⟨A2, n2, c2, rfl, hD2, H'⟩
    refine ⟨_, rfl, ?_⟩
    have HB := H.same H'; clear H; have H := Heap.start HB.ents; clear H'
    refine s_run rfl rfl (rmt rfl) ?_
    refine s_run rfl rfl (r_ext (v := .agg _) rfl rfl) ?_
    refine s_run rfl rfl (r_ext (v := .int _ _) rfl rfl) ?_
    refine s_run rfl rfl (r_ext (v := .int _ _) rfl rfl) ?_
    refine s_sw H 2 rfl rfl rfl rfl rfl rfl rfl sz31 ?_
    clear H; intro _ H; simp only [jA, jB, jC, jD, jE, jF, jG, jH, jI, jJ, jK, Nat.reduceAdd] at H
    refine s_run rfl rfl (rai rfl) ?_
    refine s_run rfl rfl (rai rfl) ?_
    refine k_nil ?_
    refine b_norm ?_
    refine c_norm ?_
    refine k_sg ?_
    refine s_run rfl rfl (r_la H 2 rfl rfl rfl ag31 sz31) ?_
    refine s_run rfl rfl (rmi rfl) ?_
    refine s_run rfl rfl (rmi rfl) ?_
    refine s_run rfl rfl (r_eqlT rfl rfl (by omega)) ?_
    refine s_run rfl rfl (rmb rfl) ?_
    refine s_run rfl (g_on 100 (by kernel_rfl) rfl) (rmi rfl) ?_
    refine s_run rfl (g_on 100 (by kernel_rfl) rfl) (rmi rfl) ?_
    refine s_run rfl (g_on 100 (by kernel_rfl) rfl) (r_eqlT rfl rfl (by omega)) ?_
    refine s_run rfl rfl (r_pkT (v := .bool _) rfl rfl) ?_
    refine s_sw H 0 rfl rfl rfl rfl rfl rfl rfl sz31 ?_
    clear H; intro _ H; simp only [jA, jB, jC, jD, jE, jF, jG, jH, jI, jJ, jK, Nat.reduceAdd] at H
    refine s_run rfl rfl (rab rfl) ?_
    refine k_nc ?_
    refine k_ret ?_
    refine fx2r rfl (rv_a H 0 rfl rfl rfl ag31 sz31) (rv_t (v := .bool _) rfl) ?_
    exact ⟨_, _, _, rfl, hD2.off H.only, grp_open (Heap.subl (HB.whole H) [3] rfl rfl)⟩
   ·rw [decide_eq_false (fun e => hc2 (by injection e))]
    refine k_in (N := 105) Try.func10 rfl rfl rfl ?_
    refine k_sg ?_
    refine s_box H rfl rfl ?_
    intro p4 _ H'; clear H; have H := H'; clear H'
    refine s_box H rfl rfl ?_
    intro p5 _ H'; clear H; have H := H'; clear H'
    refine s_al H rfl inf31 ?_
    intro p6 _ H'; clear H; have H := H'; clear H'
    refine s_run rfl rfl (rab rfl) ?_
    refine k_nc ?_
    refine k_sg ?_
    refine s_run rfl rfl (rai rfl) ?_
    refine s_run rfl rfl (rai rfl) ?_
    refine s_run rfl rfl (rai rfl) ?_
    refine s_run rfl rfl (rai rfl) ?_
    refine k_nc ?_
    refine k_seq ?_
    refine k_sg ?_
    refine s_run rfl rfl (r_fa0 rfl fo36_0) ?_
    refine s_run rfl rfl (r_lo H 1 rfl rfl rfl ag3) ?_
    refine k_nc ?_
    refine k_b ?_
    refine k_sg ?_
    refine s_run rfl rfl (r_eqlF rfl rfl (by omega)) ?_
    refine s_run rfl rfl (rab rfl) ?_
    refine k_nc ?_
    refine k_f rfl ?_
    refine k_sg ?_
    refine s_run rfl rfl (r_eqlT rfl rfl (by omega)) ?_
    refine s_run rfl rfl (rab rfl) ?_
    refine k_nc ?_
    refine k_t rfl ?_
    refine k_sg ?_
    refine s_run rfl rfl (rmp rfl) ?_
    refine s_run rfl rfl (r_fa0 rfl fo36_1) ?_
    refine s_run rfl rfl (r_lo H 1 rfl rfl rfl ag3) ?_
    refine s_run rfl rfl (r_fa0 rfl fo36_2) ?_
    refine s_run rfl rfl (r_lo H 1 rfl rfl rfl ag3) ?_
    refine s_call rfl (hT (H.grp_ents 3 rfl)) (ca15 rfl) ?_
    rintro e W1 ⟨rfl, H'⟩
    refine ⟨_, rfl, ?_⟩
    have H := H.grp_at 3 rfl ((hids s).symm ▸ H'); clear H'; simp only [List.set_cons_zero, List.set_cons_succ] at H
    refine s_run rfl rfl (rmt rfl) ?_
    refine s_run rfl rfl (r_ext (v := .int _ _) rfl rfl) ?_
    refine s_run rfl rfl (r_ext (v := .int _ _) rfl rfl) ?_
    refine s_run rfl rfl (rai rfl) ?_
    refine s_run rfl rfl (rai rfl) ?_
    refine k_nc ?_
    refine k_rg ?_
    refine s_run rfl rfl (r_la H 2 rfl rfl rfl ag31 sz31) ?_
    refine s_run rfl rfl (r_fa0 rfl fo36_1) ?_
    refine s_run rfl rfl (r_lo H 1 rfl rfl rfl ag3) ?_
    refine s_run rfl rfl (r_fa0 rfl fo36_2) ?_
    refine s_run rfl rfl (r_lo H 1 rfl rfl rfl ag3) ?_
    refine s_call rfl (hT2 H) (ca35 rfl) ?_
    rintro e W1 ⟨A2, n2, c2, rfl, hD2, H'⟩
    refine ⟨_, rfl, ?_⟩
    have HB := H.same H'; clear H; have H := Heap.start HB.ents; clear H'
    refine s_run rfl rfl (rmt rfl) ?_
    refine s_run rfl rfl (r_ext (v := .agg _) rfl rfl) ?_
    refine s_run rfl rfl (r_ext (v := .int _ _) rfl rfl) ?_
    refine s_run rfl rfl (r_ext (v := .int _ _) rfl rfl) ?_
    refine s_sw H 2 rfl rfl rfl rfl rfl rfl rfl sz31 ?_
    clear H; intro _ H; simp only [jA, jB, jC, jD, jE, jF, jG, jH, jI, jJ, jK, Nat.reduceAdd] at H
    refine s_run rfl rfl (rai rfl) ?_
    refine s_run rfl rfl (rai rfl) ?_
    refine k_nil ?_
    refine b_norm ?_
    refine c_norm ?_
    refine k_sg ?_
    refine s_run rfl rfl (r_la H 2 rfl rfl rfl ag31 sz31) ?_
    refine s_run rfl rfl (rmi rfl) ?_
    refine s_run rfl rfl (rmi rfl) ?_
    refine s_run rfl rfl (r_eqlT rfl rfl (by omega)) ?_
    refine s_run rfl rfl (rmb rfl) ?_
    refine s_run rfl (g_on 100 (by kernel_rfl) rfl) (rmi rfl) ?_
    refine s_run rfl (g_on 100 (by kernel_rfl) rfl) (rmi rfl) ?_
    refine s_run rfl (g_on 100 (by kernel_rfl) rfl) (r_eqlF rfl rfl (by omega)) ?_
    refine s_run rfl rfl (r_pkT (v := .bool _) rfl rfl) ?_
    refine s_sw H 0 rfl rfl rfl rfl rfl rfl rfl sz31 ?_
    clear H; intro _ H; simp only [jA, jB, jC, jD, jE, jF, jG, jH, jI, jJ, jK, Nat.reduceAdd] at H
    refine s_run rfl rfl (rab rfl) ?_
    refine k_nc ?_
    refine k_ret ?_
    refine fx2r rfl (rv_a H 0 rfl rfl rfl ag31 sz31) (rv_t (v := .bool _) rfl) ?_
    exact ⟨_, _, _, rfl, hD2.off H.only, grp_open (Heap.subl (HB.whole H) [3] rfl rfl)⟩
  ·rw [decide_eq_false (fun e => hc1 (by injection e))]
   refine k_in (N := 105) Try.func10 rfl rfl rfl ?_
   refine k_sg ?_
   refine s_box H rfl rfl ?_
   intro p4 _ H'; clear H; have H := H'; clear H'
   refine s_box H rfl rfl ?_
   intro p5 _ H'; clear H; have H := H'; clear H'
   refine s_al H rfl inf31 ?_
   intro p6 _ H'; clear H; have H := H'; clear H'
   refine s_run rfl rfl (rab rfl) ?_
   refine k_nc ?_
   refine k_sg ?_
   refine s_run rfl rfl (rai rfl) ?_
   refine s_run rfl rfl (rai rfl) ?_
   refine s_run rfl rfl (rai rfl) ?_
   refine s_run rfl rfl (rai rfl) ?_
   refine k_nc ?_
   refine k_seq ?_
   refine k_sg ?_
   refine s_run rfl rfl (r_fa0 rfl fo36_0) ?_
   refine s_run rfl rfl (r_lo H 1 rfl rfl rfl ag3) ?_
   refine k_nc ?_
   refine k_b ?_
   refine k_sg ?_
   refine s_run rfl rfl (r_eqlF rfl rfl (by omega)) ?_
   refine s_run rfl rfl (rab rfl) ?_
   refine k_nc ?_
   refine k_f rfl ?_
   refine k_sg ?_
   refine s_run rfl rfl (r_eqlT rfl rfl (by omega)) ?_
   refine s_run rfl rfl (rab rfl) ?_
   refine k_nc ?_
   refine k_t rfl ?_
   refine k_sg ?_
   refine s_run rfl rfl (rmp rfl) ?_
   refine s_run rfl rfl (r_fa0 rfl fo36_1) ?_
   refine s_run rfl rfl (r_lo H 1 rfl rfl rfl ag3) ?_
   refine s_run rfl rfl (r_fa0 rfl fo36_2) ?_
   refine s_run rfl rfl (r_lo H 1 rfl rfl rfl ag3) ?_
   refine s_call rfl (hT (H.grp_ents 3 rfl)) (ca15 rfl) ?_
   rintro e W1 ⟨rfl, H'⟩
   refine ⟨_, rfl, ?_⟩
   have H := H.grp_at 3 rfl ((hids s).symm ▸ H'); clear H'; simp only [List.set_cons_zero, List.set_cons_succ] at H
   refine s_run rfl rfl (rmt rfl) ?_
   refine s_run rfl rfl (r_ext (v := .int _ _) rfl rfl) ?_
   refine s_run rfl rfl (r_ext (v := .int _ _) rfl rfl) ?_
   refine s_run rfl rfl (rai rfl) ?_
   refine s_run rfl rfl (rai rfl) ?_
   refine k_nc ?_
   refine k_rg ?_
   refine s_run rfl rfl (r_la H 2 rfl rfl rfl ag31 sz31) ?_
   refine s_run rfl rfl (r_fa0 rfl fo36_1) ?_
   refine s_run rfl rfl (r_lo H 1 rfl rfl rfl ag3) ?_
   refine s_run rfl rfl (r_fa0 rfl fo36_2) ?_
   refine s_run rfl rfl (r_lo H 1 rfl rfl rfl ag3) ?_
   refine s_call rfl (hT2 H) (ca35 rfl) ?_
   rintro e W1 ⟨A2, n2, c2, rfl, hD2, H'⟩
   refine ⟨_, rfl, ?_⟩
   have HB := H.same H'; clear H; have H := Heap.start HB.ents; clear H'
   refine s_run rfl rfl (rmt rfl) ?_
   refine s_run rfl rfl (r_ext (v := .agg _) rfl rfl) ?_
   refine s_run rfl rfl (r_ext (v := .int _ _) rfl rfl) ?_
   refine s_run rfl rfl (r_ext (v := .int _ _) rfl rfl) ?_
   refine s_sw H 2 rfl rfl rfl rfl rfl rfl rfl sz31 ?_
   clear H; intro _ H; simp only [jA, jB, jC, jD, jE, jF, jG, jH, jI, jJ, jK, Nat.reduceAdd] at H
   refine s_run rfl rfl (rai rfl) ?_
   refine s_run rfl rfl (rai rfl) ?_
   refine k_nil ?_
   refine b_norm ?_
   refine c_norm ?_
   refine k_sg ?_
   refine s_run rfl rfl (r_la H 2 rfl rfl rfl ag31 sz31) ?_
   refine s_run rfl rfl (rmi rfl) ?_
   refine s_run rfl rfl (rmi rfl) ?_
   refine s_run rfl rfl (r_eqlF rfl rfl (by omega)) ?_
   refine s_run rfl rfl (rmb rfl) ?_
   refine s_off rfl (g_off 100 (by kernel_rfl) rfl rfl) ?_
   refine s_off rfl (g_off 100 (by kernel_rfl) rfl rfl) ?_
   refine s_off rfl (g_off 100 (by kernel_rfl) rfl rfl) ?_
   refine s_run rfl rfl (r_pkF (v := .bool _) rfl rfl) ?_
   refine s_sw H 0 rfl rfl rfl rfl rfl rfl rfl sz31 ?_
   clear H; intro _ H; simp only [jA, jB, jC, jD, jE, jF, jG, jH, jI, jJ, jK, Nat.reduceAdd] at H
   refine s_run rfl rfl (rab rfl) ?_
   refine k_nc ?_
   refine k_ret ?_
   refine fx2r rfl (rv_a H 0 rfl rfl rfl ag31 sz31) (rv_t (v := .bool _) rfl) ?_
   exact ⟨_, _, _, rfl, hD2.off H.only, grp_open (Heap.subl (HB.whole H) [3] rfl rfl)⟩
 rw [if_neg k1, if_neg k1]
 by_cases k2 : k = 2
 ·rw [if_pos k2, if_pos k2]
  have hT := fun {W : World} hE => oPass p b s N m x a W hE hs (by omega) ha
  have hT2 := fun {L} {W : World} (H : Heap w I L W) => rPass (hD.on H hIK) (on_lt hlt H) ht (by omega) m x a ha
  unfold docV at hT2
  rw [hids] at hT
  by_cases hc : (s.pass m x a).2 = (t.pass m x a).2
  ·rw [decide_eq_true (by rw [hc])]
   refine k_in (N := 105) Try.func10 rfl rfl rfl ?_
   refine k_sg ?_
   refine s_box H rfl rfl ?_
   intro p4 _ H'; clear H; have H := H'; clear H'
   refine s_box H rfl rfl ?_
   intro p5 _ H'; clear H; have H := H'; clear H'
   refine s_al H rfl inf31 ?_
   intro p6 _ H'; clear H; have H := H'; clear H'
   refine s_run rfl rfl (rab rfl) ?_
   refine k_nc ?_
   refine k_sg ?_
   refine s_run rfl rfl (rai rfl) ?_
   refine s_run rfl rfl (rai rfl) ?_
   refine s_run rfl rfl (rai rfl) ?_
   refine s_run rfl rfl (rai rfl) ?_
   refine k_nc ?_
   refine k_seq ?_
   refine k_sg ?_
   refine s_run rfl rfl (r_fa0 rfl fo36_0) ?_
   refine s_run rfl rfl (r_lo H 1 rfl rfl rfl ag3) ?_
   refine k_nc ?_
   refine k_b ?_
   refine k_sg ?_
   refine s_run rfl rfl (r_eqlF rfl rfl (by omega)) ?_
   refine s_run rfl rfl (rab rfl) ?_
   refine k_nc ?_
   refine k_f rfl ?_
   refine k_sg ?_
   refine s_run rfl rfl (r_eqlF rfl rfl (by omega)) ?_
   refine s_run rfl rfl (rab rfl) ?_
   refine k_nc ?_
   refine k_f rfl ?_
   refine k_sg ?_
   refine s_run rfl rfl (r_eqlT rfl rfl (by omega)) ?_
   refine s_run rfl rfl (rab rfl) ?_
   refine k_nc ?_
   refine k_t rfl ?_
   refine k_sg ?_
   refine s_run rfl rfl (rmp rfl) ?_
   refine s_run rfl rfl (r_fa0 rfl fo36_1) ?_
   refine s_run rfl rfl (r_lo H 1 rfl rfl rfl ag3) ?_
   refine s_run rfl rfl (r_fa0 rfl fo36_3) ?_
   refine s_run rfl rfl (r_lo H 1 rfl rfl rfl ag3) ?_
   refine s_run rfl rfl (r_fa0 rfl fo36_2) ?_
   refine s_run rfl rfl (r_lo H 1 rfl rfl rfl ag3) ?_
   refine s_call rfl (hT (H.grp_ents 3 rfl)) (ca14 rfl) ?_
   rintro e W1 ⟨rfl, H'⟩
   refine ⟨_, rfl, ?_⟩
   have H := H.grp_at 3 rfl ((hids s).symm ▸ H'); clear H'; simp only [List.set_cons_zero, List.set_cons_succ] at H
   refine s_run rfl rfl (rai rfl) ?_
   refine k_nc ?_
   refine k_rg ?_
   refine s_run rfl rfl (r_la H 2 rfl rfl rfl ag31 sz31) ?_
   refine s_run rfl rfl (r_fa0 rfl fo36_1) ?_
   refine s_run rfl rfl (r_lo H 1 rfl rfl rfl ag3) ?_
   refine s_run rfl rfl (r_fa0 rfl fo36_3) ?_
   refine s_run rfl rfl (r_lo H 1 rfl rfl rfl ag3) ?_
   refine s_run rfl rfl (r_fa0 rfl fo36_2) ?_
   refine s_run rfl rfl (r_lo H 1 rfl rfl rfl ag3) ?_
   refine s_call rfl (hT2 H) (ca36 rfl) ?_
   rintro e W1 ⟨A2, n2, c2, rfl, hD2, H'⟩
   refine ⟨_, rfl, ?_⟩
   have HB := H.same H'; clear H; have H := Heap.start HB.ents; clear H'
   refine s_run rfl rfl (rmt rfl) ?_
   refine s_run rfl rfl (r_ext (v := .agg _) rfl rfl) ?_
   refine s_run rfl rfl (r_ext (v := .int _ _) rfl rfl) ?_
   refine s_sw H 2 rfl rfl rfl rfl rfl rfl rfl sz31 ?_
   clear H; intro _ H; simp only [jA, jB, jC, jD, jE, jF, jG, jH, jI, jJ, jK, Nat.reduceAdd] at H
   refine s_run rfl rfl (rai rfl) ?_
   refine k_nil ?_
   refine b_norm ?_
   refine c_norm ?_
   refine k_sg ?_
   refine s_run rfl rfl (r_la H 2 rfl rfl rfl ag31 sz31) ?_
   refine s_run rfl rfl (rmi rfl) ?_
   refine s_run rfl rfl (rmi rfl) ?_
   refine s_run rfl rfl (r_eqlT rfl rfl (by omega)) ?_
   refine s_run rfl rfl (rmb rfl) ?_
   refine s_run rfl (g_on 100 (by kernel_rfl) rfl) (rmi rfl) ?_
   refine s_run rfl (g_on 100 (by kernel_rfl) rfl) (rmi rfl) ?_
   refine s_run rfl (g_on 100 (by kernel_rfl) rfl) (r_eqlT rfl rfl (by omega)) ?_
   refine s_run rfl rfl (r_pkT (v := .bool _) rfl rfl) ?_
   refine s_sw H 0 rfl rfl rfl rfl rfl rfl rfl sz31 ?_
   clear H; intro _ H; simp only [jA, jB, jC, jD, jE, jF, jG, jH, jI, jJ, jK, Nat.reduceAdd] at H
   refine s_run rfl rfl (rab rfl) ?_
   refine k_nc ?_
   refine k_ret ?_
   refine fx2r rfl (rv_a H 0 rfl rfl rfl ag31 sz31) (rv_t (v := .bool _) rfl) ?_
   exact ⟨_, _, _, rfl, hD2.off H.only, grp_open (Heap.subl (HB.whole H) [3] rfl rfl)⟩
  ·rw [decide_eq_false (fun e => hc (by injection e))]
   refine k_in (N := 105) Try.func10 rfl rfl rfl ?_
   refine k_sg ?_
   refine s_box H rfl rfl ?_
   intro p4 _ H'; clear H; have H := H'; clear H'
   refine s_box H rfl rfl ?_
   intro p5 _ H'; clear H; have H := H'; clear H'
   refine s_al H rfl inf31 ?_
   intro p6 _ H'; clear H; have H := H'; clear H'
   refine s_run rfl rfl (rab rfl) ?_
   refine k_nc ?_
   refine k_sg ?_
   refine s_run rfl rfl (rai rfl) ?_
   refine s_run rfl rfl (rai rfl) ?_
   refine s_run rfl rfl (rai rfl) ?_
   refine s_run rfl rfl (rai rfl) ?_
   refine k_nc ?_
   refine k_seq ?_
   refine k_sg ?_
   refine s_run rfl rfl (r_fa0 rfl fo36_0) ?_
   refine s_run rfl rfl (r_lo H 1 rfl rfl rfl ag3) ?_
   refine k_nc ?_
   refine k_b ?_
   refine k_sg ?_
   refine s_run rfl rfl (r_eqlF rfl rfl (by omega)) ?_
   refine s_run rfl rfl (rab rfl) ?_
   refine k_nc ?_
   refine k_f rfl ?_
   refine k_sg ?_
   refine s_run rfl rfl (r_eqlF rfl rfl (by omega)) ?_
   refine s_run rfl rfl (rab rfl) ?_
   refine k_nc ?_
   refine k_f rfl ?_
   refine k_sg ?_
   refine s_run rfl rfl (r_eqlT rfl rfl (by omega)) ?_
   refine s_run rfl rfl (rab rfl) ?_
   refine k_nc ?_
   refine k_t rfl ?_
   refine k_sg ?_
   refine s_run rfl rfl (rmp rfl) ?_
   refine s_run rfl rfl (r_fa0 rfl fo36_1) ?_
   refine s_run rfl rfl (r_lo H 1 rfl rfl rfl ag3) ?_
   refine s_run rfl rfl (r_fa0 rfl fo36_3) ?_
   refine s_run rfl rfl (r_lo H 1 rfl rfl rfl ag3) ?_
   refine s_run rfl rfl (r_fa0 rfl fo36_2) ?_
   refine s_run rfl rfl (r_lo H 1 rfl rfl rfl ag3) ?_
   refine s_call rfl (hT (H.grp_ents 3 rfl)) (ca14 rfl) ?_
   rintro e W1 ⟨rfl, H'⟩
   refine ⟨_, rfl, ?_⟩
   have H := H.grp_at 3 rfl ((hids s).symm ▸ H'); clear H'; simp only [List.set_cons_zero, List.set_cons_succ] at H
   refine s_run rfl rfl (rai rfl) ?_
   refine k_nc ?_
   refine k_rg ?_
   refine s_run rfl rfl (r_la H 2 rfl rfl rfl ag31 sz31) ?_
   refine s_run rfl rfl (r_fa0 rfl fo36_1) ?_
   refine s_run rfl rfl (r_lo H 1 rfl rfl rfl ag3) ?_
   refine s_run rfl rfl (r_fa0 rfl fo36_3) ?_
   refine s_run rfl rfl (r_lo H 1 rfl rfl rfl ag3) ?_
   refine s_run rfl rfl (r_fa0 rfl fo36_2) ?_
   refine s_run rfl rfl (r_lo H 1 rfl rfl rfl ag3) ?_
   refine s_call rfl (hT2 H) (ca36 rfl) ?_
   rintro e W1 ⟨A2, n2, c2, rfl, hD2, H'⟩
   refine ⟨_, rfl, ?_⟩
   have HB := H.same H'; clear H; have H := Heap.start HB.ents; clear H'
   refine s_run rfl rfl (rmt rfl) ?_
   refine s_run rfl rfl (r_ext (v := .agg _) rfl rfl) ?_
   refine s_run rfl rfl (r_ext (v := .int _ _) rfl rfl) ?_
   refine s_sw H 2 rfl rfl rfl rfl rfl rfl rfl sz31 ?_
   clear H; intro _ H; simp only [jA, jB, jC, jD, jE, jF, jG, jH, jI, jJ, jK, Nat.reduceAdd] at H
   refine s_run rfl rfl (rai rfl) ?_
   refine k_nil ?_
   refine b_norm ?_
   refine c_norm ?_
   refine k_sg ?_
   refine s_run rfl rfl (r_la H 2 rfl rfl rfl ag31 sz31) ?_
   refine s_run rfl rfl (rmi rfl) ?_
   refine s_run rfl rfl (rmi rfl) ?_
   refine s_run rfl rfl (r_eqlT rfl rfl (by omega)) ?_
   refine s_run rfl rfl (rmb rfl) ?_
   refine s_run rfl (g_on 100 (by kernel_rfl) rfl) (rmi rfl) ?_
   refine s_run rfl (g_on 100 (by kernel_rfl) rfl) (rmi rfl) ?_
   refine s_run rfl (g_on 100 (by kernel_rfl) rfl) (r_eqlF rfl rfl (by omega)) ?_
   refine s_run rfl rfl (r_pkT (v := .bool _) rfl rfl) ?_
   refine s_sw H 0 rfl rfl rfl rfl rfl rfl rfl sz31 ?_
   clear H; intro _ H; simp only [jA, jB, jC, jD, jE, jF, jG, jH, jI, jJ, jK, Nat.reduceAdd] at H
   refine s_run rfl rfl (rab rfl) ?_
   refine k_nc ?_
   refine k_ret ?_
   refine fx2r rfl (rv_a H 0 rfl rfl rfl ag31 sz31) (rv_t (v := .bool _) rfl) ?_
   exact ⟨_, _, _, rfl, hD2.off H.only, grp_open (Heap.subl (HB.whole H) [3] rfl rfl)⟩
 rw [if_neg k2, if_neg k2]
 by_cases k3 : k = 3
 ·rw [if_pos k3, if_pos k3]
  by_cases hbig : 100 < live.length
  ·rw [if_pos hbig, if_pos hbig, decide_eq_true rfl]
   refine k_in (N := 105) Try.func10 rfl rfl rfl ?_
   refine k_sg ?_
   refine s_box H rfl rfl ?_
   intro p4 _ H'; clear H; have H := H'; clear H'
   refine s_box H rfl rfl ?_
   intro p5 _ H'; clear H; have H := H'; clear H'
   refine s_al H rfl inf31 ?_
   intro p6 _ H'; clear H; have H := H'; clear H'
   refine s_run rfl rfl (rab rfl) ?_
   refine k_nc ?_
   refine k_sg ?_
   refine s_run rfl rfl (rai rfl) ?_
   refine s_run rfl rfl (rai rfl) ?_
   refine s_run rfl rfl (rai rfl) ?_
   refine s_run rfl rfl (rai rfl) ?_
   refine k_nc ?_
   refine k_seq ?_
   refine k_sg ?_
   refine s_run rfl rfl (r_fa0 rfl fo36_0) ?_
   refine s_run rfl rfl (r_lo H 1 rfl rfl rfl ag3) ?_
   refine k_nc ?_
   refine k_b ?_
   refine k_sg ?_
   refine s_run rfl rfl (r_eqlF rfl rfl (by omega)) ?_
   refine s_run rfl rfl (rab rfl) ?_
   refine k_nc ?_
   refine k_f rfl ?_
   refine k_sg ?_
   refine s_run rfl rfl (r_eqlF rfl rfl (by omega)) ?_
   refine s_run rfl rfl (rab rfl) ?_
   refine k_nc ?_
   refine k_f rfl ?_
   refine k_sg ?_
   refine s_run rfl rfl (r_eqlF rfl rfl (by omega)) ?_
   refine s_run rfl rfl (rab rfl) ?_
   refine k_nc ?_
   refine k_f rfl ?_
   refine k_sg ?_
   refine s_run rfl rfl (r_eqlT rfl rfl (by omega)) ?_
   refine s_run rfl rfl (rab rfl) ?_
   refine k_nc ?_
   refine k_t rfl ?_
   refine k_seq ?_
   refine k_sg ?_
   refine s_run rfl rfl (r_fa0 rfl fo36_4) ?_
   refine s_run rfl rfl (r_lo H 1 rfl rfl rfl ag22) ?_
   refine s_run rfl rfl (r_len rfl Try.underlying22) ?_
   refine s_run rfl rfl (r_gtrT rfl rfl (by omega)) ?_
   refine k_nc ?_
   refine k_t rfl ?_
   refine k_sg ?_
   refine s_run rfl rfl (r_la H 2 rfl rfl rfl ag31 sz31) ?_
   refine s_sw H 0 rfl rfl rfl rfl rfl rfl rfl sz31 ?_
   clear H; intro _ H; simp only [jA, jB, jC, jD, jE, jF, jG, jH, jI, jJ, jK, Nat.reduceAdd] at H
   refine s_run rfl rfl (rab rfl) ?_
   refine k_nc ?_
   refine k_ret ?_
   refine c_ret ?_
   refine b_ret ?_
   refine c_ret ?_
   refine fx2r rfl (rv_a H 0 rfl rfl rfl ag31 sz31) (rv_t (v := .bool _) rfl) ?_
   exact ⟨_, _, _, rfl, (hD.on H hIK).off (Only.refl _ _), grp_open (Heap.subl H [3] rfl rfl)⟩
  ·rw [if_neg hbig, if_neg hbig]
   have hT := fun {W : World} hE hS => oSweepL p b s N LA ln lc live W hE hs (by omega) hS hll (by omega) hlb
   have hT2 := fun {L} {W : World} (H : Heap w I L W) h => rSweep (hD.on H hIK) (on_lt hlt H) ht (by omega) LA ln lc live h hll (by omega)
   unfold docV at hT2
   rw [hids] at hT
   by_cases hc : (s.sweep live).2 = (t.sweep live).2
   ·rw [decide_eq_true (by rw [hc])]
    refine k_in (N := 105) Try.func10 rfl rfl rfl ?_
    refine k_sg ?_
    refine s_box H rfl rfl ?_
    intro p4 _ H'; clear H; have H := H'; clear H'
    refine s_box H rfl rfl ?_
    intro p5 _ H'; clear H; have H := H'; clear H'
    refine s_al H rfl inf31 ?_
    intro p6 _ H'; clear H; have H := H'; clear H'
    refine s_run rfl rfl (rab rfl) ?_
    refine k_nc ?_
    refine k_sg ?_
    refine s_run rfl rfl (rai rfl) ?_
    refine s_run rfl rfl (rai rfl) ?_
    refine s_run rfl rfl (rai rfl) ?_
    refine s_run rfl rfl (rai rfl) ?_
    refine k_nc ?_
    refine k_seq ?_
    refine k_sg ?_
    refine s_run rfl rfl (r_fa0 rfl fo36_0) ?_
    refine s_run rfl rfl (r_lo H 1 rfl rfl rfl ag3) ?_
    refine k_nc ?_
    refine k_b ?_
    refine k_sg ?_
    refine s_run rfl rfl (r_eqlF rfl rfl (by omega)) ?_
    refine s_run rfl rfl (rab rfl) ?_
    refine k_nc ?_
    refine k_f rfl ?_
    refine k_sg ?_
    refine s_run rfl rfl (r_eqlF rfl rfl (by omega)) ?_
    refine s_run rfl rfl (rab rfl) ?_
    refine k_nc ?_
    refine k_f rfl ?_
    refine k_sg ?_
    refine s_run rfl rfl (r_eqlF rfl rfl (by omega)) ?_
    refine s_run rfl rfl (rab rfl) ?_
    refine k_nc ?_
    refine k_f rfl ?_
    refine k_sg ?_
    refine s_run rfl rfl (r_eqlT rfl rfl (by omega)) ?_
    refine s_run rfl rfl (rab rfl) ?_
    refine k_nc ?_
    refine k_t rfl ?_
    refine k_seq ?_
    refine k_sg ?_
    refine s_run rfl rfl (r_fa0 rfl fo36_4) ?_
    refine s_run rfl rfl (r_lo H 1 rfl rfl rfl ag22) ?_
    refine s_run rfl rfl (r_len rfl Try.underlying22) ?_
    refine s_run rfl rfl (r_gtrF rfl rfl (by omega)) ?_
    refine k_nc ?_
    refine k_f rfl ?_
    refine k_skip ?_
    refine c_norm ?_
    refine k_sg ?_
    refine s_run rfl rfl (rmp rfl) ?_
    refine s_run rfl rfl (r_fa0 rfl fo36_4) ?_
    refine s_run rfl rfl (r_lo H 1 rfl rfl rfl ag22) ?_
    refine s_call rfl (hT (H.grp_ents 3 rfl) (hSl.later H.only (fun _ h => h))) (ca37 rfl) ?_
    rintro e W1 ⟨rfl, H'⟩
    refine ⟨_, rfl, ?_⟩
    have H := H.grp_at 3 rfl ((hids s).symm ▸ H'); clear H'; simp only [List.set_cons_zero, List.set_cons_succ] at H
    refine s_run rfl rfl (rai rfl) ?_
    refine k_nc ?_
    refine k_rg ?_
    refine s_run rfl rfl (r_la H 2 rfl rfl rfl ag31 sz31) ?_
    refine s_run rfl rfl (r_fa0 rfl fo36_4) ?_
    refine s_run rfl rfl (r_lo H 1 rfl rfl rfl ag22) ?_
    refine s_call rfl (hT2 H ((hSl.later H.only (fun _ h => h)).mono (by simp))) (ca38 rfl) ?_
    rintro e W1 ⟨A2, n2, c2, rfl, hD2, H'⟩
    refine ⟨_, rfl, ?_⟩
    have HB := H.same H'; clear H; have H := Heap.start HB.ents; clear H'
    refine s_run rfl rfl (rmt rfl) ?_
    refine s_run rfl rfl (r_ext (v := .agg _) rfl rfl) ?_
    refine s_run rfl rfl (r_ext (v := .int _ _) rfl rfl) ?_
    refine s_sw H 2 rfl rfl rfl rfl rfl rfl rfl sz31 ?_
    clear H; intro _ H; simp only [jA, jB, jC, jD, jE, jF, jG, jH, jI, jJ, jK, Nat.reduceAdd] at H
    refine s_run rfl rfl (rai rfl) ?_
    refine k_nil ?_
    refine b_norm ?_
    refine c_norm ?_
    refine k_sg ?_
    refine s_run rfl rfl (r_la H 2 rfl rfl rfl ag31 sz31) ?_
    refine s_run rfl rfl (rmi rfl) ?_
    refine s_run rfl rfl (rmi rfl) ?_
    refine s_run rfl rfl (r_eqlT rfl rfl (by omega)) ?_
    refine s_run rfl rfl (rmb rfl) ?_
    refine s_run rfl (g_on 100 (by kernel_rfl) rfl) (rmi rfl) ?_
    refine s_run rfl (g_on 100 (by kernel_rfl) rfl) (rmi rfl) ?_
    refine s_run rfl (g_on 100 (by kernel_rfl) rfl) (r_eqlT rfl rfl (by omega)) ?_
    refine s_run rfl rfl (r_pkT (v := .bool _) rfl rfl) ?_
    refine s_sw H 0 rfl rfl rfl rfl rfl rfl rfl sz31 ?_
    clear H; intro _ H; simp only [jA, jB, jC, jD, jE, jF, jG, jH, jI, jJ, jK, Nat.reduceAdd] at H
    refine s_run rfl rfl (rab rfl) ?_
    refine k_nc ?_
    refine k_ret ?_
    refine fx2r rfl (rv_a H 0 rfl rfl rfl ag31 sz31) (rv_t (v := .bool _) rfl) ?_
    exact ⟨_, _, _, rfl, hD2.off H.only, grp_open (Heap.subl (HB.whole H) [3] rfl rfl)⟩
   ·rw [decide_eq_false (fun e => hc (by injection e))]
    refine k_in (N := 105) Try.func10 rfl rfl rfl ?_
    refine k_sg ?_
    refine s_box H rfl rfl ?_
    intro p4 _ H'; clear H; have H := H'; clear H'
    refine s_box H rfl rfl ?_
    intro p5 _ H'; clear H; have H := H'; clear H'
    refine s_al H rfl inf31 ?_
    intro p6 _ H'; clear H; have H := H'; clear H'
    refine s_run rfl rfl (rab rfl) ?_
    refine k_nc ?_
    refine k_sg ?_
    refine s_run rfl rfl (rai rfl) ?_
    refine s_run rfl rfl (rai rfl) ?_
    refine s_run rfl rfl (rai rfl) ?_
    refine s_run rfl rfl (rai rfl) ?_
    refine k_nc ?_
    refine k_seq ?_
    refine k_sg ?_
    refine s_run rfl rfl (r_fa0 rfl fo36_0) ?_
    refine s_run rfl rfl (r_lo H 1 rfl rfl rfl ag3) ?_
    refine k_nc ?_
    refine k_b ?_
    refine k_sg ?_
    refine s_run rfl rfl (r_eqlF rfl rfl (by omega)) ?_
    refine s_run rfl rfl (rab rfl) ?_
    refine k_nc ?_
    refine k_f rfl ?_
    refine k_sg ?_
    refine s_run rfl rfl (r_eqlF rfl rfl (by omega)) ?_
    refine s_run rfl rfl (rab rfl) ?_
    refine k_nc ?_
    refine k_f rfl ?_
    refine k_sg ?_
    refine s_run rfl rfl (r_eqlF rfl rfl (by omega)) ?_
    refine s_run rfl rfl (rab rfl) ?_
    refine k_nc ?_
    refine k_f rfl ?_
    refine k_sg ?_
    refine s_run rfl rfl (r_eqlT rfl rfl (by omega)) ?_
    refine s_run rfl rfl (rab rfl) ?_
    refine k_nc ?_
    refine k_t rfl ?_
    refine k_seq ?_
    refine k_sg ?_
    refine s_run rfl rfl (r_fa0 rfl fo36_4) ?_
    refine s_run rfl rfl (r_lo H 1 rfl rfl rfl ag22) ?_
    refine s_run rfl rfl (r_len rfl Try.underlying22) ?_
    refine s_run rfl rfl (r_gtrF rfl rfl (by omega)) ?_
    refine k_nc ?_
    refine k_f rfl ?_
    refine k_skip ?_
    refine c_norm ?_
    refine k_sg ?_
    refine s_run rfl rfl (rmp rfl) ?_
    refine s_run rfl rfl (r_fa0 rfl fo36_4) ?_
    refine s_run rfl rfl (r_lo H 1 rfl rfl rfl ag22) ?_
    refine s_call rfl (hT (H.grp_ents 3 rfl) (hSl.later H.only (fun _ h => h))) (ca37 rfl) ?_
    rintro e W1 ⟨rfl, H'⟩
    refine ⟨_, rfl, ?_⟩
    have H := H.grp_at 3 rfl ((hids s).symm ▸ H'); clear H'; simp only [List.set_cons_zero, List.set_cons_succ] at H
    refine s_run rfl rfl (rai rfl) ?_
    refine k_nc ?_
    refine k_rg ?_
    refine s_run rfl rfl (r_la H 2 rfl rfl rfl ag31 sz31) ?_
    refine s_run rfl rfl (r_fa0 rfl fo36_4) ?_
    refine s_run rfl rfl (r_lo H 1 rfl rfl rfl ag22) ?_
    refine s_call rfl (hT2 H ((hSl.later H.only (fun _ h => h)).mono (by simp))) (ca38 rfl) ?_
    rintro e W1 ⟨A2, n2, c2, rfl, hD2, H'⟩
    refine ⟨_, rfl, ?_⟩
    have HB := H.same H'; clear H; have H := Heap.start HB.ents; clear H'
    refine s_run rfl rfl (rmt rfl) ?_
    refine s_run rfl rfl (r_ext (v := .agg _) rfl rfl) ?_
    refine s_run rfl rfl (r_ext (v := .int _ _) rfl rfl) ?_
    refine s_sw H 2 rfl rfl rfl rfl rfl rfl rfl sz31 ?_
    clear H; intro _ H; simp only [jA, jB, jC, jD, jE, jF, jG, jH, jI, jJ, jK, Nat.reduceAdd] at H
    refine s_run rfl rfl (rai rfl) ?_
    refine k_nil ?_
    refine b_norm ?_
    refine c_norm ?_
    refine k_sg ?_
    refine s_run rfl rfl (r_la H 2 rfl rfl rfl ag31 sz31) ?_
    refine s_run rfl rfl (rmi rfl) ?_
    refine s_run rfl rfl (rmi rfl) ?_
    refine s_run rfl rfl (r_eqlF rfl rfl (by omega)) ?_
    refine s_run rfl rfl (rmb rfl) ?_
    refine s_off rfl (g_off 100 (by kernel_rfl) rfl rfl) ?_
    refine s_off rfl (g_off 100 (by kernel_rfl) rfl rfl) ?_
    refine s_off rfl (g_off 100 (by kernel_rfl) rfl rfl) ?_
    refine s_run rfl rfl (r_pkF (v := .bool _) rfl rfl) ?_
    refine s_sw H 0 rfl rfl rfl rfl rfl rfl rfl sz31 ?_
    clear H; intro _ H; simp only [jA, jB, jC, jD, jE, jF, jG, jH, jI, jJ, jK, Nat.reduceAdd] at H
    refine s_run rfl rfl (rab rfl) ?_
    refine k_nc ?_
    refine k_ret ?_
    refine fx2r rfl (rv_a H 0 rfl rfl rfl ag31 sz31) (rv_t (v := .bool _) rfl) ?_
    exact ⟨_, _, _, rfl, hD2.off H.only, grp_open (Heap.subl (HB.whole H) [3] rfl rfl)⟩
 ·rw [if_neg k3, if_neg k3, decide_eq_true rfl]
  refine k_in (N := 105) Try.func10 rfl rfl rfl ?_
  refine k_sg ?_
  refine s_box H rfl rfl ?_
  intro p4 _ H'; clear H; have H := H'; clear H'
  refine s_box H rfl rfl ?_
  intro p5 _ H'; clear H; have H := H'; clear H'
  refine s_al H rfl inf31 ?_
  intro p6 _ H'; clear H; have H := H'; clear H'
  refine s_run rfl rfl (rab rfl) ?_
  refine k_nc ?_
  refine k_sg ?_
  refine s_run rfl rfl (rai rfl) ?_
  refine s_run rfl rfl (rai rfl) ?_
  refine s_run rfl rfl (rai rfl) ?_
  refine s_run rfl rfl (rai rfl) ?_
  refine k_nc ?_
  refine k_seq ?_
  refine k_sg ?_
  refine s_run rfl rfl (r_fa0 rfl fo36_0) ?_
  refine s_run rfl rfl (r_lo H 1 rfl rfl rfl ag3) ?_
  refine k_nc ?_
  refine k_b ?_
  refine k_sg ?_
  refine s_run rfl rfl (r_eqlF rfl rfl (by omega)) ?_
  refine s_run rfl rfl (rab rfl) ?_
  refine k_nc ?_
  refine k_f rfl ?_
  refine k_sg ?_
  refine s_run rfl rfl (r_eqlF rfl rfl (by omega)) ?_
  refine s_run rfl rfl (rab rfl) ?_
  refine k_nc ?_
  refine k_f rfl ?_
  refine k_sg ?_
  refine s_run rfl rfl (r_eqlF rfl rfl (by omega)) ?_
  refine s_run rfl rfl (rab rfl) ?_
  refine k_nc ?_
  refine k_f rfl ?_
  refine k_sg ?_
  refine s_run rfl rfl (r_eqlF rfl rfl (by omega)) ?_
  refine s_run rfl rfl (rab rfl) ?_
  refine k_nc ?_
  refine k_f rfl ?_
  refine k_sg ?_
  refine s_run rfl rfl (r_la H 2 rfl rfl rfl ag31 sz31) ?_
  refine s_sw H 0 rfl rfl rfl rfl rfl rfl rfl sz31 ?_
  clear H; intro _ H; simp only [jA, jB, jC, jD, jE, jF, jG, jH, jI, jJ, jK, Nat.reduceAdd] at H
  refine s_run rfl rfl (rab rfl) ?_
  refine k_nc ?_
  refine k_ret ?_
  refine b_ret ?_
  refine c_ret ?_
  refine fx2r rfl (rv_a H 0 rfl rfl rfl ag31 sz31) (rv_t (v := .bool _) rfl) ?_
  exact ⟨_, _, _, rfl, (hD.on H hIK).off (Only.refl _ _), grp_open (Heap.subl H [3] rfl rfl)⟩
end Go.Proofs.Ytpbimgopiammaaa
end

section
namespace Go.Proofs.Ytpbimgopiammaaa
open Go.RowKit
set_option maxRecDepth 100000
set_option maxHeartbeats 8000000
theorem awake49 (w : World) : Calls Try.prog 8 [].toArray w fun e w' => e = .returned (.bool true) ∧ Only [] w w' := by
 have H := Heap.nil w
 have hok := ldNew_ok [10] (by intro x hx; simp at hx; subst hx; unfold wfI; omega)
 have hok1 := hok.take 0 600 6 (by unfold wfI; omega)
 have e1 : ((ldNew [10]).take 0 600 6).2 = 0 := by
  kernel_rfl
 have e2 : (((ldNew [10]).take 0 600 6).1.take 0 700 5).2 = 4 := by
  kernel_rfl
 have hT1 := fun {p b} {W : World} hE => oTake p b (ldNew [10]) 0 0 600 6 W hE hok (by omega) (by unfold wfI; omega)
 have hT2 := fun {p b} {W : World} hE => oTake p b ((ldNew [10]).take 0 600 6).1 1 0 700 5 W hE hok1 (by omega) (by unfold wfI; omega)
 rw [e1] at hT1
 rw [e2] at hT2
 refine k_in (N := 16) Try.func8 rfl rfl rfl ?_
 refine k_sg ?_
 refine s_run rfl rfl (rab rfl) ?_
 refine k_nc ?_
 refine k_sg ?_
 refine s_bsO (enc := (Value.int .i64)) (zs := [10]) H rfl rfl rfl (by omega) (by kernel_rfl) Try.underlying22 inf3 ?_
 intro q2 _ H'; clear H; have H := H'; clear H'
 have hS := H.own_sees 0 rfl
 have hN := oNewL _ 1 1 [10] _ hS rfl (by omega)
 refine s_call rfl (hN) (ca9 rfl) ?_
 rintro e W1 ⟨p, b, rfl, H'⟩
 refine ⟨_, rfl, ?_⟩
 have H := H.more (A := [grp _]) (grp_heap H'); clear H'; simp only [List.cons_append, List.nil_append] at H
 refine s_run rfl rfl (rap rfl) ?_
 refine k_nc ?_
 refine k_sg ?_
 refine s_run rfl rfl (rmp rfl) ?_
 refine s_run rfl rfl (r_ptnnilT rfl rfl Try.underlying26) ?_
 refine s_run rfl rfl (rmb rfl) ?_
 refine s_run rfl (g_on 6 (by kernel_rfl) rfl) (rmp rfl) ?_
 refine s_call (g_on 6 (by kernel_rfl) rfl) (hT1 (H.grp_ents 0 rfl)) (ca16 rfl) ?_
 rintro e W1 ⟨rfl, H'⟩
 refine ⟨_, rfl, ?_⟩
 have H := H.grp_at 0 rfl H'; clear H'; simp only [List.set_cons_zero] at H
 refine s_run rfl (g_on 6 (by kernel_rfl) rfl) (r_eqlT rfl rfl (by omega)) ?_
 refine s_run rfl rfl (r_pkT (v := .bool _) rfl rfl) ?_
 refine s_run rfl rfl (rmb rfl) ?_
 refine s_run rfl (g_on 11 (by kernel_rfl) rfl) (rmp rfl) ?_
 refine s_call (g_on 11 (by kernel_rfl) rfl) (hT2 (H.grp_ents 0 rfl)) (ca16 rfl) ?_
 rintro e W1 ⟨rfl, H'⟩
 refine ⟨_, rfl, ?_⟩
 have H := H.grp_at 0 rfl H'; clear H'; simp only [List.set_cons_zero] at H
 refine s_run rfl (g_on 11 (by kernel_rfl) rfl) (r_eqlT rfl rfl (by omega)) ?_
 refine s_run rfl rfl (r_pkT (v := .bool _) rfl rfl) ?_
 refine s_run rfl rfl (rab rfl) ?_
 refine k_nc ?_
 refine k_ret ?_
 refine fin1r (v := .bool _) rfl rfl ?_
 exact ⟨rfl, H.only⟩
end Go.Proofs.Ytpbimgopiammaaa
end

section
namespace Go.Proofs.Ytpbimgopiammaaa
theorem mdel_same {α β : Type} [DecidableEq α] : ∀ (L : List (α × β)) (a : α), (L.map Prod.fst).Nodup → mget (mdel L a) a = none
 | [], a, _ => rfl
 | x :: L, a, h => by
  simp only [List.map_cons, List.nodup_cons] at h
  rw [mdel]
  split
  ·rename_i e
   exact (mget_iff L a).2 fun p hp e2 => h.1 (by rw [e, ← e2]; exact List.mem_map.2 ⟨p, hp, rfl⟩)
  ·rename_i e
   rw [mget, if_neg e]; exact mdel_same L a h.2
theorem mdel_other {α β : Type} [DecidableEq α] : ∀ (L : List (α × β)) (a b : α), b ≠ a → mget (mdel L a) b = mget L b
 | [], a, b, _ => rfl
 | x :: L, a, b, h => by
  rw [mdel]
  split
  ·rename_i e
   rw [mget, if_neg (fun e2 => h (by rw [← e2, e]))]
  ·rw [mget, mget, mdel_other L a b h]
theorem mget_snoc_new {α β : Type} [DecidableEq α] : ∀ (L : List (α × β)) (a : α) (v : β), mget L a = none → mget (L ++ [(a, v)]) a = some v
 | [], a, v, _ => by simp [mget]
 | x :: L, a, v, h => by
  rw [mget] at h
  split at h
  ·cases h
  ·rename_i e
   rw [List.cons_append, mget, if_neg e]; exact mget_snoc_new L a v h
structure Passed (s s1 : LdS) (f t a v : Int) : Prop where
 hv : 1 ≤ v ∧ v ≤ 1048576
 hf : mget s.L (f, a) = some v
 ht : mget s.L (t, a) = none
 L : s1.L = mdel (s.L ++ [((t, a), v)]) (f, a)
 q : s1.q = s.q
 h : ∀ k, s1.h k = if k = f then s.h f - v else if k = t then s.h t + v else s.h k
theorem passed {N : Nat} {s : LdS} (hok : LdOk N s) {f t a : Int} (hne : f ≠ t) (hr : 0 ≤ f ∧ f < 4 ∧ 0 ≤ t ∧ t < 4) (hc : (s.pass f t a).2 = 0) : ∃ v, Passed s (s.pass f t a).1 f t a v := by
 unfold LdS.pass at hc ⊢
 rw [if_neg (by omega)] at hc ⊢
 cases hg : mget s.L (f, a) with
 | none => rw [hg] at hc; simp at hc
 | some v =>
  rw [hg] at hc
  simp only [if_neg hne] at hc ⊢
  obtain ⟨j, hj, _⟩ := mget_at hok.nd hg
  have hk := hok.key _ (List.mem_of_getElem? hj)
  have hv : 1 ≤ v ∧ v ≤ 1048576 := ⟨hk.2.2.1, hk.2.2.2.1⟩
  by_cases ht : (s.take t a v).2 = 0
  ·rw [if_neg (by omega)] at hc ⊢
   have ht2 := ht
   unfold LdS.take at ht
   rw [if_neg (by omega)] at ht
   split at ht
   ·simp at ht
   ·rename_i hn
    split at ht
    ·simp at ht
    ·rename_i hq
     have e1 : (s.take t a v).1 = ⟨s.L ++ [((t, a), v)], s.q, upI s.h t (s.h t + v), upI s.pk t (max (s.pk t) (s.h t + v)), upI s.tk t (s.tk t + v)⟩ := by
      unfold LdS.take
      rw [if_neg (by omega), if_neg hn, if_neg hq]
     have hgf : mget (s.take t a v).1.L (f, a) = some v := by rw [e1]; exact mget_app _ _ _ _ hg
     have e2 : ((s.take t a v).1.give f a).1 = ⟨mdel (s.L ++ [((t, a), v)]) (f, a), s.q, upI (upI s.h t (s.h t + v)) f (upI s.h t (s.h t + v) f - v), upI s.pk t (max (s.pk t) (s.h t + v)), upI s.tk t (s.tk t + v)⟩ := by
      unfold LdS.give
      rw [if_neg (by omega), hgf, e1]
     refine ⟨v, hv, hg, by simpa using hn, by rw [e2], by rw [e2], fun k => ?_⟩
     rw [e2]
     show upI (upI s.h t (s.h t + v)) f (upI s.h t (s.h t + v) f - v) k = _
     by_cases e : k = f
     ·subst e
      rw [upI_at, if_pos rfl, upI_off _ _ hne]
     ·rw [upI_off _ _ e, if_neg e]
      by_cases e' : k = t
      ·subst e'; rw [upI_at, if_pos rfl]
      ·rw [upI_off _ _ e', if_neg e']
  ·rw [if_pos ht] at hc
   exact (ht hc).elim
/-- what is passed on, and back, leaves all as it was -/
theorem pass_back {N : Nat} {s : LdS} (hok : LdOk N s) {f t a : Int} (hc : (s.pass f t a).2 = 0) :
  ((s.pass f t a).1.pass t f a).2 = 0 ∧ (∀ k, ((s.pass f t a).1.pass t f a).1.h k = s.h k) ∧ ((s.pass f t a).1.h 0 + (s.pass f t a).1.h 1 + (s.pass f t a).1.h 2 + (s.pass f t a).1.h 3 = s.h 0 + s.h 1 + s.h 2 + s.h 3) := by
 by_cases hr : 0 ≤ f ∧ f < 4 ∧ 0 ≤ t ∧ t < 4
 ·by_cases hne : f = t
  ·subst hne
   unfold LdS.pass at hc
   rw [if_neg (by omega)] at hc
   cases hg : mget s.L (f, a) with
   | none => rw [hg] at hc; simp at hc
   | some v =>
    have e1 : s.pass f f a = (s, 0) := by
     unfold LdS.pass
     rw [if_neg (by omega), hg]
     simp
    rw [e1]
    show (s.pass f f a).2 = 0 ∧ (∀ k, (s.pass f f a).1.h k = s.h k) ∧ _
    rw [e1]
    exact ⟨rfl, fun _ => rfl, rfl⟩
  ·obtain ⟨v, P⟩ := passed hok hne hr hc
   obtain ⟨hv, hf, ht, hL, hq, hh⟩ := P
   obtain ⟨q1, q2, q3⟩ := hok.q f (by omega) (by omega)
   have hnd2 : ((s.L ++ [((t, a), v)]).map Prod.fst).Nodup := by
    simp only [List.map_append, List.map_cons, List.map_nil]
    exact List.nodup_append.2 ⟨hok.nd, by simp, fun x hx y hy e => by
     rw [List.mem_singleton.1 hy] at e
     rw [e] at hx
     exact mget_none_mem ht hx⟩
   have hne2 : ((t, a) : Int × Int) ≠ (f, a) := fun e => hne (by injection e with e _; exact e.symm)
   have g1 : mget (s.pass f t a).1.L (t, a) = some v := by rw [hL, mdel_other _ _ _ hne2]; exact mget_snoc_new _ _ _ ht
   have g2 : mget (s.pass f t a).1.L (f, a) = none := by rw [hL]; exact mdel_same _ _ hnd2
   generalize (s.pass f t a).1 = s1 at *
   have ht2 : (s1.take f a v).2 = 0 := by
    unfold LdS.take
    rw [if_neg (by omega), g2, if_neg (by simp), if_neg]
    rw [hq, hh f, if_pos rfl]
    omega
   have e1 : (s1.take f a v).1 = ⟨s1.L ++ [((f, a), v)], s1.q, upI s1.h f (s1.h f + v), upI s1.pk f (max (s1.pk f) (s1.h f + v)), upI s1.tk f (s1.tk f + v)⟩ := by
    unfold LdS.take
    rw [if_neg (by omega), g2, if_neg (by simp), if_neg]
    rw [hq, hh f, if_pos rfl]
    omega
   have hgv := pass_give (s := s1) (f := t) (t := f) (a := a) (v := v) (by omega) g1 ht2
   have e2 : s1.pass t f a = (((s1.take f a v).1.give t a).1, ((s1.take f a v).1.give t a).2.2) := by
    unfold LdS.pass
    rw [if_neg (by omega), g1]
    simp only [if_neg (fun e => hne e.symm : ¬ t = f)]
    rw [if_neg (by omega)]
   rw [e2]
   refine ⟨hgv, fun k => ?_, ?_⟩
   ·have g3 : mget (s1.take f a v).1.L (t, a) = some v := by rw [e1]; exact mget_app _ _ _ _ g1
    have e3 : ((s1.take f a v).1.give t a).1.h = upI (upI s1.h f (s1.h f + v)) t (upI s1.h f (s1.h f + v) t - v) := by
     unfold LdS.give
     rw [if_neg (by omega), g3, e1]
    show ((s1.take f a v).1.give t a).1.h k = _
    rw [e3]
    by_cases k1 : k = t
    ·subst k1
     rw [upI_at, upI_off _ _ (fun e => hne e.symm), hh k, if_neg (fun e => hne e.symm), if_pos rfl]; omega
    ·rw [upI_off _ _ k1]
     by_cases k2 : k = f
     ·subst k2; rw [upI_at, hh k, if_pos rfl]; omega
     ·rw [upI_off _ _ k2, hh k, if_neg k2, if_neg k1]
   ·rw [hh 0, hh 1, hh 2, hh 3]
    rcases (by omega : f = 0 ∨ f = 1 ∨ f = 2 ∨ f = 3) with rfl | rfl | rfl | rfl <;> rcases (by omega : t = 0 ∨ t = 1 ∨ t = 2 ∨ t = 3) with rfl | rfl | rfl | rfl <;> simp at hne ⊢ <;> omega
 ·unfold LdS.pass at hc
  rw [if_pos (by omega)] at hc
  simp at hc
theorem pass_same {s : LdS} {f t a : Int} (hc : (s.pass f t a).2 ≠ 0) : (s.pass f t a).1 = s := by
 unfold LdS.pass at hc ⊢
 split
 ·rfl
 ·rename_i h1
  rw [if_neg h1] at hc
  split
  ·rfl
  ·rename_i v hv
   rw [hv] at hc
   simp only at hc
   split
   ·rfl
   ·rename_i h2
    rw [if_neg h2] at hc
    split
    ·rfl
    ·rename_i h3
     rw [if_neg h3] at hc
     exact (hc (pass_give (by omega) hv (by omega))).elim
/-- what is given can be taken again -/
theorem give_take {N : Nat} {s : LdS} (hok : LdOk N s) {f a : Int} (hc : (s.give f a).2.2 = 0) :
  (0 ≤ f ∧ f < 4) ∧ (s.give f a).1.h f = s.h f - (s.give f a).2.1 ∧ ((s.give f a).1.take f a (s.give f a).2.1).2 = 0 ∧ ((s.give f a).1.take f a (s.give f a).2.1).1.h f = s.h f ∧ 1 ≤ (s.give f a).2.1 ∧ (s.give f a).2.1 ≤ 1048576 := by
 have hr : 0 ≤ f ∧ f < 4 := by
  by_cases h : f < 0 ∨ 4 ≤ f
  ·unfold LdS.give at hc; rw [if_pos h] at hc; simp at hc
  ·omega
 obtain ⟨q1, q2, q3⟩ := hok.q f hr.1 hr.2
 unfold LdS.give at hc ⊢
 rw [if_neg (by omega)] at hc ⊢
 cases hg : mget s.L (f, a) with
 | none => rw [hg] at hc; simp at hc
 | some v =>
  obtain ⟨j, hj, _⟩ := mget_at hok.nd hg
  have hk := hok.key _ (List.mem_of_getElem? hj)
  have hv : 1 ≤ v ∧ v ≤ 1048576 := ⟨hk.2.2.1, hk.2.2.2.1⟩
  have g2 : mget (mdel s.L (f, a)) (f, a) = none := mdel_same _ _ hok.nd
  refine ⟨hr, ?_, ?_, ?_, hv⟩
  ·show upI s.h f (s.h f - v) f = _
   rw [upI_at]
  ·show (LdS.take ⟨mdel s.L (f, a), s.q, upI s.h f (s.h f - v), s.pk, s.tk⟩ f a v).2 = 0
   unfold LdS.take
   rw [if_neg (by omega)]
   simp only
   rw [g2, if_neg (by simp), if_neg]
   rw [upI_at]; omega
  ·show (LdS.take ⟨mdel s.L (f, a), s.q, upI s.h f (s.h f - v), s.pk, s.tk⟩ f a v).1.h f = _
   unfold LdS.take
   rw [if_neg (by omega)]
   simp only
   rw [g2, if_neg (by simp), if_neg]
   ·show upI (upI s.h f (s.h f - v)) f (upI s.h f (s.h f - v) f + v) f = _
    rw [upI_at, upI_at]; omega
   ·rw [upI_at]; omega
theorem give_none {s : LdS} {f a : Int} (hc : (s.give f a).2.2 ≠ 0) : (s.give f a).2.1 = 0 := by
 unfold LdS.give at hc ⊢
 split
 ·rfl
 ·rename_i h1
  rw [if_neg h1] at hc
  split
  ·rfl
  ·rename_i v hv
   rw [hv] at hc
   simp at hc
end Go.Proofs.Ytpbimgopiammaaa
end

section
namespace Go.Proofs.Ytpbimgopiammaaa
open Go.RowKit
structure LOp where
 f0 : Int
 f1 : Int
 f2 : Int
 f3 : Int
 A4 : Option Addr
 n4 : Nat
 c4 : Nat
 xs4 : List Int
def LOp.cells (u : LOp) : List Value := [.int .i64 u.f0, .int .i64 u.f1, .int .i64 u.f2, .int .i64 u.f3, .slice u.A4 u.n4 u.c4]
structure LOpOk (w : World) (u : LOp) : Prop where
 w0 : (Lit.int .i64 u.f0).wf = true
 w1 : (Lit.int .i64 u.f1).wf = true
 w2 : (Lit.int .i64 u.f2).wf = true
 w3 : (Lit.int .i64 u.f3).wf = true
 s4 : Sees (Value.int .i64) w [] u.A4 u.xs4
 l4 : u.xs4.length = u.n4
 m4 : u.n4 ≤ u.c4 ∧ u.c4 ≤ maxLen
 b4 : ∀ z ∈ u.xs4, (Lit.int .i64 z).wf = true
def ScriptLOp (w : World) (A : Option Addr) (ops : List LOp) : Prop := (ops.length ≠ 0 → ∃ b o, A = some ⟨b, o, none⟩ ∧ ∀ i op, ops[i]? = some op → Reads (fun v : Value => v) w b (o + i * 5) op.cells) ∧ ∀ op ∈ ops, LOpOk w op
theorem LOpOk.later {w W : World} {u : LOp} (h : LOpOk w u) (hO : Only [] w W) : LOpOk W u := ⟨h.w0, h.w1, h.w2, h.w3, h.s4.later hO (by simp), h.l4, h.m4, h.b4⟩
theorem ScriptLOp.later {w W : World} {A : Option Addr} {ops : List LOp} (h : ScriptLOp w A ops) (hO : Only [] w W) : ScriptLOp W A ops :=
 ⟨fun h0 => by
  obtain ⟨b, o, e, hr⟩ := h.1 h0
  exact ⟨b, o, e, fun i op hi => (hr i op hi).later hO (by simp)⟩, fun op hop => (h.2 op hop).later hO⟩
section
open Go.ChangeShapes Go.WideShapes Go.Deep
variable {H : Type} {enc : TypeId × Value → H} {w : World} {base : Nat} {spare : Nat → Bool} {held : Bool}
set_option maxRecDepth 100000 in
theorem open_LOp {fuel : Nat} {cs : List Value} {y : DataW H × List MemPlace} (h : DataW.trod enc Try.prog w base spare held fuel 36 cs = some y) : ∃ op : LOp, cs = op.cells ∧ LOpOk w op := by
 obtain ⟨xs, n, _, _, hl, hlen, hg⟩ := DataW.trod_struct Try.underlying36 h
 have hone := o_one Try.underlying36 (by kernel_rfl)
 have hcl : cs.length = 5 := hl.trans (by kernel_rfl)
 replace hlen : xs.length = 5 := hlen
 match cs, hcl, xs, hlen with
 | [c0, c1, c2, c3, c4], _, [y0, y1, y2, y3, y4], _ =>
  obtain ⟨o0, k0⟩ := hone_of hone 0 _ rfl
  obtain ⟨o1, k1⟩ := hone_of hone 1 _ rfl
  obtain ⟨o2, k2⟩ := hone_of hone 2 _ rfl
  obtain ⟨o3, k3⟩ := hone_of hone 3 _ rfl
  obtain ⟨o4, k4⟩ := hone_of hone 4 _ rfl
  have g0 := hg 0 _ rfl
  have g1 := hg 1 _ rfl
  have g2 := hg 2 _ rfl
  have g3 := hg 3 _ rfl
  have g4 := hg 4 _ rfl
  rw [o0, k0] at g0
  rw [o1, k1] at g1
  rw [o2, k2] at g2
  rw [o3, k3] at g3
  rw [o4, k4] at g4
  replace g0 := g0.trans (show _ = some y0 from rfl)
  replace g1 := g1.trans (show _ = some y1 from rfl)
  replace g2 := g2.trans (show _ = some y2 from rfl)
  replace g3 := g3.trans (show _ = some y3 from rfl)
  replace g4 := g4.trans (show _ = some y4 from rfl)
  obtain ⟨z0, e0, _, w0⟩ := DataW.trod_int Try.underlying3 g0
  obtain ⟨z1, e1, _, w1⟩ := DataW.trod_int Try.underlying3 g1
  obtain ⟨z2, e2, _, w2⟩ := DataW.trod_int Try.underlying3 g2
  obtain ⟨z3, e3, _, w3⟩ := DataW.trod_int Try.underlying3 g3
  obtain ⟨A4, m4, q4, bs4, e4, hs4, hb4, hmc4, hcm4, hw4⟩ := o_sees Try.underlying22 Try.underlying3 (by kernel_rfl) (show DataW.trod enc Try.prog w base spare held n 22 [c4] = some y4 from g4)
  obtain rfl : c0 = .int .i64 z0 := by simpa using e0
  obtain rfl : c1 = .int .i64 z1 := by simpa using e1
  obtain rfl : c2 = .int .i64 z2 := by simpa using e2
  obtain rfl : c3 = .int .i64 z3 := by simpa using e3
  subst e4
  exact ⟨⟨z0, z1, z2, z3, A4, m4, q4, bs4⟩, rfl, w0, w1, w2, w3, hs4, hb4, ⟨hmc4, hcm4⟩, hw4⟩
set_option maxRecDepth 100000 in
theorem opens_LOp (W : World) {r : Reach} (b0 : Nat) (v : Value) (d : DataW H) (p : List MemPlace)
  (hv : Value.okWide Try.prog W r b0 23 v) (h : DataW.Trod enc Try.prog W base spare held 23 v d p) :
  ∃ x : Option Addr × Nat × Nat × List LOp, v = .slice x.1 x.2.1 x.2.2.1 ∧ (ScriptLOp W x.1 x.2.2.2 ∧ x.2.2.2.length = x.2.1 ∧ x.2.1 ≤ 9223372036854775807 ∧ x.2.1 ≤ x.2.2.1) := by
 obtain ⟨a, len, cap, rfl⟩ := okWide_slice Try.underlying23 hv
 obtain ⟨fuel, hf⟩ := h
 have c5 : Try.prog.cellsOf 36 = 5 := by kernel_rfl
 rcases open_slice Try.underlying23 hf with ⟨hcs, _⟩ | ⟨x, l, c, m, n, D, Pl, hcs, _, hl, hm, hmm, _, hx⟩
 ·simp [Value.cells] at hcs
  obtain ⟨rfl, rfl, rfl⟩ := hcs
  exact ⟨(none, 0, 0, []), rfl, ⟨fun h => absurd rfl h, by simp⟩, rfl, by show (0 : Nat) ≤ _; omega, by show (0 : Nat) ≤ _; omega⟩
 ·simp [Value.cells] at hcs
  obtain ⟨rfl, rfl, rfl⟩ := hcs
  rw [c5] at hx
  have hlm : len ≤ m := by rw [hmm]; split <;> omega
  obtain ⟨ops, hol, hq⟩ := o_list (Q := fun i (op : LOp) => LOpOk W op ∧ ∀ j u, op.cells[j]? = some u → W.cell? (x.add (i * 5 + j)) = some u) len (fun i hi => by
   obtain ⟨cs', hc, ht⟩ := hx i (by omega)
   obtain ⟨op, rfl, hok⟩ := open_LOp ht
   obtain ⟨_, hcl, hat⟩ := World.cells?_some hc
   refine ⟨op, hok, fun j u hj => ?_⟩
   have hj5 : j < 5 := by have := (List.getElem?_eq_some_iff.1 hj).1; rw [hcl] at this; exact this
   rw [← Go.Deep.add_add, hat j hj5, hj])
  refine ⟨(some x, len, cap, ops), rfl, ⟨fun h0 => ?_, fun op hop => ?_⟩, hol, by simp only [maxLen] at hm; show len ≤ _; omega, by show len ≤ cap; omega⟩
  ·have h00 : ops.length ≠ 0 := h0
   obtain ⟨op0, hop0⟩ : ∃ op, ops[0]? = some op := ⟨_, List.getElem?_eq_getElem (by omega)⟩
   obtain ⟨b, off, spot⟩ := x
   have hc0 := (hq 0 op0 hop0).2 0 _ rfl
   have hspot : spot = none := by simpa [Addr.add] using World.cell?_spot hc0
   subst hspot
   refine ⟨b, off, rfl, fun i op hi j u hu => ?_⟩
   have := (hq i op hi).2 j u hu
   rw [o_add] at this
   rw [Nat.add_assoc]; exact this
  ·obtain ⟨i, hi, rfl⟩ := List.mem_iff_getElem.1 hop
   exact (hq i _ (List.getElem?_eq_getElem hi)).1
end
theorem wfI_of {z : Int} (h : (Lit.int .i64 z).wf = true) : wfI z := by
 simp [Lit.wf, IntKind.min, IntKind.max, IntKind.signed, IntKind.bits] at h; exact h
end Go.Proofs.Ytpbimgopiammaaa
end

section
namespace Go.Proofs.Ytpbimgopiammaaa
open Go.RowKit Go.ChangeShapes Go.WideShapes Go.ChangeAt
set_option maxRecDepth 100000
set_option maxHeartbeats 8000000
end Go.Proofs.Ytpbimgopiammaaa
end

section
namespace Go.Proofs.Ytpbimgopiammaaa
open Go.RowKit Go.ChangeShapes Go.WideShapes Go.ChangeAt
set_option maxRecDepth 100000
set_option maxHeartbeats 8000000
theorem getM_eq {g h : Int → Int} (e : ∀ k, g k = h k) (m : Int) : getM g m = getM h m := by unfold getM; rw [e m]
theorem walk_LedgerBack (A : Option Addr) (n c : Nat) (zs : List Int) (x : Option Addr × Nat × Nat × List LOp) (fr to at_ : Int) (w : World) (hA : IsRow .i64 w A n c zs)
  (hx : ScriptLOp w x.1 x.2.2.2 ∧ x.2.2.2.length = x.2.1 ∧ x.2.1 ≤ 9223372036854775807 ∧ x.2.1 ≤ x.2.2.1) (wfr : (Lit.int .i64 fr).wf = true) (wto : (Lit.int .i64 to).wf = true) (wat : (Lit.int .i64 at_).wf = true) :
  Calls Try.prog 3 [.slice A n c, .slice x.1 x.2.1 x.2.2.1, .agg [.int .i64 fr, .int .i64 to, .int .i64 at_].toArray].toArray w fun e w' => e = .returned (.bool true) ∧ Below w.heap.size w w' := by
 obtain ⟨B, l, d, ops⟩ := x
 obtain ⟨hs, hl, hn, hc⟩ := hx
 simp only at hs hl hn hc ⊢
 obtain ⟨hQ, hql, hqc, _, hqw⟩ := o_words hA
 obtain ⟨qs, hqs⟩ : ∃ qs, zs.take n = qs := ⟨_, rfl⟩
 rw [hqs] at hQ hql hqw
 have hqb : ∀ z ∈ qs, wfI z := fun z hz => wfI_of (hqw z hz)
 have ha := wfI_of wat
 have H := Heap.nil w
 by_cases hbig : 10 < n
 ·refine k_in (N := 147) Try.func3 rfl rfl rfl ?_
  refine k_sg ?_
  refine s_box H rfl rfl ?_
  intro p5 _ H'; clear H; have H := H'; clear H'
  refine s_run rfl rfl (rab rfl) ?_
  refine k_nc ?_
  refine k_seq ?_
  refine k_sg ?_
  refine s_call rfl (awake49 _) (ca8 rfl) ?_
  rintro e W1 ⟨rfl, H'⟩
  refine ⟨_, rfl, ?_⟩
  have H := H.same H'; clear H'
  refine s_run rfl rfl (r_notT rfl) ?_
  refine k_nc ?_
  refine k_f rfl ?_
  refine k_skip ?_
  refine c_norm ?_
  refine k_seq ?_
  refine k_q mixed (by kernel_rfl) H ?_
  refine q_run rfl rfl (fun _ H => r_ia0 (i := 0) rfl rfl (by omega) (by omega) Try.underlying24 sz3) ?_
  refine q_run rfl rfl (fun _ H => r_lo H 0 rfl rfl rfl ag3) ?_
  refine q_run rfl rfl (fun _ H => r_ia0 (i := 1) rfl rfl (by omega) (by omega) Try.underlying24 sz3) ?_
  refine q_run rfl rfl (fun _ H => r_lo H 0 rfl rfl rfl ag3) ?_
  refine q_run rfl rfl (fun _ H => r_ia0 (i := 2) rfl rfl (by omega) (by omega) Try.underlying24 sz3) ?_
  refine q_run rfl rfl (fun _ H => r_lo H 0 rfl rfl rfl ag3) ?_
  refine q_run rfl rfl (fun _ H => r_as (v := .int _ _) rfl) ?_
  refine q_run rfl rfl (fun _ H => r_as (v := .int _ _) rfl) ?_
  refine q_run rfl rfl (fun _ H => r_as (v := .int _ _) rfl) ?_
  refine q_nil ?_
  intro _ H'; clear H; have H := H'; clear H'
  refine c_norm ?_
  refine k_seq ?_
  refine k_sg ?_
  refine s_run rfl rfl (rms rfl) ?_
  refine s_run rfl rfl (r_len rfl Try.underlying22) ?_
  refine s_run rfl rfl (r_gtrT rfl rfl (by omega)) ?_
  refine k_nc ?_
  refine k_t rfl ?_
  refine k_sg ?_
  refine s_run rfl rfl (rab rfl) ?_
  refine k_nc ?_
  refine k_ret ?_
  refine c_ret ?_
  refine fin1r (v := .bool _) rfl rfl ?_
  exact ⟨rfl, H.below⟩
 ·have hN := fun {W : World} h => oNewL A n c qs W (hQ.later h (fun _ h => h)) hql (by omega)
  refine k_in (N := 147) Try.func3 rfl rfl rfl ?_
  refine k_sg ?_
  refine s_box H rfl rfl ?_
  intro p5 _ H'; clear H; have H := H'; clear H'
  refine s_run rfl rfl (rab rfl) ?_
  refine k_nc ?_
  refine k_seq ?_
  refine k_sg ?_
  refine s_call rfl (awake49 _) (ca8 rfl) ?_
  rintro e W1 ⟨rfl, H'⟩
  refine ⟨_, rfl, ?_⟩
  have H := H.same H'; clear H'
  refine s_run rfl rfl (r_notT rfl) ?_
  refine k_nc ?_
  refine k_f rfl ?_
  refine k_skip ?_
  refine c_norm ?_
  refine k_seq ?_
  refine k_q mixed (by kernel_rfl) H ?_
  refine q_run rfl rfl (fun _ H => r_ia0 (i := 0) rfl rfl (by omega) (by omega) Try.underlying24 sz3) ?_
  refine q_run rfl rfl (fun _ H => r_lo H 0 rfl rfl rfl ag3) ?_
  refine q_run rfl rfl (fun _ H => r_ia0 (i := 1) rfl rfl (by omega) (by omega) Try.underlying24 sz3) ?_
  refine q_run rfl rfl (fun _ H => r_lo H 0 rfl rfl rfl ag3) ?_
  refine q_run rfl rfl (fun _ H => r_ia0 (i := 2) rfl rfl (by omega) (by omega) Try.underlying24 sz3) ?_
  refine q_run rfl rfl (fun _ H => r_lo H 0 rfl rfl rfl ag3) ?_
  refine q_run rfl rfl (fun _ H => r_as (v := .int _ _) rfl) ?_
  refine q_run rfl rfl (fun _ H => r_as (v := .int _ _) rfl) ?_
  refine q_run rfl rfl (fun _ H => r_as (v := .int _ _) rfl) ?_
  refine q_nil ?_
  intro _ H'; clear H; have H := H'; clear H'
  refine c_norm ?_
  refine k_seq ?_
  refine k_sg ?_
  refine s_run rfl rfl (rms rfl) ?_
  refine s_run rfl rfl (r_len rfl Try.underlying22) ?_
  refine s_run rfl rfl (r_gtrF rfl rfl (by omega)) ?_
  refine k_nc ?_
  refine k_f rfl ?_
  refine k_skip ?_
  refine c_norm ?_
  refine k_sg ?_
  refine s_run rfl rfl (rms rfl) ?_
  refine s_call rfl (hN H.only) (ca9 rfl) ?_
  rintro e W1 ⟨p, b, rfl, H'⟩
  refine ⟨_, rfl, ?_⟩
  have H := H.more (A := [grp _]) (grp_heap H'); clear H'; simp only [List.cons_append, List.nil_append] at H
  refine s_run rfl rfl (rap rfl) ?_
  refine k_nc ?_
  refine k_seq ?_
  refine k_sg ?_
  refine s_run rfl rfl (rmp rfl) ?_
  refine s_run rfl rfl (r_ptnilF rfl rfl Try.underlying26) ?_
  refine k_nc ?_
  refine k_f rfl ?_
  refine k_skip ?_
  refine c_norm ?_
  refine k_seq ?_
  refine k_sg ?_
  refine s_run rfl rfl (rai rfl) ?_
  refine k_nc ?_
  refine k_cut (fun f W => ∃ (i : Nat) (s : LdS), i ≤ 60 ∧ LdOk i s ∧ f 7 = .int .i64 fr ∧ f 8 = .int .i64 to ∧ f 9 = .int .i64 at_ ∧ f 10 = ptrL p ∧ Heap w [] [grp (ldE p b s)] W) ?_ ?_
  rotate_left
  ·clear H
   rintro f W ⟨i, s, hi60, hok, f7, f8, f9, f10, H⟩
   obtain ⟨f, rfl⟩ := live4 f7 f8 f9 f10
   clear f7 f8 f9 f10
   have oH := fun {s} {W : World} (hE : Ents (ldE p b s) W) m => oHeld p b s m W hE
   have oT := fun {s N} {W : World} (hE : Ents (ldE p b s) W) (h : LdOk N s) hN => oTotal p b s N W hE h hN
   have oP := fun {s N} {W : World} (hE : Ents (ldE p b s) W) f t (h : LdOk N s) hN => oPass p b s N f t at_ W hE h hN ha
   have oG := fun {s N} {W : World} (hE : Ents (ldE p b s) W) (h : LdOk N s) hN => oGive p b s N fr at_ W hE h hN ha
   have oTk := fun {s N} {W : World} (hE : Ents (ldE p b s) W) x (h : LdOk N s) hN => oTake p b s N fr at_ x W hE h hN ha
   have hok1 := hok.pass fr to at_ ha
   by_cases hc0 : (s.pass fr to at_).2 = 0
   ·obtain ⟨back1, back2, back3⟩ := pass_back hok hc0
    obtain ⟨s1, hs1⟩ : ∃ s1, (s.pass fr to at_).1 = s1 := ⟨_, rfl⟩
    have oP1 := fun {W : World} hE => oP (s := s) (W := W) hE fr to hok (by omega)
    rw [hs1] at back1 back2 back3 hok1 oP1
    rw [hc0] at oP1
    have hok2 := hok1.pass to fr at_ ha
    have oP2 := fun {W : World} hE => oP (s := s1) (W := W) hE to fr hok1 (by omega)
    obtain ⟨s2, hs2⟩ : ∃ s2, (s1.pass to fr at_).1 = s2 := ⟨_, rfl⟩
    rw [hs2] at back2 hok2 oP2
    rw [back1] at oP2
    have oT1 := fun {W : World} hE => oT (s := s1) (W := W) hE hok1 (by omega)
    rw [back3] at oT1
    have oHA := fun {W : World} hE => oH (s := s) (W := W) hE fr
    have oHB := fun {W : World} hE => oH (s := s) (W := W) hE to
    have oHA2 := fun {W : World} hE => oH (s := s2) (W := W) hE fr
    have oHB2 := fun {W : World} hE => oH (s := s2) (W := W) hE to
    rw [getM_eq back2] at oHA2 oHB2
    have oT0 := fun {W : World} hE => oT (s := s) (W := W) hE hok (by omega)
    have oT2 := fun {W : World} hE => oT (s := s2) (W := W) hE hok2 (by omega)
    rw [back2 0, back2 1, back2 2, back2 3] at oT2
    have hokG := hok2.give fr at_
    have oG1 := fun {W : World} hE => oG (s := s2) (W := W) hE hok2 (by omega)
    by_cases hg : (s2.give fr at_).2.2 = 0
    ·obtain ⟨hr, g1, g2, g3, g4, g5⟩ := give_take hok2 hg
     have hbd := hok2.bd fr hr.1 hr.2
     obtain ⟨s3, hs3⟩ : ∃ s3, (s2.give fr at_).1 = s3 := ⟨_, rfl⟩
     obtain ⟨v, hv⟩ : ∃ v, (s2.give fr at_).2.1 = v := ⟨_, rfl⟩
     have gA : getM s.h fr = s2.h fr := by unfold getM; rw [if_pos hr]; exact (back2 fr).symm
     have gB : getM (s2.give fr at_).1.h fr = s2.h fr - v := by unfold getM; rw [if_pos hr, g1, hv]
     rw [hs3, hv] at oG1 g2 g3
     rw [hs3] at hokG gB
     rw [hv] at g4 g5
     rw [hg] at oG1
     have oTk1 := fun {W : World} hE => oTk (s := s3) (W := W) hE v hokG (by omega)
     rw [g2] at oTk1
     have oH3 := fun {W : World} hE => oH (s := s3) (W := W) hE fr
     have oH4 := fun {W : World} hE => oH (s := (s3.take fr at_ v).1) (W := W) hE fr
     rw [gB] at oH3
     have gC : getM (s3.take fr at_ v).1.h fr = s2.h fr := by unfold getM; rw [if_pos hr, g3]
     rw [gC] at oH4
     rw [gA] at oHA
     rw [gA] at oHA2
     refine c_norm ?_
     refine k_sg ?_
     refine s_run rfl rfl (rmp rfl) ?_
     refine s_run rfl rfl (rmi rfl) ?_
     refine s_call rfl (oHA (H.grp_ents 0 rfl)) (ca12 rfl) ?_
     rintro e W1 ⟨rfl, H'⟩
     refine ⟨_, rfl, ?_⟩
     have H := H.same H'; clear H'
     refine s_run rfl rfl (rmp rfl) ?_
     refine s_run rfl rfl (rmi rfl) ?_
     refine s_call rfl (oHB (H.grp_ents 0 rfl)) (ca12 rfl) ?_
     rintro e W1 ⟨rfl, H'⟩
     refine ⟨_, rfl, ?_⟩
     have H := H.same H'; clear H'
     refine s_run rfl rfl (rmp rfl) ?_
     refine s_call rfl (oT0 (H.grp_ents 0 rfl)) (ca13 rfl) ?_
     rintro e W1 ⟨rfl, H'⟩
     refine ⟨_, rfl, ?_⟩
     have H := H.same H'; clear H'
     refine s_run rfl rfl (rai rfl) ?_
     refine s_run rfl rfl (rai rfl) ?_
     refine s_run rfl rfl (rai rfl) ?_
     refine k_nc ?_
     refine k_seq ?_
     refine k_sg ?_
     refine s_run rfl rfl (rmp rfl) ?_
     refine s_run rfl rfl (rmi rfl) ?_
     refine s_run rfl rfl (rmi rfl) ?_
     refine s_run rfl rfl (rmi rfl) ?_
     refine s_call rfl (oP1 (H.grp_ents 0 rfl)) (ca14 rfl) ?_
     rintro e W1 ⟨rfl, H'⟩
     refine ⟨_, rfl, ?_⟩
     have H := H.grp_at 0 rfl H'; clear H'; simp only [List.set_cons_zero] at H
     refine s_run rfl rfl (r_eqlT rfl rfl (by omega)) ?_
     refine k_nc ?_
     refine k_t rfl ?_
     refine k_sg ?_
     refine s_run rfl rfl (rmp rfl) ?_
     refine s_call rfl (oT1 (H.grp_ents 0 rfl)) (ca13 rfl) ?_
     rintro e W1 ⟨rfl, H'⟩
     refine ⟨_, rfl, ?_⟩
     have H := H.same H'; clear H'
     refine s_run rfl rfl (rmi rfl) ?_
     refine s_run rfl rfl (r_neqF rfl rfl (by omega)) ?_
     refine s_run rfl rfl (rmb rfl) ?_
     refine s_run rfl (g_on 67 (by kernel_rfl) rfl) (rmp rfl) ?_
     refine s_run rfl (g_on 67 (by kernel_rfl) rfl) (rmi rfl) ?_
     refine s_run rfl (g_on 67 (by kernel_rfl) rfl) (rmi rfl) ?_
     refine s_run rfl (g_on 67 (by kernel_rfl) rfl) (rmi rfl) ?_
     refine s_call (g_on 67 (by kernel_rfl) rfl) (oP2 (H.grp_ents 0 rfl)) (ca14 rfl) ?_
     rintro e W1 ⟨rfl, H'⟩
     refine ⟨_, rfl, ?_⟩
     have H := H.grp_at 0 rfl H'; clear H'; simp only [List.set_cons_zero] at H
     refine s_run rfl (g_on 67 (by kernel_rfl) rfl) (r_neqF rfl rfl (by omega)) ?_
     refine s_run rfl rfl (r_pkF (v := .bool _) rfl rfl) ?_
     refine s_run rfl rfl (rmb rfl) ?_
     refine s_run rfl (g_on 75 (by kernel_rfl) rfl) (rmp rfl) ?_
     refine s_run rfl (g_on 75 (by kernel_rfl) rfl) (rmi rfl) ?_
     refine s_call (g_on 75 (by kernel_rfl) rfl) (oHA2 (H.grp_ents 0 rfl)) (ca12 rfl) ?_
     rintro e W1 ⟨rfl, H'⟩
     refine ⟨_, rfl, ?_⟩
     have H := H.same H'; clear H'
     refine s_run rfl (g_on 75 (by kernel_rfl) rfl) (rmi rfl) ?_
     refine s_run rfl (g_on 75 (by kernel_rfl) rfl) (r_neqF rfl rfl (by omega)) ?_
     refine s_run rfl rfl (r_pkF (v := .bool _) rfl rfl) ?_
     refine s_run rfl rfl (rmb rfl) ?_
     refine s_run rfl (g_on 82 (by kernel_rfl) rfl) (rmp rfl) ?_
     refine s_run rfl (g_on 82 (by kernel_rfl) rfl) (rmi rfl) ?_
     refine s_call (g_on 82 (by kernel_rfl) rfl) (oHB2 (H.grp_ents 0 rfl)) (ca12 rfl) ?_
     rintro e W1 ⟨rfl, H'⟩
     refine ⟨_, rfl, ?_⟩
     have H := H.same H'; clear H'
     refine s_run rfl (g_on 82 (by kernel_rfl) rfl) (rmi rfl) ?_
     refine s_run rfl (g_on 82 (by kernel_rfl) rfl) (r_neqF rfl rfl (by omega)) ?_
     refine s_run rfl rfl (r_pkF (v := .bool _) rfl rfl) ?_
     refine k_nc ?_
     refine k_f rfl ?_
     refine k_skip ?_
     refine c_norm ?_
     refine k_seq ?_
     refine k_sg ?_
     refine s_run rfl rfl (rmp rfl) ?_
     refine s_run rfl rfl (rmi rfl) ?_
     refine s_call rfl (oHA2 (H.grp_ents 0 rfl)) (ca12 rfl) ?_
     rintro e W1 ⟨rfl, H'⟩
     refine ⟨_, rfl, ?_⟩
     have H := H.same H'; clear H'
     refine s_run rfl rfl (rmi rfl) ?_
     refine s_run rfl rfl (r_neqF rfl rfl (by omega)) ?_
     refine s_run rfl rfl (rmb rfl) ?_
     refine s_run rfl (g_on 94 (by kernel_rfl) rfl) (rmp rfl) ?_
     refine s_run rfl (g_on 94 (by kernel_rfl) rfl) (rmi rfl) ?_
     refine s_call (g_on 94 (by kernel_rfl) rfl) (oHB2 (H.grp_ents 0 rfl)) (ca12 rfl) ?_
     rintro e W1 ⟨rfl, H'⟩
     refine ⟨_, rfl, ?_⟩
     have H := H.same H'; clear H'
     refine s_run rfl (g_on 94 (by kernel_rfl) rfl) (rmi rfl) ?_
     refine s_run rfl (g_on 94 (by kernel_rfl) rfl) (r_neqF rfl rfl (by omega)) ?_
     refine s_run rfl rfl (r_pkF (v := .bool _) rfl rfl) ?_
     refine s_run rfl rfl (rmb rfl) ?_
     refine s_run rfl (g_on 101 (by kernel_rfl) rfl) (rmp rfl) ?_
     refine s_call (g_on 101 (by kernel_rfl) rfl) (oT2 (H.grp_ents 0 rfl)) (ca13 rfl) ?_
     rintro e W1 ⟨rfl, H'⟩
     refine ⟨_, rfl, ?_⟩
     have H := H.same H'; clear H'
     refine s_run rfl (g_on 101 (by kernel_rfl) rfl) (rmi rfl) ?_
     refine s_run rfl (g_on 101 (by kernel_rfl) rfl) (r_neqF rfl rfl (by omega)) ?_
     refine s_run rfl rfl (r_pkF (v := .bool _) rfl rfl) ?_
     refine k_nc ?_
     refine k_f rfl ?_
     refine k_skip ?_
     refine c_norm ?_
     refine k_sg ?_
     refine s_run rfl rfl (rmp rfl) ?_
     refine s_run rfl rfl (rmi rfl) ?_
     refine s_run rfl rfl (rmi rfl) ?_
     refine s_call rfl (oG1 (H.grp_ents 0 rfl)) (ca15 rfl) ?_
     rintro e W1 ⟨rfl, H'⟩
     refine ⟨_, rfl, ?_⟩
     have H := H.grp_at 0 rfl H'; clear H'; simp only [List.set_cons_zero] at H
     refine s_run rfl rfl (rmt rfl) ?_
     refine s_run rfl rfl (r_ext (v := .int _ _) rfl rfl) ?_
     refine s_run rfl rfl (r_ext (v := .int _ _) rfl rfl) ?_
     refine s_run rfl rfl (rai rfl) ?_
     refine s_run rfl rfl (rai rfl) ?_
     refine k_nc ?_
     refine k_seq ?_
     refine k_sg ?_
     refine s_run rfl rfl (rmi rfl) ?_
     refine s_run rfl rfl (r_neqF rfl rfl (by omega)) ?_
     refine k_nc ?_
     refine k_f rfl ?_
     refine k_skip ?_
     refine c_norm ?_
     refine k_sg ?_
     refine s_run rfl rfl (rmp rfl) ?_
     refine s_run rfl rfl (rmi rfl) ?_
     refine s_call rfl (oH3 (H.grp_ents 0 rfl)) (ca12 rfl) ?_
     rintro e W1 ⟨rfl, H'⟩
     refine ⟨_, rfl, ?_⟩
     have H := H.same H'; clear H'
     refine s_run rfl rfl (rmi rfl) ?_
     refine s_run rfl rfl (rmi rfl) ?_
     refine s_run rfl rfl (r_sub rfl rfl (wI (by omega))) ?_
     refine s_run rfl rfl (r_eqlT rfl rfl (by omega)) ?_
     refine s_run rfl rfl (rmb rfl) ?_
     refine s_run rfl (g_on 132 (by kernel_rfl) rfl) (rmp rfl) ?_
     refine s_run rfl (g_on 132 (by kernel_rfl) rfl) (rmi rfl) ?_
     refine s_run rfl (g_on 132 (by kernel_rfl) rfl) (rmi rfl) ?_
     refine s_run rfl (g_on 132 (by kernel_rfl) rfl) (rmi rfl) ?_
     refine s_call (g_on 132 (by kernel_rfl) rfl) (oTk1 (H.grp_ents 0 rfl)) (ca16 rfl) ?_
     rintro e W1 ⟨rfl, H'⟩
     refine ⟨_, rfl, ?_⟩
     have H := H.grp_at 0 rfl H'; clear H'; simp only [List.set_cons_zero] at H
     refine s_run rfl (g_on 132 (by kernel_rfl) rfl) (r_eqlT rfl rfl (by omega)) ?_
     refine s_run rfl rfl (r_pkT (v := .bool _) rfl rfl) ?_
     refine s_run rfl rfl (rmb rfl) ?_
     refine s_run rfl (g_on 140 (by kernel_rfl) rfl) (rmp rfl) ?_
     refine s_run rfl (g_on 140 (by kernel_rfl) rfl) (rmi rfl) ?_
     refine s_call (g_on 140 (by kernel_rfl) rfl) (oH4 (H.grp_ents 0 rfl)) (ca12 rfl) ?_
     rintro e W1 ⟨rfl, H'⟩
     refine ⟨_, rfl, ?_⟩
     have H := H.same H'; clear H'
     refine s_run rfl (g_on 140 (by kernel_rfl) rfl) (rmi rfl) ?_
     refine s_run rfl (g_on 140 (by kernel_rfl) rfl) (r_eqlT rfl rfl (by omega)) ?_
     refine s_run rfl rfl (r_pkT (v := .bool _) rfl rfl) ?_
     refine s_run rfl rfl (rab rfl) ?_
     refine k_nc ?_
     refine k_ret ?_
     refine fin1r (v := .bool _) rfl rfl ?_
     exact ⟨rfl, H.below⟩
    ·have g0 := give_none hg
     have gS := give_same hg
     rw [g0, gS] at oG1
     refine c_norm ?_
     refine k_sg ?_
     refine s_run rfl rfl (rmp rfl) ?_
     refine s_run rfl rfl (rmi rfl) ?_
     refine s_call rfl (oHA (H.grp_ents 0 rfl)) (ca12 rfl) ?_
     rintro e W1 ⟨rfl, H'⟩
     refine ⟨_, rfl, ?_⟩
     have H := H.same H'; clear H'
     refine s_run rfl rfl (rmp rfl) ?_
     refine s_run rfl rfl (rmi rfl) ?_
     refine s_call rfl (oHB (H.grp_ents 0 rfl)) (ca12 rfl) ?_
     rintro e W1 ⟨rfl, H'⟩
     refine ⟨_, rfl, ?_⟩
     have H := H.same H'; clear H'
     refine s_run rfl rfl (rmp rfl) ?_
     refine s_call rfl (oT0 (H.grp_ents 0 rfl)) (ca13 rfl) ?_
     rintro e W1 ⟨rfl, H'⟩
     refine ⟨_, rfl, ?_⟩
     have H := H.same H'; clear H'
     refine s_run rfl rfl (rai rfl) ?_
     refine s_run rfl rfl (rai rfl) ?_
     refine s_run rfl rfl (rai rfl) ?_
     refine k_nc ?_
     refine k_seq ?_
     refine k_sg ?_
     refine s_run rfl rfl (rmp rfl) ?_
     refine s_run rfl rfl (rmi rfl) ?_
     refine s_run rfl rfl (rmi rfl) ?_
     refine s_run rfl rfl (rmi rfl) ?_
     refine s_call rfl (oP1 (H.grp_ents 0 rfl)) (ca14 rfl) ?_
     rintro e W1 ⟨rfl, H'⟩
     refine ⟨_, rfl, ?_⟩
     have H := H.grp_at 0 rfl H'; clear H'; simp only [List.set_cons_zero] at H
     refine s_run rfl rfl (r_eqlT rfl rfl (by omega)) ?_
     refine k_nc ?_
     refine k_t rfl ?_
     refine k_sg ?_
     refine s_run rfl rfl (rmp rfl) ?_
     refine s_call rfl (oT1 (H.grp_ents 0 rfl)) (ca13 rfl) ?_
     rintro e W1 ⟨rfl, H'⟩
     refine ⟨_, rfl, ?_⟩
     have H := H.same H'; clear H'
     refine s_run rfl rfl (rmi rfl) ?_
     refine s_run rfl rfl (r_neqF rfl rfl (by omega)) ?_
     refine s_run rfl rfl (rmb rfl) ?_
     refine s_run rfl (g_on 67 (by kernel_rfl) rfl) (rmp rfl) ?_
     refine s_run rfl (g_on 67 (by kernel_rfl) rfl) (rmi rfl) ?_
     refine s_run rfl (g_on 67 (by kernel_rfl) rfl) (rmi rfl) ?_
     refine s_run rfl (g_on 67 (by kernel_rfl) rfl) (rmi rfl) ?_
     refine s_call (g_on 67 (by kernel_rfl) rfl) (oP2 (H.grp_ents 0 rfl)) (ca14 rfl) ?_
     rintro e W1 ⟨rfl, H'⟩
     refine ⟨_, rfl, ?_⟩
     have H := H.grp_at 0 rfl H'; clear H'; simp only [List.set_cons_zero] at H
     refine s_run rfl (g_on 67 (by kernel_rfl) rfl) (r_neqF rfl rfl (by omega)) ?_
     refine s_run rfl rfl (r_pkF (v := .bool _) rfl rfl) ?_
     refine s_run rfl rfl (rmb rfl) ?_
     refine s_run rfl (g_on 75 (by kernel_rfl) rfl) (rmp rfl) ?_
     refine s_run rfl (g_on 75 (by kernel_rfl) rfl) (rmi rfl) ?_
     refine s_call (g_on 75 (by kernel_rfl) rfl) (oHA2 (H.grp_ents 0 rfl)) (ca12 rfl) ?_
     rintro e W1 ⟨rfl, H'⟩
     refine ⟨_, rfl, ?_⟩
     have H := H.same H'; clear H'
     refine s_run rfl (g_on 75 (by kernel_rfl) rfl) (rmi rfl) ?_
     refine s_run rfl (g_on 75 (by kernel_rfl) rfl) (r_neqF rfl rfl (by omega)) ?_
     refine s_run rfl rfl (r_pkF (v := .bool _) rfl rfl) ?_
     refine s_run rfl rfl (rmb rfl) ?_
     refine s_run rfl (g_on 82 (by kernel_rfl) rfl) (rmp rfl) ?_
     refine s_run rfl (g_on 82 (by kernel_rfl) rfl) (rmi rfl) ?_
     refine s_call (g_on 82 (by kernel_rfl) rfl) (oHB2 (H.grp_ents 0 rfl)) (ca12 rfl) ?_
     rintro e W1 ⟨rfl, H'⟩
     refine ⟨_, rfl, ?_⟩
     have H := H.same H'; clear H'
     refine s_run rfl (g_on 82 (by kernel_rfl) rfl) (rmi rfl) ?_
     refine s_run rfl (g_on 82 (by kernel_rfl) rfl) (r_neqF rfl rfl (by omega)) ?_
     refine s_run rfl rfl (r_pkF (v := .bool _) rfl rfl) ?_
     refine k_nc ?_
     refine k_f rfl ?_
     refine k_skip ?_
     refine c_norm ?_
     refine k_seq ?_
     refine k_sg ?_
     refine s_run rfl rfl (rmp rfl) ?_
     refine s_run rfl rfl (rmi rfl) ?_
     refine s_call rfl (oHA2 (H.grp_ents 0 rfl)) (ca12 rfl) ?_
     rintro e W1 ⟨rfl, H'⟩
     refine ⟨_, rfl, ?_⟩
     have H := H.same H'; clear H'
     refine s_run rfl rfl (rmi rfl) ?_
     refine s_run rfl rfl (r_neqF rfl rfl (by omega)) ?_
     refine s_run rfl rfl (rmb rfl) ?_
     refine s_run rfl (g_on 94 (by kernel_rfl) rfl) (rmp rfl) ?_
     refine s_run rfl (g_on 94 (by kernel_rfl) rfl) (rmi rfl) ?_
     refine s_call (g_on 94 (by kernel_rfl) rfl) (oHB2 (H.grp_ents 0 rfl)) (ca12 rfl) ?_
     rintro e W1 ⟨rfl, H'⟩
     refine ⟨_, rfl, ?_⟩
     have H := H.same H'; clear H'
     refine s_run rfl (g_on 94 (by kernel_rfl) rfl) (rmi rfl) ?_
     refine s_run rfl (g_on 94 (by kernel_rfl) rfl) (r_neqF rfl rfl (by omega)) ?_
     refine s_run rfl rfl (r_pkF (v := .bool _) rfl rfl) ?_
     refine s_run rfl rfl (rmb rfl) ?_
     refine s_run rfl (g_on 101 (by kernel_rfl) rfl) (rmp rfl) ?_
     refine s_call (g_on 101 (by kernel_rfl) rfl) (oT2 (H.grp_ents 0 rfl)) (ca13 rfl) ?_
     rintro e W1 ⟨rfl, H'⟩
     refine ⟨_, rfl, ?_⟩
     have H := H.same H'; clear H'
     refine s_run rfl (g_on 101 (by kernel_rfl) rfl) (rmi rfl) ?_
     refine s_run rfl (g_on 101 (by kernel_rfl) rfl) (r_neqF rfl rfl (by omega)) ?_
     refine s_run rfl rfl (r_pkF (v := .bool _) rfl rfl) ?_
     refine k_nc ?_
     refine k_f rfl ?_
     refine k_skip ?_
     refine c_norm ?_
     refine k_sg ?_
     refine s_run rfl rfl (rmp rfl) ?_
     refine s_run rfl rfl (rmi rfl) ?_
     refine s_run rfl rfl (rmi rfl) ?_
     refine s_call rfl (oG1 (H.grp_ents 0 rfl)) (ca15 rfl) ?_
     rintro e W1 ⟨rfl, H'⟩
     refine ⟨_, rfl, ?_⟩
     have H := H.grp_at 0 rfl H'; clear H'; simp only [List.set_cons_zero] at H
     refine s_run rfl rfl (rmt rfl) ?_
     refine s_run rfl rfl (r_ext (v := .int _ _) rfl rfl) ?_
     refine s_run rfl rfl (r_ext (v := .int _ _) rfl rfl) ?_
     refine s_run rfl rfl (rai rfl) ?_
     refine s_run rfl rfl (rai rfl) ?_
     refine k_nc ?_
     refine k_seq ?_
     refine k_sg ?_
     refine s_run rfl rfl (rmi rfl) ?_
     refine s_run rfl rfl (r_neqT rfl rfl (by omega)) ?_
     refine k_nc ?_
     refine k_t rfl ?_
     refine k_sg ?_
     refine s_run rfl rfl (rmi rfl) ?_
     refine s_run rfl rfl (r_eqlT rfl rfl (by omega)) ?_
     refine s_run rfl rfl (rmb rfl) ?_
     refine s_run rfl (g_on 118 (by kernel_rfl) rfl) (rmp rfl) ?_
     refine s_run rfl (g_on 118 (by kernel_rfl) rfl) (rmi rfl) ?_
     refine s_call (g_on 118 (by kernel_rfl) rfl) (oHA2 (H.grp_ents 0 rfl)) (ca12 rfl) ?_
     rintro e W1 ⟨rfl, H'⟩
     refine ⟨_, rfl, ?_⟩
     have H := H.same H'; clear H'
     refine s_run rfl (g_on 118 (by kernel_rfl) rfl) (rmi rfl) ?_
     refine s_run rfl (g_on 118 (by kernel_rfl) rfl) (r_eqlT rfl rfl (by omega)) ?_
     refine s_run rfl rfl (r_pkT (v := .bool _) rfl rfl) ?_
     refine s_run rfl rfl (rab rfl) ?_
     refine k_nc ?_
     refine k_ret ?_
     refine c_ret ?_
     refine fin1r (v := .bool _) rfl rfl ?_
     exact ⟨rfl, H.below⟩
   ·have hps := pass_same hc0
    have oP1 := fun {W : World} hE => oP (s := s) (W := W) hE fr to hok (by omega)
    rw [hps] at oP1
    have oHA := fun {W : World} hE => oH (s := s) (W := W) hE fr
    have oHB := fun {W : World} hE => oH (s := s) (W := W) hE to
    have oT0 := fun {W : World} hE => oT (s := s) (W := W) hE hok (by omega)
    have hokG := hok.give fr at_
    have oG1 := fun {W : World} hE => oG (s := s) (W := W) hE hok (by omega)
    by_cases hg : (s.give fr at_).2.2 = 0
    ·obtain ⟨hr, g1, g2, g3, g4, g5⟩ := give_take hok hg
     have hbd := hok.bd fr hr.1 hr.2
     obtain ⟨s3, hs3⟩ : ∃ s3, (s.give fr at_).1 = s3 := ⟨_, rfl⟩
     obtain ⟨v, hv⟩ : ∃ v, (s.give fr at_).2.1 = v := ⟨_, rfl⟩
     have gA : getM s.h fr = s.h fr := by unfold getM; rw [if_pos hr]
     have gB : getM (s.give fr at_).1.h fr = s.h fr - v := by unfold getM; rw [if_pos hr, g1, hv]
     rw [hs3, hv] at oG1 g2 g3
     rw [hs3] at hokG gB
     rw [hv] at g4 g5
     rw [hg] at oG1
     have oTk1 := fun {W : World} hE => oTk (s := s3) (W := W) hE v hokG (by omega)
     rw [g2] at oTk1
     have oH3 := fun {W : World} hE => oH (s := s3) (W := W) hE fr
     have oH4 := fun {W : World} hE => oH (s := (s3.take fr at_ v).1) (W := W) hE fr
     rw [gB] at oH3
     have gC : getM (s3.take fr at_ v).1.h fr = s.h fr := by unfold getM; rw [if_pos hr, g3]
     rw [gC] at oH4
     rw [gA] at oHA
     refine c_norm ?_
     refine k_sg ?_
     refine s_run rfl rfl (rmp rfl) ?_
     refine s_run rfl rfl (rmi rfl) ?_
     refine s_call rfl (oHA (H.grp_ents 0 rfl)) (ca12 rfl) ?_
     rintro e W1 ⟨rfl, H'⟩
     refine ⟨_, rfl, ?_⟩
     have H := H.same H'; clear H'
     refine s_run rfl rfl (rmp rfl) ?_
     refine s_run rfl rfl (rmi rfl) ?_
     refine s_call rfl (oHB (H.grp_ents 0 rfl)) (ca12 rfl) ?_
     rintro e W1 ⟨rfl, H'⟩
     refine ⟨_, rfl, ?_⟩
     have H := H.same H'; clear H'
     refine s_run rfl rfl (rmp rfl) ?_
     refine s_call rfl (oT0 (H.grp_ents 0 rfl)) (ca13 rfl) ?_
     rintro e W1 ⟨rfl, H'⟩
     refine ⟨_, rfl, ?_⟩
     have H := H.same H'; clear H'
     refine s_run rfl rfl (rai rfl) ?_
     refine s_run rfl rfl (rai rfl) ?_
     refine s_run rfl rfl (rai rfl) ?_
     refine k_nc ?_
     refine k_seq ?_
     refine k_sg ?_
     refine s_run rfl rfl (rmp rfl) ?_
     refine s_run rfl rfl (rmi rfl) ?_
     refine s_run rfl rfl (rmi rfl) ?_
     refine s_run rfl rfl (rmi rfl) ?_
     refine s_call rfl (oP1 (H.grp_ents 0 rfl)) (ca14 rfl) ?_
     rintro e W1 ⟨rfl, H'⟩
     refine ⟨_, rfl, ?_⟩
     have H := H.grp_at 0 rfl H'; clear H'; simp only [List.set_cons_zero] at H
     refine s_run rfl rfl (r_eqlF rfl rfl (by omega)) ?_
     refine k_nc ?_
     refine k_f rfl ?_
     refine k_skip ?_
     refine c_norm ?_
     refine k_seq ?_
     refine k_sg ?_
     refine s_run rfl rfl (rmp rfl) ?_
     refine s_run rfl rfl (rmi rfl) ?_
     refine s_call rfl (oHA (H.grp_ents 0 rfl)) (ca12 rfl) ?_
     rintro e W1 ⟨rfl, H'⟩
     refine ⟨_, rfl, ?_⟩
     have H := H.same H'; clear H'
     refine s_run rfl rfl (rmi rfl) ?_
     refine s_run rfl rfl (r_neqF rfl rfl (by omega)) ?_
     refine s_run rfl rfl (rmb rfl) ?_
     refine s_run rfl (g_on 94 (by kernel_rfl) rfl) (rmp rfl) ?_
     refine s_run rfl (g_on 94 (by kernel_rfl) rfl) (rmi rfl) ?_
     refine s_call (g_on 94 (by kernel_rfl) rfl) (oHB (H.grp_ents 0 rfl)) (ca12 rfl) ?_
     rintro e W1 ⟨rfl, H'⟩
     refine ⟨_, rfl, ?_⟩
     have H := H.same H'; clear H'
     refine s_run rfl (g_on 94 (by kernel_rfl) rfl) (rmi rfl) ?_
     refine s_run rfl (g_on 94 (by kernel_rfl) rfl) (r_neqF rfl rfl (by omega)) ?_
     refine s_run rfl rfl (r_pkF (v := .bool _) rfl rfl) ?_
     refine s_run rfl rfl (rmb rfl) ?_
     refine s_run rfl (g_on 101 (by kernel_rfl) rfl) (rmp rfl) ?_
     refine s_call (g_on 101 (by kernel_rfl) rfl) (oT0 (H.grp_ents 0 rfl)) (ca13 rfl) ?_
     rintro e W1 ⟨rfl, H'⟩
     refine ⟨_, rfl, ?_⟩
     have H := H.same H'; clear H'
     refine s_run rfl (g_on 101 (by kernel_rfl) rfl) (rmi rfl) ?_
     refine s_run rfl (g_on 101 (by kernel_rfl) rfl) (r_neqF rfl rfl (by omega)) ?_
     refine s_run rfl rfl (r_pkF (v := .bool _) rfl rfl) ?_
     refine k_nc ?_
     refine k_f rfl ?_
     refine k_skip ?_
     refine c_norm ?_
     refine k_sg ?_
     refine s_run rfl rfl (rmp rfl) ?_
     refine s_run rfl rfl (rmi rfl) ?_
     refine s_run rfl rfl (rmi rfl) ?_
     refine s_call rfl (oG1 (H.grp_ents 0 rfl)) (ca15 rfl) ?_
     rintro e W1 ⟨rfl, H'⟩
     refine ⟨_, rfl, ?_⟩
     have H := H.grp_at 0 rfl H'; clear H'; simp only [List.set_cons_zero] at H
     refine s_run rfl rfl (rmt rfl) ?_
     refine s_run rfl rfl (r_ext (v := .int _ _) rfl rfl) ?_
     refine s_run rfl rfl (r_ext (v := .int _ _) rfl rfl) ?_
     refine s_run rfl rfl (rai rfl) ?_
     refine s_run rfl rfl (rai rfl) ?_
     refine k_nc ?_
     refine k_seq ?_
     refine k_sg ?_
     refine s_run rfl rfl (rmi rfl) ?_
     refine s_run rfl rfl (r_neqF rfl rfl (by omega)) ?_
     refine k_nc ?_
     refine k_f rfl ?_
     refine k_skip ?_
     refine c_norm ?_
     refine k_sg ?_
     refine s_run rfl rfl (rmp rfl) ?_
     refine s_run rfl rfl (rmi rfl) ?_
     refine s_call rfl (oH3 (H.grp_ents 0 rfl)) (ca12 rfl) ?_
     rintro e W1 ⟨rfl, H'⟩
     refine ⟨_, rfl, ?_⟩
     have H := H.same H'; clear H'
     refine s_run rfl rfl (rmi rfl) ?_
     refine s_run rfl rfl (rmi rfl) ?_
     refine s_run rfl rfl (r_sub rfl rfl (wI (by omega))) ?_
     refine s_run rfl rfl (r_eqlT rfl rfl (by omega)) ?_
     refine s_run rfl rfl (rmb rfl) ?_
     refine s_run rfl (g_on 132 (by kernel_rfl) rfl) (rmp rfl) ?_
     refine s_run rfl (g_on 132 (by kernel_rfl) rfl) (rmi rfl) ?_
     refine s_run rfl (g_on 132 (by kernel_rfl) rfl) (rmi rfl) ?_
     refine s_run rfl (g_on 132 (by kernel_rfl) rfl) (rmi rfl) ?_
     refine s_call (g_on 132 (by kernel_rfl) rfl) (oTk1 (H.grp_ents 0 rfl)) (ca16 rfl) ?_
     rintro e W1 ⟨rfl, H'⟩
     refine ⟨_, rfl, ?_⟩
     have H := H.grp_at 0 rfl H'; clear H'; simp only [List.set_cons_zero] at H
     refine s_run rfl (g_on 132 (by kernel_rfl) rfl) (r_eqlT rfl rfl (by omega)) ?_
     refine s_run rfl rfl (r_pkT (v := .bool _) rfl rfl) ?_
     refine s_run rfl rfl (rmb rfl) ?_
     refine s_run rfl (g_on 140 (by kernel_rfl) rfl) (rmp rfl) ?_
     refine s_run rfl (g_on 140 (by kernel_rfl) rfl) (rmi rfl) ?_
     refine s_call (g_on 140 (by kernel_rfl) rfl) (oH4 (H.grp_ents 0 rfl)) (ca12 rfl) ?_
     rintro e W1 ⟨rfl, H'⟩
     refine ⟨_, rfl, ?_⟩
     have H := H.same H'; clear H'
     refine s_run rfl (g_on 140 (by kernel_rfl) rfl) (rmi rfl) ?_
     refine s_run rfl (g_on 140 (by kernel_rfl) rfl) (r_eqlT rfl rfl (by omega)) ?_
     refine s_run rfl rfl (r_pkT (v := .bool _) rfl rfl) ?_
     refine s_run rfl rfl (rab rfl) ?_
     refine k_nc ?_
     refine k_ret ?_
     refine fin1r (v := .bool _) rfl rfl ?_
     exact ⟨rfl, H.below⟩
    ·have g0 := give_none hg
     have gS := give_same hg
     rw [g0, gS] at oG1
     refine c_norm ?_
     refine k_sg ?_
     refine s_run rfl rfl (rmp rfl) ?_
     refine s_run rfl rfl (rmi rfl) ?_
     refine s_call rfl (oHA (H.grp_ents 0 rfl)) (ca12 rfl) ?_
     rintro e W1 ⟨rfl, H'⟩
     refine ⟨_, rfl, ?_⟩
     have H := H.same H'; clear H'
     refine s_run rfl rfl (rmp rfl) ?_
     refine s_run rfl rfl (rmi rfl) ?_
     refine s_call rfl (oHB (H.grp_ents 0 rfl)) (ca12 rfl) ?_
     rintro e W1 ⟨rfl, H'⟩
     refine ⟨_, rfl, ?_⟩
     have H := H.same H'; clear H'
     refine s_run rfl rfl (rmp rfl) ?_
     refine s_call rfl (oT0 (H.grp_ents 0 rfl)) (ca13 rfl) ?_
     rintro e W1 ⟨rfl, H'⟩
     refine ⟨_, rfl, ?_⟩
     have H := H.same H'; clear H'
     refine s_run rfl rfl (rai rfl) ?_
     refine s_run rfl rfl (rai rfl) ?_
     refine s_run rfl rfl (rai rfl) ?_
     refine k_nc ?_
     refine k_seq ?_
     refine k_sg ?_
     refine s_run rfl rfl (rmp rfl) ?_
     refine s_run rfl rfl (rmi rfl) ?_
     refine s_run rfl rfl (rmi rfl) ?_
     refine s_run rfl rfl (rmi rfl) ?_
     refine s_call rfl (oP1 (H.grp_ents 0 rfl)) (ca14 rfl) ?_
     rintro e W1 ⟨rfl, H'⟩
     refine ⟨_, rfl, ?_⟩
     have H := H.grp_at 0 rfl H'; clear H'; simp only [List.set_cons_zero] at H
     refine s_run rfl rfl (r_eqlF rfl rfl (by omega)) ?_
     refine k_nc ?_
     refine k_f rfl ?_
     refine k_skip ?_
     refine c_norm ?_
     refine k_seq ?_
     refine k_sg ?_
     refine s_run rfl rfl (rmp rfl) ?_
     refine s_run rfl rfl (rmi rfl) ?_
     refine s_call rfl (oHA (H.grp_ents 0 rfl)) (ca12 rfl) ?_
     rintro e W1 ⟨rfl, H'⟩
     refine ⟨_, rfl, ?_⟩
     have H := H.same H'; clear H'
     refine s_run rfl rfl (rmi rfl) ?_
     refine s_run rfl rfl (r_neqF rfl rfl (by omega)) ?_
     refine s_run rfl rfl (rmb rfl) ?_
     refine s_run rfl (g_on 94 (by kernel_rfl) rfl) (rmp rfl) ?_
     refine s_run rfl (g_on 94 (by kernel_rfl) rfl) (rmi rfl) ?_
     refine s_call (g_on 94 (by kernel_rfl) rfl) (oHB (H.grp_ents 0 rfl)) (ca12 rfl) ?_
     rintro e W1 ⟨rfl, H'⟩
     refine ⟨_, rfl, ?_⟩
     have H := H.same H'; clear H'
     refine s_run rfl (g_on 94 (by kernel_rfl) rfl) (rmi rfl) ?_
     refine s_run rfl (g_on 94 (by kernel_rfl) rfl) (r_neqF rfl rfl (by omega)) ?_
     refine s_run rfl rfl (r_pkF (v := .bool _) rfl rfl) ?_
     refine s_run rfl rfl (rmb rfl) ?_
     refine s_run rfl (g_on 101 (by kernel_rfl) rfl) (rmp rfl) ?_
     refine s_call (g_on 101 (by kernel_rfl) rfl) (oT0 (H.grp_ents 0 rfl)) (ca13 rfl) ?_
     rintro e W1 ⟨rfl, H'⟩
     refine ⟨_, rfl, ?_⟩
     have H := H.same H'; clear H'
     refine s_run rfl (g_on 101 (by kernel_rfl) rfl) (rmi rfl) ?_
     refine s_run rfl (g_on 101 (by kernel_rfl) rfl) (r_neqF rfl rfl (by omega)) ?_
     refine s_run rfl rfl (r_pkF (v := .bool _) rfl rfl) ?_
     refine k_nc ?_
     refine k_f rfl ?_
     refine k_skip ?_
     refine c_norm ?_
     refine k_sg ?_
     refine s_run rfl rfl (rmp rfl) ?_
     refine s_run rfl rfl (rmi rfl) ?_
     refine s_run rfl rfl (rmi rfl) ?_
     refine s_call rfl (oG1 (H.grp_ents 0 rfl)) (ca15 rfl) ?_
     rintro e W1 ⟨rfl, H'⟩
     refine ⟨_, rfl, ?_⟩
     have H := H.grp_at 0 rfl H'; clear H'; simp only [List.set_cons_zero] at H
     refine s_run rfl rfl (rmt rfl) ?_
     refine s_run rfl rfl (r_ext (v := .int _ _) rfl rfl) ?_
     refine s_run rfl rfl (r_ext (v := .int _ _) rfl rfl) ?_
     refine s_run rfl rfl (rai rfl) ?_
     refine s_run rfl rfl (rai rfl) ?_
     refine k_nc ?_
     refine k_seq ?_
     refine k_sg ?_
     refine s_run rfl rfl (rmi rfl) ?_
     refine s_run rfl rfl (r_neqT rfl rfl (by omega)) ?_
     refine k_nc ?_
     refine k_t rfl ?_
     refine k_sg ?_
     refine s_run rfl rfl (rmi rfl) ?_
     refine s_run rfl rfl (r_eqlT rfl rfl (by omega)) ?_
     refine s_run rfl rfl (rmb rfl) ?_
     refine s_run rfl (g_on 118 (by kernel_rfl) rfl) (rmp rfl) ?_
     refine s_run rfl (g_on 118 (by kernel_rfl) rfl) (rmi rfl) ?_
     refine s_call (g_on 118 (by kernel_rfl) rfl) (oHA (H.grp_ents 0 rfl)) (ca12 rfl) ?_
     rintro e W1 ⟨rfl, H'⟩
     refine ⟨_, rfl, ?_⟩
     have H := H.same H'; clear H'
     refine s_run rfl (g_on 118 (by kernel_rfl) rfl) (rmi rfl) ?_
     refine s_run rfl (g_on 118 (by kernel_rfl) rfl) (r_eqlT rfl rfl (by omega)) ?_
     refine s_run rfl rfl (r_pkT (v := .bool _) rfl rfl) ?_
     refine s_run rfl rfl (rab rfl) ?_
     refine k_nc ?_
     refine k_ret ?_
     refine c_ret ?_
     refine fin1r (v := .bool _) rfl rfl ?_
     exact ⟨rfl, H.below⟩
  refine k_b ?_
  have hok0 := ldNew_ok qs hqb
  refine k_loop (fun z f W => ∃ (i : Nat) (s : LdS), i ≤ l ∧ i ≤ 60 ∧ z = l - i ∧ LdOk i s ∧ f 1 = .slice B l d ∧ f 7 = .int .i64 fr ∧ f 8 = .int .i64 to ∧ f 9 = .int .i64 at_ ∧ f 10 = ptrL p ∧ f 11 = .int .i64 i ∧ Heap w [] [grp (ldE p b s)] W) l ⟨0, ldNew qs, by omega, by omega, rfl, hok0, rfl, rfl, rfl, rfl, rfl, rfl, Heap.subl H [0] rfl rfl⟩ ?_
  clear H
  rintro z f W ⟨i, s, hi, hi60, rfl, hok, f1, f7, f8, f9, f10, f11, H⟩
  by_cases hlt : i < l ∧ i < 60
  ·obtain ⟨hlt, hlt2⟩ := hlt
   obtain ⟨u, hu⟩ : ∃ u, ops[i]? = some u := ⟨_, List.getElem?_eq_getElem (by omega)⟩
   obtain ⟨bo, oo, hB, hrd⟩ := hs.1 (by omega)
   have hre : Reads (fun v : Value => v) w bo (oo + i * 5) [.int .i64 u.f0, .int .i64 u.f1, .int .i64 u.f2, .int .i64 u.f3, .slice u.A4 u.n4 u.c4] := hrd i u hu
   have hu2 := hs.2 u (List.mem_of_getElem? hu)
   have hown : ∀ j ∈ ids (ldE p b s), w.heap.size ≤ j := fun j hj => (H.own j (by simpa [ids, grp] using hj)).resolve_left (by simp)
   have hSl := fun {W2 : World} (h : Only [] w W2) => (hu2.s4.news (G := ids (ldE p b s)) (fun j hj => .inr (hown j hj))).later h (fun _ h => by cases h)
   have hR := fun (W : World) => rNew none 0 0 [] W Sees.nil rfl (by omega)
   have hDo := fun {W2 : World} hE hI => lDo (I := ids (ldE p b s)) (K := ids (ldE p b s)) p b s (ldNew []) i 0 none 0 0 u.f0 u.f1 u.f2 u.f3 u.A4 u.n4 u.c4 u.xs4 W2 hE rfl (fun _ h => h) (Heap.start hE).idlt ⟨Sees.nil, rfl, Nat.le_refl _⟩ hok (ldNew_ok [] (by simp)) (by omega) (by omega) (wfI_of hu2.w2) hI hu2.l4 (fun z hz => wfI_of (hu2.b4 z hz))
   have hok2 := hok.doK u.f0 u.f1 u.f2 u.f3 u.xs4 (wfI_of hu2.w2)
   rw [hB] at f1
   obtain ⟨f, rfl⟩ := live6 f1 f7 f8 f9 f10 f11
   clear f1 f7 f8 f9 f10 f11
   unfold docV at hDo
   refine k_seq ?_
   refine k_sg ?_
   refine s_run rfl rfl (rmi rfl) ?_
   refine s_run rfl rfl (rms rfl) ?_
   refine s_run rfl rfl (r_len rfl Try.underlying23) ?_
   refine s_run rfl rfl (r_lssT rfl rfl (by omega)) ?_
   refine s_run rfl rfl (rmb rfl) ?_
   refine s_run rfl (g_on 36 (by kernel_rfl) rfl) (rmi rfl) ?_
   refine s_run rfl (g_on 36 (by kernel_rfl) rfl) (r_lssT rfl rfl (by omega)) ?_
   refine s_run rfl rfl (r_pkT (v := .bool _) rfl rfl) ?_
   refine k_nc ?_
   refine k_t rfl ?_
   refine k_skip ?_
   refine c_norm ?_
   refine k_seq ?_
   refine k_b ?_
   refine k_trF mixed ?_; have H' := H.drew; clear H; have H := H'; clear H'
   refine tqn 0 rfl rfl rfl (fun _ hS => r_mv (v := .pointer _) rfl) trivial ?_
   refine tqn 2 rfl rfl rfl (fun _ hS => r_mv (v := .slice _ _ _) rfl) trivial ?_
   refine tqn 3 rfl rfl rfl (fun _ hS => r_mv (v := .int _ _) rfl) trivial ?_
   refine tqn 4 rfl rfl rfl (fun _ hS => r_ix (i := i) rfl rfl (by omega) (by omega) Try.underlying23 sz36) trivial ?_
   refine t_up2 1 5 (by kernel_rfl) ?_ ?_
   ·refine up_mk rfl ?_
    refine s_call rfl (hR _) (ca11 rfl) ?_
    rintro e W1 ⟨rfl, H'⟩
    refine ⟨_, rfl, ?_⟩
    have H := H.same H'; clear H'
    refine k_nil ?_
    refine t_on trivial ?_
    refine t_up1 5 (by kernel_rfl) ?_
    refine up_mk rfl ?_
    refine s_run rfl rfl (r_lA (enc := fun v : Value => v) (zs := [.int .i64 u.f0, .int .i64 u.f1, .int .i64 u.f2, .int .i64 u.f3, .slice u.A4 u.n4 u.c4]) (hre.later H.only (by simp)) rfl rfl ag36 sz36) ?_
    refine k_nil ?_
    refine t_on trivial ?_
    refine t_up1 6 (by kernel_rfl) ?_
    refine up_mk rfl ?_
    refine s_call rfl (hDo (H.grp_ents 0 rfl) (hSl H.only)) (ca10 rfl) ?_
    rintro e W1 ⟨A2, n2, c2, rfl, hD2, H'⟩
    refine ⟨_, rfl, ?_⟩
    have H := H.grp_at 0 rfl H'; clear H'; simp only [List.set_cons_zero] at H
    refine k_nil ?_
    refine t_on trivial ?_
    refine t_done (by kernel_rfl) ?_
    refine b_norm ?_
    refine c_norm ?_
    refine k_rg ?_
    refine s_run rfl rfl (rmi rfl) ?_
    refine s_run rfl rfl (r_add rfl rfl (wI (by omega))) ?_
    refine s_run rfl rfl (rai rfl) ?_
    refine k_nil ?_
    refine c_round ?_
    exact ⟨_, _, by omega, rfl, i + 1, _, by omega, by omega, rfl, hok2, by rw [hB]; rfl, rfl, rfl, rfl, rfl, rfl, H⟩
   ·refine up_mk rfl ?_
    refine s_run rfl rfl (r_lA (enc := fun v : Value => v) (zs := [.int .i64 u.f0, .int .i64 u.f1, .int .i64 u.f2, .int .i64 u.f3, .slice u.A4 u.n4 u.c4]) (hre.later H.only (by simp)) rfl rfl ag36 sz36) ?_
    refine k_nil ?_
    refine t_on trivial ?_
    refine t_up1 1 (by kernel_rfl) ?_
    refine up_mk rfl ?_
    refine s_call rfl (hR _) (ca11 rfl) ?_
    rintro e W1 ⟨rfl, H'⟩
    refine ⟨_, rfl, ?_⟩
    have H := H.same H'; clear H'
    refine k_nil ?_
    refine t_on trivial ?_
    refine t_up1 6 (by kernel_rfl) ?_
    refine up_mk rfl ?_
    refine s_call rfl (hDo (H.grp_ents 0 rfl) (hSl H.only)) (ca10 rfl) ?_
    rintro e W1 ⟨A2, n2, c2, rfl, hD2, H'⟩
    refine ⟨_, rfl, ?_⟩
    have H := H.grp_at 0 rfl H'; clear H'; simp only [List.set_cons_zero] at H
    refine k_nil ?_
    refine t_on trivial ?_
    refine t_done (by kernel_rfl) ?_
    refine b_norm ?_
    refine c_norm ?_
    refine k_rg ?_
    refine s_run rfl rfl (rmi rfl) ?_
    refine s_run rfl rfl (r_add rfl rfl (wI (by omega))) ?_
    refine s_run rfl rfl (rai rfl) ?_
    refine k_nil ?_
    refine c_round ?_
    exact ⟨_, _, by omega, rfl, i + 1, _, by omega, by omega, rfl, hok2, by rw [hB]; rfl, rfl, rfl, rfl, rfl, rfl, H⟩
  ·obtain ⟨f, rfl⟩ := live6 f1 f7 f8 f9 f10 f11
   clear f1 f7 f8 f9 f10 f11
   by_cases hil : i < l
   ·refine k_seq ?_
    refine k_sg ?_
    refine s_run rfl rfl (rmi rfl) ?_
    refine s_run rfl rfl (rms rfl) ?_
    refine s_run rfl rfl (r_len rfl Try.underlying23) ?_
    refine s_run rfl rfl (r_lssT rfl rfl (by omega)) ?_
    refine s_run rfl rfl (rmb rfl) ?_
    refine s_run rfl (g_on 36 (by kernel_rfl) rfl) (rmi rfl) ?_
    refine s_run rfl (g_on 36 (by kernel_rfl) rfl) (r_lssF rfl rfl (by omega)) ?_
    refine s_run rfl rfl (r_pkT (v := .bool _) rfl rfl) ?_
    refine k_nc ?_
    refine k_f rfl ?_
    refine k_exit ?_
    refine c_exit ?_
    refine c_exit ?_
    refine b_hit ?_
    refine k_met ?_
    exact ⟨i, s, hi60, hok, rfl, rfl, rfl, rfl, H⟩
   ·refine k_seq ?_
    refine k_sg ?_
    refine s_run rfl rfl (rmi rfl) ?_
    refine s_run rfl rfl (rms rfl) ?_
    refine s_run rfl rfl (r_len rfl Try.underlying23) ?_
    refine s_run rfl rfl (r_lssF rfl rfl (by omega)) ?_
    refine s_run rfl rfl (rmb rfl) ?_
    refine s_off rfl (g_off 36 (by kernel_rfl) rfl rfl) ?_
    refine s_off rfl (g_off 36 (by kernel_rfl) rfl rfl) ?_
    refine s_run rfl rfl (r_pkF (v := .bool _) rfl rfl) ?_
    refine k_nc ?_
    refine k_f rfl ?_
    refine k_exit ?_
    refine c_exit ?_
    refine c_exit ?_
    refine b_hit ?_
    refine k_met ?_
    exact ⟨i, s, hi60, hok, rfl, rfl, rfl, rfl, H⟩
end Go.Proofs.Ytpbimgopiammaaa
end

section
namespace Go.Proofs.Ytpbimgopiammaaa.lLedgerBack
open Go.ChangeShapes Go.WideShapes Go.ChangeAt Go.RowKit
theorem own : ownKnob Try.prog.godebug = none := by kernel_rfl
theorem laidOut : laidOutB Try.prog = true := by kernel_rfl
set_option maxRecDepth 100000 in
theorem lifted (os : Os) (started : os.Started) (H : Type) (enc : TypeId × Value → H) :
  ReturnsInHanded {} Try.checked os 3 .any (Rows.ledgerBackSpec.pre6 enc Try.prog Try.f3 Rows.ledgerBackRow.domain false) (Rows.ledgerBackSpec.post enc Try.prog Try.f3 false true false false) := by
 refine returnsInHanded_of_change (C := Try.checked) own started (by kernel_rfl) Try.func3
  (ChangeSpec.witness6 (enc := enc) (C := Try.checked) false ⟨#[], #[.slice none 0 0, .slice none 0 0, .agg #[.int .i64 0, .int .i64 0, .int .i64 0]], []⟩ 8 (by kernel_rfl) (by kernel_rfl) (by kernel_rfl) (by kernel_rfl)) ?_
 intro W base args ds gs before hval0 hW hcnd _
 have hval : ∀ (j : Nat) t v, Try.f3.params[j]? = some t → args[j]? = some v → Value.okWide Try.prog W .any base t v := hval0
 have hW' := hW
 obtain ⟨p, q, hA0, hV, rfl, hfz, hnd⟩ := hW
 have hA : DataW.TrodAll enc Try.prog W 0 (fun _ => true) true Try.f3.params.toList args.toList ds p := hA0
 rw [Try.params3] at hA hval
 obtain ⟨v0, vs0, d0, ds0, p0, q0, hargs, rfl, rfl, h0, r0⟩ := trodAll_cons hA
 obtain ⟨v1, vs1, d1, ds1, p1, q1, rfl, rfl, rfl, h1, r1⟩ := trodAll_cons r0
 obtain ⟨v2, vs2, d2, ds2, p2, q2, rfl, rfl, rfl, h2, r2⟩ := trodAll_cons r1
 obtain ⟨rfl, rfl, rfl⟩ := trodAll_nil r2
 obtain rfl : args = #[v0, v1, v2] := by cases args; simp_all
 obtain ⟨rfl, rfl⟩ := trodVars_none hV
 have k0 := h0
 have lt0 : ∀ x ∈ p0, x.block < W.heap.size := by obtain ⟨m, hm⟩ := k0; exact DataW.trod_lt m _ _ _ hm
 have k1 := h1
 have lt1 : ∀ x ∈ p1, x.block < W.heap.size := by obtain ⟨m, hm⟩ := k1; exact DataW.trod_lt m _ _ _ hm
 have k2 := h2
 have lt2 : ∀ x ∈ p2, x.block < W.heap.size := by obtain ⟨m, hm⟩ := k2; exact DataW.trod_lt m _ _ _ hm
 obtain ⟨a0, len0, cap0, rfl⟩ := okWide_slice Try.underlying22 (hval 0 22 v0 rfl rfl)
 obtain ⟨z0, w0⟩ := open_row Try.underlying22 Try.underlying3 (by kernel_rfl) h0
 obtain ⟨x1, rfl, w1⟩ := opens_LOp W base v1 d1 p1 (hval 1 23 v1 rfl rfl) h1
 obtain ⟨z2, hz2, rfl, wz2⟩ := open_array_ints Try.underlying24 Try.underlying3 (by kernel_rfl) (by kernel_rfl) (hval 2 24 v2 rfl rfl) h2
 obtain ⟨a2_0, a2_1, a2_2, rfl⟩ := list3 hz2
 clear hA0 hval0
 refine (walk_LedgerBack a0 len0 cap0 z0 x1 a2_0 a2_1 a2_2 W w0 w1 (wz2 _ (by simp)) (wz2 _ (by simp)) (wz2 _ (by simp))).mono fun e W' ⟨he, bel⟩ => ?_
 subst he
 exact ⟨_, rfl, _, _, _, [], _, [], hW', trodAll_mk1 (shut_bool Try.underlying4 _), (trodAll_cons_mk (Below.trod laidOut (by kernel_rfl) (of_decide_eq_true (by kernel_rfl)) k0 bel lt0) (trodAll_cons_mk (Below.trod laidOut (by kernel_rfl) (of_decide_eq_true (by kernel_rfl)) k1 bel lt1) (trodAll_cons_mk (Below.trod laidOut (by kernel_rfl) (of_decide_eq_true (by kernel_rfl)) k2 bel lt2) trodAll_mk0))), rfl, bel.frame _, fun h => by cases h⟩
theorem over : Rows.ledgerBackRow.holds Try.pinned (OpenSpec.ofChange Rows.ledgerBackSpec) :=
 OpenClaim.holds_of_wide 3 Try.f3 rfl rfl rfl rfl rfl rfl rfl ⟨rfl, rfl, rfl, rfl, rfl⟩ rfl rfl rfl rfl rfl (by kernel_rfl) Try.func3 (by kernel_rfl)
  (of_decide_eq_true (by kernel_rfl)) (by unfold Func.isWrapper; first | (rw [if_pos (by decide +kernel)]; kernel_rfl) | (rw [if_neg (by decide +kernel)]; exact ⟨rfl, rfl⟩))
  (fun os started H enc _ => lifted os started H enc)
theorem proved : Rows.LedgerBackSaid := over
#print axioms proved
end Go.Proofs.Ytpbimgopiammaaa.lLedgerBack
end
