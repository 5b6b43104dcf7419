/- Parts of the proof, one behind the other. -/
import Derived.Test.YtlakbclnilakbaaKFreePlaysb
set_option linter.unusedSimpArgs false
set_option linter.unusedVariables false
set_option linter.unusedSectionVars false
section
namespace Go.Proofs.Ytlakbclnilakbaa
open Go.RowKit
set_option maxRecDepth 100000
set_option maxHeartbeats 4000000
theorem FrOk.mono {F : Nat → RowS} {l : FrM} {N M : Nat} (h : FrOk F l N) (hM : N ≤ M) : FrOk F l M := ⟨h.keys, h.got, fun i hi => Nat.le_trans (h.len i hi) hM⟩
theorem FrOk.glob {F : Nat → RowS} {l : FrM} {N k : Nat} (h : FrOk F l N) {r : RowS} (hr : r.n ≤ N) : FrOk (updR F (k * 5) r) l N :=
 ⟨h.keys, fun m j hm hj => by rw [updR_off _ _ (by omega)]; exact h.got m j hm hj, fun i hi => by
  by_cases e : i = k * 5
  ·rw [e, updR_at]; exact hr
  ·rw [updR_off _ _ e]; exact h.len i hi⟩
theorem mget_putS {α β : Type} [DecidableEq α] : ∀ (l : List (α × β)) (a : α) (v : β), mget (mput l a v) a = some v
 | [], a, v => by simp [mput, mget]
 | p :: l, a, v => by
  unfold mput
  split
  ·simp [mget]
  ·rename_i h
   rw [mget, if_neg h]; exact mget_putS l a v
theorem mget_putO {α β : Type} [DecidableEq α] : ∀ (l : List (α × β)) (a b : α) (v : β), b ≠ a → mget (mput l a v) b = mget l b
 | [], a, b, v, h => by simp [mput, mget, Ne.symm h]
 | p :: l, a, b, v, h => by
  unfold mput
  split
  ·rename_i e
   subst e
   simp [mget, Ne.symm h]
  ·rw [mget, mget, mget_putO l a b v h]
theorem mput_mem {α β : Type} [DecidableEq α] : ∀ (l : List (α × β)) (a : α) (v : β) (x : α × β), x ∈ mput l a v → x = (a, v) ∨ x ∈ l
 | [], a, v, x, h => by simp [mput] at h; exact .inl h
 | p :: l, a, v, x, h => by
  unfold mput at h
  split at h
  ·rcases List.mem_cons.1 h with h | h
   ·exact .inl h
   ·exact .inr (List.mem_cons_of_mem _ h)
  ·rcases List.mem_cons.1 h with h | h
   ·exact .inr (by rw [h]; simp)
   ·exact (mput_mem l a v x h).imp id (List.mem_cons_of_mem _)
theorem FrOk.own {F : Nat → RowS} {l : FrM} {N m k : Nat} (h : FrOk F l N) (hm : m < 4) (hk : k < 32) {r : RowS} (hr : r.n ≤ N) : FrOk (updR F (k * 5 + 1 + m) r) (mput l ((m : Int), (k : Int)) r) N := by
 refine ⟨fun x hx => ?_, fun m' k' hm' hk' => ?_, fun i hi => ?_⟩
 ·rcases mput_mem _ _ _ x hx with rfl | hx
  ·exact ⟨by show (0 : Int) ≤ (m : Int); omega, by show (m : Int) < 4; omega, by show (0 : Int) ≤ (k : Int); omega, by show (k : Int) < 32; omega⟩
  ·exact h.keys x hx
 ·by_cases e : m' = m ∧ k' = k
  ·obtain ⟨rfl, rfl⟩ := e
   rw [mget_putS, updR_at]; exact .inl rfl
  ·have hne : ((m' : Int), (k' : Int)) ≠ ((m : Int), (k : Int)) := fun e2 => e (by injection e2 with a b; exact ⟨by omega, by omega⟩)
   rw [mget_putO _ _ _ _ hne, updR_off _ _ (by omega)]
   exact h.got m' k' hm' hk'
 ·by_cases e : i = k * 5 + 1 + m
  ·rw [e, updR_at]; exact hr
  ·rw [updR_off _ _ e]; exact h.len i hi
/-- what a call leaves behind -/
def FrTo (p b : Nat) (F : Nat → RowS) (l : FrM) (N : Nat) (S' : FrS) (w w' : World) : Prop := ∃ F' l', Heap w (ids (frE p b F F l)) (frE p b F' F' l') w' ∧ FrOk F' l' N ∧ xsOf F' = S'
section
variable {p b N : Nat} {F : Nat → RowS} {l : FrM} {w : World}
theorem oPush (hE : Ents (frE p b F F l) w) (hok : FrOk F l N) (hN : N ≤ 10000) (k a : Int) :
  Calls Try.prog 48 [ptrF p, .int .i64 k, .int .i64 a].toArray w fun e w' => e = .returned (.int .i64 (fPush (xsOf F) k a).2) ∧ FrTo p b F l (N + 1) (fPush (xsOf F) k a).1 w w' := by
 have H := Heap.start hE
 have hC := fun W => cRight k W
 have hHa := fun {W : World} hE => oHas (p := p) (b := b) (F := F) (l := l) (w := W) hE hok (by omega) k a
 unfold fPush
 cases hk : isC k with
 | false =>
  simp only [hk] at hC
  rw [if_pos rfl]
  refine k_in (N := 30) Try.func48 rfl rfl rfl ?_
  refine k_sg ?_
  refine s_run rfl rfl (rai rfl) ?_
  refine k_nc ?_
  refine k_seq ?_
  refine k_b ?_
  refine k_sg ?_
  refine s_run rfl rfl (rmi rfl) ?_
  refine s_call rfl (hC _) (ca52 rfl) ?_
  rintro e W1 ⟨rfl, H'⟩
  refine ⟨_, rfl, ?_⟩
  have H := H.same H'; clear H'
  refine s_run rfl rfl (r_notF rfl) ?_
  refine s_run rfl rfl (rab rfl) ?_
  refine k_nc ?_
  refine k_t rfl ?_
  refine k_sg ?_
  refine s_run rfl rfl (rai rfl) ?_
  refine k_nc ?_
  refine k_ret ?_
  refine b_ret ?_
  refine c_ret ?_
  refine fin1r (v := .int _ _) rfl rfl ?_
  exact ⟨rfl, F, l, H, hok.mono (by omega), rfl⟩
 | true =>
  simp only [hk] at hC
  rw [if_neg (by simp)]
  by_cases hh : fHas (xsOf F) k a = true
  ·rw [if_pos hh]
   rw [hh] at hHa
   refine k_in (N := 30) Try.func48 rfl rfl rfl ?_
   refine k_sg ?_
   refine s_run rfl rfl (rai rfl) ?_
   refine k_nc ?_
   refine k_seq ?_
   refine k_b ?_
   refine k_sg ?_
   refine s_run rfl rfl (rmi rfl) ?_
   refine s_call rfl (hC _) (ca52 rfl) ?_
   rintro e W1 ⟨rfl, H'⟩
   refine ⟨_, rfl, ?_⟩
   have H := H.same H'; clear H'
   refine s_run rfl rfl (r_notT rfl) ?_
   refine s_run rfl rfl (rab rfl) ?_
   refine k_nc ?_
   refine k_f rfl ?_
   refine k_sg ?_
   refine s_run rfl rfl (rmp rfl) ?_
   refine s_run rfl rfl (rmi rfl) ?_
   refine s_run rfl rfl (rmi rfl) ?_
   refine s_call rfl (hHa H.ents) (ca10 rfl) ?_
   rintro e W1 ⟨rfl, H'⟩
   refine ⟨_, rfl, ?_⟩
   have H := H.same H'; clear H'
   refine s_run rfl rfl (rab rfl) ?_
   refine k_nc ?_
   refine k_t rfl ?_
   refine k_sg ?_
   refine s_run rfl rfl (rai rfl) ?_
   refine k_nc ?_
   refine k_ret ?_
   refine b_ret ?_
   refine c_ret ?_
   refine fin1r (v := .int _ _) rfl rfl ?_
   exact ⟨rfl, F, l, H, hok.mono (by omega), rfl⟩
  ·have hh : fHas (xsOf F) k a = false := by simpa using hh
   rw [if_neg (by rw [hh]; simp)]
   rw [hh] at hHa
   obtain ⟨j, rfl, hj⟩ := isC_nat hk
   rw [Int.toNat_natCast]
   have hNi := hok.len (j * 5) (by omega)
   refine k_in (N := 30) Try.func48 rfl rfl rfl ?_
   refine k_sg ?_
   refine s_run rfl rfl (rai rfl) ?_
   refine k_nc ?_
   refine k_seq ?_
   refine k_b ?_
   refine k_sg ?_
   refine s_run rfl rfl (rmi rfl) ?_
   refine s_call rfl (hC _) (ca52 rfl) ?_
   rintro e W1 ⟨rfl, H'⟩
   refine ⟨_, rfl, ?_⟩
   have H := H.same H'; clear H'
   refine s_run rfl rfl (r_notT rfl) ?_
   refine s_run rfl rfl (rab rfl) ?_
   refine k_nc ?_
   refine k_f rfl ?_
   refine k_sg ?_
   refine s_run rfl rfl (rmp rfl) ?_
   refine s_run rfl rfl (rmi rfl) ?_
   refine s_run rfl rfl (rmi rfl) ?_
   refine s_call rfl (hHa H.ents) (ca10 rfl) ?_
   rintro e W1 ⟨rfl, H'⟩
   refine ⟨_, rfl, ?_⟩
   have H := H.same H'; clear H'
   refine s_run rfl rfl (rab rfl) ?_
   refine k_nc ?_
   refine k_f rfl ?_
   refine k_skip ?_
   refine b_norm ?_
   refine c_norm ?_
   refine k_seq ?_
   obtain ⟨I, hI⟩ : ∃ I, ids (frE p b F F l) = I := ⟨_, rfl⟩
   rw [hI] at H
   unfold frE at H
   have hln := fam_len H 2 rfl (i := j * 5) (by omega)
   replace H := H.pull 2 rfl (i := j * 5) (by omega)
   simp only [List.set_cons_zero, List.set_cons_succ] at H
   unfold rowE at H
   have hG : ∀ {W' : World} {A2 c2}, Heap w I [ownN 1 (.slice A2 ((F (j * 5)).n + 1) c2) ((F (j * 5)).n + 1) (((F (j * 5)).xs ++ [a]).map (Value.int .i64)) 3, blk p (frC (updR F (j * 5) ⟨A2, (F (j * 5)).n + 1, c2, (F (j * 5)).xs ++ [a]⟩) b) 95, mp kF RowS.v b l, fam 3 160 (updR F (j * 5) RowS.nil)] W' → FrTo p b F l (N + 1) (updS (xsOf F) (j * 5) (xsOf F (j * 5) ++ [a])) w W' := fun {W' A2 c2} H => by
    have H2 := Heap.push (r := ⟨A2, (F (j * 5)).n + 1, c2, (F (j * 5)).xs ++ [a]⟩) H 2 rfl (i := j * 5) (by omega) (updR_at _ _ _)
    rw [updR_upd] at H2
    refine ⟨updR F (j * 5) ⟨A2, (F (j * 5)).n + 1, c2, (F (j * 5)).xs ++ [a]⟩, l, by rw [hI]; exact H2, (hok.mono (by omega)).glob (by show (F (j * 5)).n + 1 ≤ _; omega), by rw [xsOf_upd]; rfl⟩
   refine k_trF mixed ?_; have H' := H.drew; clear H; have H := H'; clear H'
   refine tqh 0 rfl rfl rfl (fun _ hS => r_mv (v := .pointer _) rfl) trivial ?_
   refine tqh 1 rfl rfl rfl (fun _ hS => r_mv (v := .int _ _) rfl) trivial ?_
   refine tqh 2 rfl rfl rfl (fun _ hS => r_mv (v := .pointer _) rfl) trivial ?_
   refine tqh 3 rfl rfl rfl (fun _ hS => r_mv (v := .int _ _) rfl) trivial ?_
   refine tqh 4 rfl rfl rfl (fun _ hS => r_nc rfl) trivial ?_
   refine tqh 5 rfl rfl rfl (fun _ hS => r_fa0 rfl fo95_0) trivial ?_
   refine tqh 6 rfl rfl rfl (fun _ hS => r_ia0 (i := j) rfl rfl (by omega) (by omega) Try.underlying92 sz25) trivial ?_
   refine tqh 8 rfl rfl rfl (fun _ hS => r_mv (v := .int _ _) rfl) trivial ?_
   refine tqh 11 rfl rfl rfl (fun _ hS => r_nc rfl) trivial ?_
   refine tqh 12 rfl rfl rfl (fun _ hS => r_fa0 rfl fo95_0) trivial ?_
   refine t_up2 7 9 (by kernel_rfl) ?_ ?_
   ·refine up_mk rfl ?_
    refine s_run rfl rfl (r_lo H 1 rfl rfl (frC_get hj) ag25) ?_
    refine k_nil ?_
    refine t_on trivial ?_
    refine t_up1 9 (by kernel_rfl) ?_
    refine up_mk rfl ?_
    refine s_bsO (enc := (Value.int .i64)) (zs := [a]) H rfl rfl rfl (by omega) (by kernel_rfl) Try.underlying25 inf3 ?_
    intro q9 _ H'; clear H; have H := H'; clear H'
    refine k_nil ?_
    refine t_on trivial ?_
    refine t_up1 10 (by kernel_rfl) ?_
    refine up_mk rfl ?_
    refine s_apB (enc := (Value.int .i64)) (size := 1) H 0 rfl rfl rfl rfl (fun _ => rfl) (by omega) (by omega) Try.underlying25 inf3 rfl ?_
    intro A2 c2 _ H'; simp only [List.set_cons_zero, List.set_cons_succ, List.take_succ_cons, List.take_zero, List.drop_succ_cons, List.drop_zero, List.cons_append, List.nil_append, List.append_nil, List.length_cons, List.length_nil, Nat.reduceAdd] at H'; clear H; have H := H'; clear H'
    refine k_nil ?_
    refine t_on trivial ?_
    refine tqh 13 rfl rfl rfl (fun _ hS => r_ia0 (i := j) rfl rfl (by omega) (by omega) Try.underlying92 sz25) trivial ?_
    refine t_up1 14 (by kernel_rfl) ?_
    refine up_mk rfl ?_
    refine s_stC H 1 rfl rfl rfl rfl (frC_get hj) (frC_set (r := ⟨A2, (F (j * 5)).n + 1, c2, (F (j * 5)).xs ++ [a]⟩) hj) rfl sz25 ?_
    clear H; intro _ H; simp only [jA, jB, jC, jD, jE, jF, jG, jH, jI, jJ, jK, Nat.reduceAdd] at H
    refine k_nil ?_
    refine t_on trivial ?_
    refine t_done (by kernel_rfl) ?_
    refine c_norm ?_
    refine k_sg ?_
    refine s_run rfl rfl (rai rfl) ?_
    refine k_nc ?_
    refine k_ret ?_
    refine fin1r (v := .int _ _) rfl rfl ?_
    exact ⟨rfl, hG H⟩
   ·refine up_mk rfl ?_
    refine s_bsO (enc := (Value.int .i64)) (zs := [a]) H rfl rfl rfl (by omega) (by kernel_rfl) Try.underlying25 inf3 ?_
    intro q9 _ H'; clear H; have H := H'; clear H'
    refine k_nil ?_
    refine t_on trivial ?_
    refine t_up1 7 (by kernel_rfl) ?_
    refine up_mk rfl ?_
    refine s_run rfl rfl (r_lo H 2 rfl rfl (frC_get hj) ag25) ?_
    refine k_nil ?_
    refine t_on trivial ?_
    refine t_up1 10 (by kernel_rfl) ?_
    refine up_mk rfl ?_
    refine s_apB (enc := (Value.int .i64)) (size := 1) H 0 rfl rfl rfl rfl (fun _ => rfl) (by omega) (by omega) Try.underlying25 inf3 rfl ?_
    intro A2 c2 _ H'; simp only [List.set_cons_zero, List.set_cons_succ, List.take_succ_cons, List.take_zero, List.drop_succ_cons, List.drop_zero, List.cons_append, List.nil_append, List.append_nil, List.length_cons, List.length_nil, Nat.reduceAdd] at H'; clear H; have H := H'; clear H'
    refine k_nil ?_
    refine t_on trivial ?_
    refine tqh 13 rfl rfl rfl (fun _ hS => r_ia0 (i := j) rfl rfl (by omega) (by omega) Try.underlying92 sz25) trivial ?_
    refine t_up1 14 (by kernel_rfl) ?_
    refine up_mk rfl ?_
    refine s_stC H 1 rfl rfl rfl rfl (frC_get hj) (frC_set (r := ⟨A2, (F (j * 5)).n + 1, c2, (F (j * 5)).xs ++ [a]⟩) hj) rfl sz25 ?_
    clear H; intro _ H; simp only [jA, jB, jC, jD, jE, jF, jG, jH, jI, jJ, jK, Nat.reduceAdd] at H
    refine k_nil ?_
    refine t_on trivial ?_
    refine t_done (by kernel_rfl) ?_
    refine c_norm ?_
    refine k_sg ?_
    refine s_run rfl rfl (rai rfl) ?_
    refine k_nc ?_
    refine k_ret ?_
    refine fin1r (v := .int _ _) rfl rfl ?_
    exact ⟨rfl, hG H⟩
theorem imin (a b : Int) : (if b < a then b else a) = min a b := by split <;> omega
theorem oTake (hE : Ents (frE p b F F l) w) (hok : FrOk F l N) (hN : N ≤ 10000) (m k : Int) :
  Calls Try.prog 16 [ptrF p, .int .i64 m, .int .i64 k].toArray w fun e w' => e = .returned (.tuple [.int .i64 (fTake (xsOf F) m k).2.1, .int .i64 (fTake (xsOf F) m k).2.2].toArray) ∧ FrTo p b F l (N + 4) (fTake (xsOf F) m k).1 w w' := by
 have H := Heap.start hE
 have hC := fun W => fRight m k W
 unfold fTake
 by_cases hb : isM m = false ∨ isC k = false
 ·rw [if_pos hb]
  have e : (isM m && isC k) = false := by rcases hb with h | h <;> simp [h]
  simp only [e] at hC
  refine k_in (N := 96) Try.func16 rfl rfl rfl ?_
  refine k_sg ?_
  refine s_run rfl rfl (rai rfl) ?_
  refine s_run rfl rfl (rai rfl) ?_
  refine k_nc ?_
  refine k_seq ?_
  refine k_sg ?_
  refine s_run rfl rfl (rmi rfl) ?_
  refine s_run rfl rfl (rmi rfl) ?_
  refine s_call rfl (hC _) (ca57 rfl) ?_
  rintro e W1 ⟨rfl, H'⟩
  refine ⟨_, rfl, ?_⟩
  have H := H.same H'; clear H'
  refine s_run rfl rfl (r_notF rfl) ?_
  refine k_nc ?_
  refine k_t rfl ?_
  refine k_sg ?_
  refine s_run rfl rfl (rai rfl) ?_
  refine s_run rfl rfl (rai rfl) ?_
  refine k_nc ?_
  refine k_ret ?_
  refine c_ret ?_
  refine fin2r (v := .int _ _) (v2 := .int _ _) rfl rfl rfl ?_
  exact ⟨rfl, F, l, H, hok.mono (by omega), rfl⟩
 ·rw [if_neg hb]
  have hm : isM m = true := by cases h : isM m <;> simp [h] at hb ⊢
  have hk : isC k = true := by cases h : isC k <;> simp [h] at hb ⊢
  have e : (isM m && isC k) = true := by rw [hm, hk]; rfl
  simp only [e] at hC
  obtain ⟨m, rfl, hm4⟩ := isM_nat hm
  obtain ⟨k, rfl, hk32⟩ := isC_nat hk
  rw [Int.toNat_natCast, Int.toNat_natCast]
  have gd := gdF hm4 hk32
  obtain ⟨I, hI⟩ : ∃ I, ids (frE p b F F l) = I := ⟨_, rfl⟩
  rw [hI] at H
  unfold frE at H
  have hln0 := fam_len H 2 rfl (i := k * 5 + 1 + m) (by omega)
  have hlng := fam_len H 2 rfl (i := k * 5) (by omega)
  have hNi0 := hok.len (k * 5 + 1 + m) (by omega)
  have hNig := hok.len (k * 5) (by omega)
  replace H := H.pull 2 rfl (i := k * 5 + 1 + m) (by omega)
  simp only [List.set_cons_zero, List.set_cons_succ] at H
  by_cases h0 : (F (k * 5 + 1 + m)).n = 0
  ·
   have hx0 : xsOf F (k * 5 + 1 + m) = [] := List.eq_nil_of_length_eq_zero (by show (F (k * 5 + 1 + m)).xs.length = 0; omega)
   obtain ⟨fr, hfr⟩ : ∃ fr, (F (k * 5)).n - 4 = fr := ⟨_, rfl⟩
   have hfill : fFill (xsOf F) m k = updS (updS (xsOf F) (k * 5) ((F (k * 5)).xs.take fr)) (k * 5 + 1 + m) ((F (k * 5)).xs.drop fr) := by
    unfold fFill
    rw [if_pos hx0]
    show updS (updS (xsOf F) (k * 5) ((F (k * 5)).xs.take ((F (k * 5)).xs.length - 4))) (k * 5 + 1 + m) ((F (k * 5)).xs.drop ((F (k * 5)).xs.length - 4)) = _
    rw [hlng, hfr]
   rw [hfill]
   rw [updS_at]
   replace H := H.drop
   replace H := H.pull 2 rfl (i := k * 5) (by omega)
   simp only [List.set_cons_zero, List.set_cons_succ] at H
   rw [updR_off _ _ (show k * 5 ≠ k * 5 + 1 + m by omega)] at H
   have hcg := own_cap H 0 rfl
   unfold rowE at H
   have hfrI : ((F (k * 5)).n : Int) - min ((F (k * 5)).n : Int) 4 = (fr : Int) := by omega
   have hG : ∀ {l2 : FrM} {r1 : RowS} {W' : World}, FrOk (updR (updR F (k * 5) ⟨(F (k * 5)).A, fr, (F (k * 5)).c, (F (k * 5)).xs.take fr⟩) (k * 5 + 1 + m) r1) l2 (N + 4) → Heap w I [rowE 3 r1, ownN 1 (.slice (F (k * 5)).A (F (k * 5)).n (F (k * 5)).c) (F (k * 5)).n ((F (k * 5)).xs.map (Value.int .i64)) 3, blk p (frC (updR F (k * 5) ⟨(F (k * 5)).A, fr, (F (k * 5)).c, (F (k * 5)).xs.take fr⟩) b) 95, mp kF RowS.v b l2, fam 3 160 (updR (updR F (k * 5 + 1 + m) RowS.nil) (k * 5) RowS.nil)] W' → FrTo p b F l (N + 4) (updS (updS (xsOf F) (k * 5) ((F (k * 5)).xs.take fr)) (k * 5 + 1 + m) r1.xs) w W' := fun {l2 r1 W'} hok2 H => by
    have h1 := row_shrink (r := F (k * 5)) (m := fr) H 1 rfl (by omega)
    simp only [List.set_cons_zero, List.set_cons_succ] at h1
    have h2 := Heap.push h1 3 rfl (i := k * 5 + 1 + m) (by omega) (by rw [updR_off _ _ (by omega), updR_at])
    simp only [List.set_cons_zero, List.set_cons_succ] at h2
    have h3 := Heap.push h2 2 rfl (i := k * 5) (by omega) (by rw [updR_off _ _ (by omega), updR_at])
    simp only [List.set_cons_zero, List.set_cons_succ] at h3
    have eF : updR (updR (updR (updR F (k * 5 + 1 + m) RowS.nil) (k * 5) RowS.nil) (k * 5 + 1 + m) r1) (k * 5) ⟨(F (k * 5)).A, fr, (F (k * 5)).c, (F (k * 5)).xs.take fr⟩ = updR (updR F (k * 5) ⟨(F (k * 5)).A, fr, (F (k * 5)).c, (F (k * 5)).xs.take fr⟩) (k * 5 + 1 + m) r1 := by
     funext i
     unfold updR
     by_cases e1 : i = k * 5
     ·subst e1
      rw [if_pos rfl, if_neg (by omega), if_pos rfl]
     ·rw [if_neg e1]
      by_cases e2 : i = k * 5 + 1 + m
      ·rw [if_pos e2, if_pos e2]
      ·rw [if_neg e2, if_neg e1, if_neg e2, if_neg e2, if_neg e1]
    rw [eF] at h3
    refine ⟨_, l2, ?_, hok2, by rw [xsOf_upd, xsOf_upd]⟩
    rw [hI]
    unfold frE
    have e5 : frC (updR F (k * 5) ⟨(F (k * 5)).A, fr, (F (k * 5)).c, (F (k * 5)).xs.take fr⟩) b = frC (updR (updR F (k * 5) ⟨(F (k * 5)).A, fr, (F (k * 5)).c, (F (k * 5)).xs.take fr⟩) (k * 5 + 1 + m) r1) b := by
     unfold frC
     refine fnC_congr fun i hi => ?_
     split
     ·rfl
     ·rw [updR_off (i := k * 5 + 1 + m) _ _ (by omega)]
    rw [← e5]; exact h3
   obtain ⟨A0, c0, hv0⟩ : ∃ A0 c0, ((mget l ((m : Int), (k : Int))).map RowS.v).getD (.slice none 0 0) = .slice A0 0 c0 := by
    rcases hok.got m k hm4 hk32 with hg | ⟨hg, _⟩
    ·rw [hg]; exact ⟨(F (k * 5 + 1 + m)).A, (F (k * 5 + 1 + m)).c, by show RowS.v _ = _; unfold RowS.v; rw [h0]⟩
    ·rw [hg]; exact ⟨none, 0, rfl⟩
   have hdl : ((F (k * 5)).xs.drop fr).length = (F (k * 5)).n - fr := by rw [List.length_drop, hlng]
   refine k_in (N := 96) Try.func16 rfl rfl rfl ?_
   refine k_sg ?_
   refine s_run rfl rfl (rai rfl) ?_
   refine s_run rfl rfl (rai rfl) ?_
   refine k_nc ?_
   refine k_seq ?_
   refine k_sg ?_
   refine s_run rfl rfl (rmi rfl) ?_
   refine s_run rfl rfl (rmi rfl) ?_
   refine s_call rfl (hC _) (ca57 rfl) ?_
   rintro e W1 ⟨rfl, H'⟩
   refine ⟨_, rfl, ?_⟩
   have H := H.same H'; clear H'
   refine s_run rfl rfl (r_notT rfl) ?_
   refine k_nc ?_
   refine k_f rfl ?_
   refine k_skip ?_
   refine c_norm ?_
   refine k_sg ?_
   refine s_run rfl rfl (rmi rfl) ?_
   refine s_run rfl rfl (rmi rfl) ?_
   refine s_run rfl rfl (r_bd (bd97_0_1 _ _) rfl) ?_
   refine s_al H rfl inf97 ?_
   intro p8 _ H'; clear H; have H := H'; clear H'
   refine s_sw H 0 rfl rfl rfl rfl rfl rfl rfl sz97 ?_
   clear H; intro _ H; simp only [jA, jB, jC, jD, jE, jF, jG, jH, jI, jJ, jK, Nat.reduceAdd] at H
   refine k_nc ?_
   refine k_seq ?_
   refine k_seq ?_
   refine k_q mixed (by kernel_rfl) H ?_
   refine q_run rfl rfl (fun _ H => r_mv (v := .pointer _) rfl) ?_
   refine q_run rfl rfl (fun _ H => r_nc rfl) ?_
   refine q_run rfl rfl (fun _ H => r_fa0 rfl fo95_1) ?_
   refine q_run rfl rfl (fun _ H => r_lo H 2 rfl rfl rfl ag93) ?_
   refine q_run rfl rfl (fun _ H => r_la H 0 rfl rfl rfl ag97 sz97) ?_
   refine q_run rfl rfl (fun _ H => r_lkV H 3 rfl rfl rfl (gd) (hv0) Try.underlying93 (zv_of inf25)) ?_
   refine q_run rfl rfl (fun _ H => r_len rfl Try.underlying25) ?_
   refine q_run rfl rfl (fun _ H => r_eqlT rfl rfl (by omega)) ?_
   refine q_nil ?_
   intro _ H'; clear H; have H := H'; clear H'
   refine c_norm ?_
   refine k_t rfl ?_
   refine k_sg ?_
   refine s_run rfl rfl (rmp rfl) ?_
   refine s_run rfl rfl (rmi rfl) ?_
   refine s_run rfl rfl (r_nc rfl) ?_
   refine s_run rfl rfl (r_fa0 rfl fo95_0) ?_
   refine s_run rfl rfl (r_ia0 (i := k) rfl rfl (by omega) (by omega) Try.underlying92 sz25) ?_
   refine s_run rfl rfl (r_lo H 2 rfl rfl (frC_get hk32) ag25) ?_
   refine s_run rfl rfl (r_len rfl Try.underlying25) ?_
   refine s_run rfl rfl (r_min rfl rfl (imin _ _)) ?_
   refine s_run rfl rfl (rai rfl) ?_
   refine k_nc ?_
   refine k_sg ?_
   refine s_run rfl rfl (rmp rfl) ?_
   refine s_run rfl rfl (rmi rfl) ?_
   refine s_run rfl rfl (r_nc rfl) ?_
   refine s_run rfl rfl (r_fa0 rfl fo95_0) ?_
   refine s_run rfl rfl (r_ia0 (i := k) rfl rfl (by omega) (by omega) Try.underlying92 sz25) ?_
   refine s_run rfl rfl (r_lo H 2 rfl rfl (frC_get hk32) ag25) ?_
   refine s_run rfl rfl (r_len rfl Try.underlying25) ?_
   refine s_run rfl rfl (rmi rfl) ?_
   refine s_run rfl rfl (r_sub rfl rfl (wI (by omega))) ?_
   refine s_run rfl rfl (rai rfl) ?_
   refine k_nc ?_
   refine k_seq ?_
   refine k_cut (fun f W => ∃ A1 c1, f 0 = ptrF p ∧ f 1 = .int .i64 m ∧ f 2 = .int .i64 k ∧ f 8 = ptrF p8 ∧ f 10 = .int .i64 fr ∧ Heap w I [ownN 1 (.slice A1 ((F (k * 5)).n - fr) c1) ((F (k * 5)).n - fr) (((F (k * 5)).xs.drop fr).map (Value.int .i64)) 3, blk p8 [.int .i64 m, .int .i64 k] 97, ownN 1 (.slice (F (k * 5)).A (F (k * 5)).n (F (k * 5)).c) (F (k * 5)).n ((F (k * 5)).xs.map (Value.int .i64)) 3, blk p (frC F b) 95, mp kF RowS.v b (mput l ((m : Int), (k : Int)) ⟨A1, (F (k * 5)).n - fr, c1, (F (k * 5)).xs.drop fr⟩), fam 3 160 (updR (updR F (k * 5 + 1 + m) RowS.nil) (k * 5) RowS.nil)] W) ?_ ?_
   ·refine k_trF mixed ?_; have H' := H.drew; clear H; have H := H'; clear H'
    refine tqn 0 rfl rfl rfl (fun _ hS => r_mv (v := .pointer _) rfl) trivial ?_
    refine tqn 1 rfl rfl rfl (fun _ hS => r_nc rfl) trivial ?_
    refine tqn 2 rfl rfl rfl (fun _ hS => r_fa0 rfl fo95_1) trivial ?_
    refine tqn 5 rfl rfl rfl (fun _ hS => r_mv (v := .pointer _) rfl) trivial ?_
    refine tqn 6 rfl rfl rfl (fun _ hS => r_mv (v := .int _ _) rfl) trivial ?_
    refine tqn 7 rfl rfl rfl (fun _ hS => r_nc rfl) trivial ?_
    refine tqn 8 rfl rfl rfl (fun _ hS => r_fa0 rfl fo95_0) trivial ?_
    refine tqn 9 rfl rfl rfl (fun _ hS => r_ia0 (i := k) rfl rfl (by omega) (by omega) Try.underlying92 sz25) trivial ?_
    refine tqn 11 rfl rfl rfl (fun _ hS => r_mv (v := .int _ _) rfl) trivial ?_
    refine t_up3 3 4 10 (by kernel_rfl) ?_ ?_ ?_
    ·refine up_mk rfl ?_
     refine s_run rfl rfl (r_lo H 2 rfl rfl (frC_map F b) ag93) ?_
     refine k_nil ?_
     refine t_on trivial ?_
     refine t_up2 4 10 (by kernel_rfl) ?_ ?_
     ·refine up_mk rfl ?_
      refine s_run rfl rfl (r_la H 0 rfl rfl rfl ag97 sz97) ?_
      refine k_nil ?_
      refine t_on trivial ?_
      refine t_up1 10 (by kernel_rfl) ?_
      refine up_mk rfl ?_
      refine s_run rfl rfl (r_lo H 2 rfl rfl (frC_get hk32) ag25) ?_
      refine k_nil ?_
      refine t_on trivial ?_
      refine tqn 12 rfl rfl rfl (fun _ hS => r_sloA (i := fr) rfl rfl (by omega) (by omega) Try.underlying25 sz3) trivial ?_
      refine t_up1 13 (by kernel_rfl) ?_
      refine up_mk rfl ?_
      refine s_call rfl (sClone _ _ _ ((F (k * 5)).xs.drop fr) _ ((own_seesC H 1 rfl).slo fr (by omega)) hdl (by omega)) (ca54 rfl) ?_
      rintro e W1 ⟨A1, c1, rfl, H'⟩
      refine ⟨_, rfl, ?_⟩
      have H := H.more H'; clear H'; simp only [List.cons_append, List.nil_append] at H
      refine k_nil ?_
      refine t_on trivial ?_
      refine t_up1 14 (by kernel_rfl) ?_
      refine up_mk rfl ?_
      refine s_mu (q := ⟨A1, (F (k * 5)).n - fr, c1, (F (k * 5)).xs.drop fr⟩) H 4 rfl rfl rfl rfl rfl (gd) Try.underlying93 ?_
      clear H; intro _ H; simp only [jA, jB, jC, jD, jE, jF, jG, jH, jI, jJ, jK, Nat.reduceAdd] at H
      refine k_nil ?_
      refine t_on trivial ?_
      refine t_done (by kernel_rfl) ?_
      refine k_met ?_
      exact ⟨A1, c1, rfl, rfl, rfl, rfl, by show Value.int _ _ = _; rw [hfrI], H⟩
     ·refine up_mk rfl ?_
      refine s_run rfl rfl (r_lo H 2 rfl rfl (frC_get hk32) ag25) ?_
      refine k_nil ?_
      refine t_on trivial ?_
      refine tqn 12 rfl rfl rfl (fun _ hS => r_sloA (i := fr) rfl rfl (by omega) (by omega) Try.underlying25 sz3) trivial ?_
      refine t_up2 4 13 (by kernel_rfl) ?_ ?_
      ·refine up_mk rfl ?_
       refine s_run rfl rfl (r_la H 0 rfl rfl rfl ag97 sz97) ?_
       refine k_nil ?_
       refine t_on trivial ?_
       refine t_up1 13 (by kernel_rfl) ?_
       refine up_mk rfl ?_
       refine s_call rfl (sClone _ _ _ ((F (k * 5)).xs.drop fr) _ ((own_seesC H 1 rfl).slo fr (by omega)) hdl (by omega)) (ca54 rfl) ?_
       rintro e W1 ⟨A1, c1, rfl, H'⟩
       refine ⟨_, rfl, ?_⟩
       have H := H.more H'; clear H'; simp only [List.cons_append, List.nil_append] at H
       refine k_nil ?_
       refine t_on trivial ?_
       refine t_up1 14 (by kernel_rfl) ?_
       refine up_mk rfl ?_
       refine s_mu (q := ⟨A1, (F (k * 5)).n - fr, c1, (F (k * 5)).xs.drop fr⟩) H 4 rfl rfl rfl rfl rfl (gd) Try.underlying93 ?_
       clear H; intro _ H; simp only [jA, jB, jC, jD, jE, jF, jG, jH, jI, jJ, jK, Nat.reduceAdd] at H
       refine k_nil ?_
       refine t_on trivial ?_
       refine t_done (by kernel_rfl) ?_
       refine k_met ?_
       exact ⟨A1, c1, rfl, rfl, rfl, rfl, by show Value.int _ _ = _; rw [hfrI], H⟩
      ·refine up_mk rfl ?_
       refine s_call rfl (sClone _ _ _ ((F (k * 5)).xs.drop fr) _ ((own_seesC H 1 rfl).slo fr (by omega)) hdl (by omega)) (ca54 rfl) ?_
       rintro e W1 ⟨A1, c1, rfl, H'⟩
       refine ⟨_, rfl, ?_⟩
       have H := H.more H'; clear H'; simp only [List.cons_append, List.nil_append] at H
       refine k_nil ?_
       refine t_on trivial ?_
       refine t_up1 4 (by kernel_rfl) ?_
       refine up_mk rfl ?_
       refine s_run rfl rfl (r_la H 1 rfl rfl rfl ag97 sz97) ?_
       refine k_nil ?_
       refine t_on trivial ?_
       refine t_up1 14 (by kernel_rfl) ?_
       refine up_mk rfl ?_
       refine s_mu (q := ⟨A1, (F (k * 5)).n - fr, c1, (F (k * 5)).xs.drop fr⟩) H 4 rfl rfl rfl rfl rfl (gd) Try.underlying93 ?_
       clear H; intro _ H; simp only [jA, jB, jC, jD, jE, jF, jG, jH, jI, jJ, jK, Nat.reduceAdd] at H
       refine k_nil ?_
       refine t_on trivial ?_
       refine t_done (by kernel_rfl) ?_
       refine k_met ?_
       exact ⟨A1, c1, rfl, rfl, rfl, rfl, by show Value.int _ _ = _; rw [hfrI], H⟩
    ·refine up_mk rfl ?_
     refine s_run rfl rfl (r_la H 0 rfl rfl rfl ag97 sz97) ?_
     refine k_nil ?_
     refine t_on trivial ?_
     refine t_up2 3 10 (by kernel_rfl) ?_ ?_
     ·refine up_mk rfl ?_
      refine s_run rfl rfl (r_lo H 2 rfl rfl (frC_map F b) ag93) ?_
      refine k_nil ?_
      refine t_on trivial ?_
      refine t_up1 10 (by kernel_rfl) ?_
      refine up_mk rfl ?_
      refine s_run rfl rfl (r_lo H 2 rfl rfl (frC_get hk32) ag25) ?_
      refine k_nil ?_
      refine t_on trivial ?_
      refine tqn 12 rfl rfl rfl (fun _ hS => r_sloA (i := fr) rfl rfl (by omega) (by omega) Try.underlying25 sz3) trivial ?_
      refine t_up1 13 (by kernel_rfl) ?_
      refine up_mk rfl ?_
      refine s_call rfl (sClone _ _ _ ((F (k * 5)).xs.drop fr) _ ((own_seesC H 1 rfl).slo fr (by omega)) hdl (by omega)) (ca54 rfl) ?_
      rintro e W1 ⟨A1, c1, rfl, H'⟩
      refine ⟨_, rfl, ?_⟩
      have H := H.more H'; clear H'; simp only [List.cons_append, List.nil_append] at H
      refine k_nil ?_
      refine t_on trivial ?_
      refine t_up1 14 (by kernel_rfl) ?_
      refine up_mk rfl ?_
      refine s_mu (q := ⟨A1, (F (k * 5)).n - fr, c1, (F (k * 5)).xs.drop fr⟩) H 4 rfl rfl rfl rfl rfl (gd) Try.underlying93 ?_
      clear H; intro _ H; simp only [jA, jB, jC, jD, jE, jF, jG, jH, jI, jJ, jK, Nat.reduceAdd] at H
      refine k_nil ?_
      refine t_on trivial ?_
      refine t_done (by kernel_rfl) ?_
      refine k_met ?_
      exact ⟨A1, c1, rfl, rfl, rfl, rfl, by show Value.int _ _ = _; rw [hfrI], H⟩
     ·refine up_mk rfl ?_
      refine s_run rfl rfl (r_lo H 2 rfl rfl (frC_get hk32) ag25) ?_
      refine k_nil ?_
      refine t_on trivial ?_
      refine tqn 12 rfl rfl rfl (fun _ hS => r_sloA (i := fr) rfl rfl (by omega) (by omega) Try.underlying25 sz3) trivial ?_
      refine t_up2 3 13 (by kernel_rfl) ?_ ?_
      ·refine up_mk rfl ?_
       refine s_run rfl rfl (r_lo H 2 rfl rfl (frC_map F b) ag93) ?_
       refine k_nil ?_
       refine t_on trivial ?_
       refine t_up1 13 (by kernel_rfl) ?_
       refine up_mk rfl ?_
       refine s_call rfl (sClone _ _ _ ((F (k * 5)).xs.drop fr) _ ((own_seesC H 1 rfl).slo fr (by omega)) hdl (by omega)) (ca54 rfl) ?_
       rintro e W1 ⟨A1, c1, rfl, H'⟩
       refine ⟨_, rfl, ?_⟩
       have H := H.more H'; clear H'; simp only [List.cons_append, List.nil_append] at H
       refine k_nil ?_
       refine t_on trivial ?_
       refine t_up1 14 (by kernel_rfl) ?_
       refine up_mk rfl ?_
       refine s_mu (q := ⟨A1, (F (k * 5)).n - fr, c1, (F (k * 5)).xs.drop fr⟩) H 4 rfl rfl rfl rfl rfl (gd) Try.underlying93 ?_
       clear H; intro _ H; simp only [jA, jB, jC, jD, jE, jF, jG, jH, jI, jJ, jK, Nat.reduceAdd] at H
       refine k_nil ?_
       refine t_on trivial ?_
       refine t_done (by kernel_rfl) ?_
       refine k_met ?_
       exact ⟨A1, c1, rfl, rfl, rfl, rfl, by show Value.int _ _ = _; rw [hfrI], H⟩
      ·refine up_mk rfl ?_
       refine s_call rfl (sClone _ _ _ ((F (k * 5)).xs.drop fr) _ ((own_seesC H 1 rfl).slo fr (by omega)) hdl (by omega)) (ca54 rfl) ?_
       rintro e W1 ⟨A1, c1, rfl, H'⟩
       refine ⟨_, rfl, ?_⟩
       have H := H.more H'; clear H'; simp only [List.cons_append, List.nil_append] at H
       refine k_nil ?_
       refine t_on trivial ?_
       refine t_up1 3 (by kernel_rfl) ?_
       refine up_mk rfl ?_
       refine s_run rfl rfl (r_lo H 3 rfl rfl (frC_map F b) ag93) ?_
       refine k_nil ?_
       refine t_on trivial ?_
       refine t_up1 14 (by kernel_rfl) ?_
       refine up_mk rfl ?_
       refine s_mu (q := ⟨A1, (F (k * 5)).n - fr, c1, (F (k * 5)).xs.drop fr⟩) H 4 rfl rfl rfl rfl rfl (gd) Try.underlying93 ?_
       clear H; intro _ H; simp only [jA, jB, jC, jD, jE, jF, jG, jH, jI, jJ, jK, Nat.reduceAdd] at H
       refine k_nil ?_
       refine t_on trivial ?_
       refine t_done (by kernel_rfl) ?_
       refine k_met ?_
       exact ⟨A1, c1, rfl, rfl, rfl, rfl, by show Value.int _ _ = _; rw [hfrI], H⟩
    ·refine up_mk rfl ?_
     refine s_run rfl rfl (r_lo H 2 rfl rfl (frC_get hk32) ag25) ?_
     refine k_nil ?_
     refine t_on trivial ?_
     refine tqn 12 rfl rfl rfl (fun _ hS => r_sloA (i := fr) rfl rfl (by omega) (by omega) Try.underlying25 sz3) trivial ?_
     refine t_up3 3 4 13 (by kernel_rfl) ?_ ?_ ?_
     ·refine up_mk rfl ?_
      refine s_run rfl rfl (r_lo H 2 rfl rfl (frC_map F b) ag93) ?_
      refine k_nil ?_
      refine t_on trivial ?_
      refine t_up2 4 13 (by kernel_rfl) ?_ ?_
      ·refine up_mk rfl ?_
       refine s_run rfl rfl (r_la H 0 rfl rfl rfl ag97 sz97) ?_
       refine k_nil ?_
       refine t_on trivial ?_
       refine t_up1 13 (by kernel_rfl) ?_
       refine up_mk rfl ?_
       refine s_call rfl (sClone _ _ _ ((F (k * 5)).xs.drop fr) _ ((own_seesC H 1 rfl).slo fr (by omega)) hdl (by omega)) (ca54 rfl) ?_
       rintro e W1 ⟨A1, c1, rfl, H'⟩
       refine ⟨_, rfl, ?_⟩
       have H := H.more H'; clear H'; simp only [List.cons_append, List.nil_append] at H
       refine k_nil ?_
       refine t_on trivial ?_
       refine t_up1 14 (by kernel_rfl) ?_
       refine up_mk rfl ?_
       refine s_mu (q := ⟨A1, (F (k * 5)).n - fr, c1, (F (k * 5)).xs.drop fr⟩) H 4 rfl rfl rfl rfl rfl (gd) Try.underlying93 ?_
       clear H; intro _ H; simp only [jA, jB, jC, jD, jE, jF, jG, jH, jI, jJ, jK, Nat.reduceAdd] at H
       refine k_nil ?_
       refine t_on trivial ?_
       refine t_done (by kernel_rfl) ?_
       refine k_met ?_
       exact ⟨A1, c1, rfl, rfl, rfl, rfl, by show Value.int _ _ = _; rw [hfrI], H⟩
      ·refine up_mk rfl ?_
       refine s_call rfl (sClone _ _ _ ((F (k * 5)).xs.drop fr) _ ((own_seesC H 1 rfl).slo fr (by omega)) hdl (by omega)) (ca54 rfl) ?_
       rintro e W1 ⟨A1, c1, rfl, H'⟩
       refine ⟨_, rfl, ?_⟩
       have H := H.more H'; clear H'; simp only [List.cons_append, List.nil_append] at H
       refine k_nil ?_
       refine t_on trivial ?_
       refine t_up1 4 (by kernel_rfl) ?_
       refine up_mk rfl ?_
       refine s_run rfl rfl (r_la H 1 rfl rfl rfl ag97 sz97) ?_
       refine k_nil ?_
       refine t_on trivial ?_
       refine t_up1 14 (by kernel_rfl) ?_
       refine up_mk rfl ?_
       refine s_mu (q := ⟨A1, (F (k * 5)).n - fr, c1, (F (k * 5)).xs.drop fr⟩) H 4 rfl rfl rfl rfl rfl (gd) Try.underlying93 ?_
       clear H; intro _ H; simp only [jA, jB, jC, jD, jE, jF, jG, jH, jI, jJ, jK, Nat.reduceAdd] at H
       refine k_nil ?_
       refine t_on trivial ?_
       refine t_done (by kernel_rfl) ?_
       refine k_met ?_
       exact ⟨A1, c1, rfl, rfl, rfl, rfl, by show Value.int _ _ = _; rw [hfrI], H⟩
     ·refine up_mk rfl ?_
      refine s_run rfl rfl (r_la H 0 rfl rfl rfl ag97 sz97) ?_
      refine k_nil ?_
      refine t_on trivial ?_
      refine t_up2 3 13 (by kernel_rfl) ?_ ?_
      ·refine up_mk rfl ?_
       refine s_run rfl rfl (r_lo H 2 rfl rfl (frC_map F b) ag93) ?_
       refine k_nil ?_
       refine t_on trivial ?_
       refine t_up1 13 (by kernel_rfl) ?_
       refine up_mk rfl ?_
       refine s_call rfl (sClone _ _ _ ((F (k * 5)).xs.drop fr) _ ((own_seesC H 1 rfl).slo fr (by omega)) hdl (by omega)) (ca54 rfl) ?_
       rintro e W1 ⟨A1, c1, rfl, H'⟩
       refine ⟨_, rfl, ?_⟩
       have H := H.more H'; clear H'; simp only [List.cons_append, List.nil_append] at H
       refine k_nil ?_
       refine t_on trivial ?_
       refine t_up1 14 (by kernel_rfl) ?_
       refine up_mk rfl ?_
       refine s_mu (q := ⟨A1, (F (k * 5)).n - fr, c1, (F (k * 5)).xs.drop fr⟩) H 4 rfl rfl rfl rfl rfl (gd) Try.underlying93 ?_
       clear H; intro _ H; simp only [jA, jB, jC, jD, jE, jF, jG, jH, jI, jJ, jK, Nat.reduceAdd] at H
       refine k_nil ?_
       refine t_on trivial ?_
       refine t_done (by kernel_rfl) ?_
       refine k_met ?_
       exact ⟨A1, c1, rfl, rfl, rfl, rfl, by show Value.int _ _ = _; rw [hfrI], H⟩
      ·refine up_mk rfl ?_
       refine s_call rfl (sClone _ _ _ ((F (k * 5)).xs.drop fr) _ ((own_seesC H 1 rfl).slo fr (by omega)) hdl (by omega)) (ca54 rfl) ?_
       rintro e W1 ⟨A1, c1, rfl, H'⟩
       refine ⟨_, rfl, ?_⟩
       have H := H.more H'; clear H'; simp only [List.cons_append, List.nil_append] at H
       refine k_nil ?_
       refine t_on trivial ?_
       refine t_up1 3 (by kernel_rfl) ?_
       refine up_mk rfl ?_
       refine s_run rfl rfl (r_lo H 3 rfl rfl (frC_map F b) ag93) ?_
       refine k_nil ?_
       refine t_on trivial ?_
       refine t_up1 14 (by kernel_rfl) ?_
       refine up_mk rfl ?_
       refine s_mu (q := ⟨A1, (F (k * 5)).n - fr, c1, (F (k * 5)).xs.drop fr⟩) H 4 rfl rfl rfl rfl rfl (gd) Try.underlying93 ?_
       clear H; intro _ H; simp only [jA, jB, jC, jD, jE, jF, jG, jH, jI, jJ, jK, Nat.reduceAdd] at H
       refine k_nil ?_
       refine t_on trivial ?_
       refine t_done (by kernel_rfl) ?_
       refine k_met ?_
       exact ⟨A1, c1, rfl, rfl, rfl, rfl, by show Value.int _ _ = _; rw [hfrI], H⟩
     ·refine up_mk rfl ?_
      refine s_call rfl (sClone _ _ _ ((F (k * 5)).xs.drop fr) _ ((own_seesC H 1 rfl).slo fr (by omega)) hdl (by omega)) (ca54 rfl) ?_
      rintro e W1 ⟨A1, c1, rfl, H'⟩
      refine ⟨_, rfl, ?_⟩
      have H := H.more H'; clear H'; simp only [List.cons_append, List.nil_append] at H
      refine k_nil ?_
      refine t_on trivial ?_
      refine t_up2 3 4 (by kernel_rfl) ?_ ?_
      ·refine up_mk rfl ?_
       refine s_run rfl rfl (r_lo H 3 rfl rfl (frC_map F b) ag93) ?_
       refine k_nil ?_
       refine t_on trivial ?_
       refine t_up1 4 (by kernel_rfl) ?_
       refine up_mk rfl ?_
       refine s_run rfl rfl (r_la H 1 rfl rfl rfl ag97 sz97) ?_
       refine k_nil ?_
       refine t_on trivial ?_
       refine t_up1 14 (by kernel_rfl) ?_
       refine up_mk rfl ?_
       refine s_mu (q := ⟨A1, (F (k * 5)).n - fr, c1, (F (k * 5)).xs.drop fr⟩) H 4 rfl rfl rfl rfl rfl (gd) Try.underlying93 ?_
       clear H; intro _ H; simp only [jA, jB, jC, jD, jE, jF, jG, jH, jI, jJ, jK, Nat.reduceAdd] at H
       refine k_nil ?_
       refine t_on trivial ?_
       refine t_done (by kernel_rfl) ?_
       refine k_met ?_
       exact ⟨A1, c1, rfl, rfl, rfl, rfl, by show Value.int _ _ = _; rw [hfrI], H⟩
      ·refine up_mk rfl ?_
       refine s_run rfl rfl (r_la H 1 rfl rfl rfl ag97 sz97) ?_
       refine k_nil ?_
       refine t_on trivial ?_
       refine t_up1 3 (by kernel_rfl) ?_
       refine up_mk rfl ?_
       refine s_run rfl rfl (r_lo H 3 rfl rfl (frC_map F b) ag93) ?_
       refine k_nil ?_
       refine t_on trivial ?_
       refine t_up1 14 (by kernel_rfl) ?_
       refine up_mk rfl ?_
       refine s_mu (q := ⟨A1, (F (k * 5)).n - fr, c1, (F (k * 5)).xs.drop fr⟩) H 4 rfl rfl rfl rfl rfl (gd) Try.underlying93 ?_
       clear H; intro _ H; simp only [jA, jB, jC, jD, jE, jF, jG, jH, jI, jJ, jK, Nat.reduceAdd] at H
       refine k_nil ?_
       refine t_on trivial ?_
       refine t_done (by kernel_rfl) ?_
       refine k_met ?_
       exact ⟨A1, c1, rfl, rfl, rfl, rfl, by show Value.int _ _ = _; rw [hfrI], H⟩
   ·clear H
    rintro f W ⟨A1, c1, f0, f1, f2, f8, f10, H⟩
    obtain ⟨f, rfl⟩ := live5 f0 f1 f2 f8 f10
    clear f0 f1 f2 f8 f10
    have hg1 := mget_putS l ((m : Int), (k : Int)) (⟨A1, (F (k * 5)).n - fr, c1, (F (k * 5)).xs.drop fr⟩ : RowS)
    have hok1 := ((hok.mono (show N ≤ N + 4 by omega)).glob (k := k) (r := ⟨(F (k * 5)).A, fr, (F (k * 5)).c, (F (k * 5)).xs.take fr⟩) (by show fr ≤ _; omega)).own hm4 hk32 (r := ⟨A1, (F (k * 5)).n - fr, c1, (F (k * 5)).xs.drop fr⟩) (by show (F (k * 5)).n - fr ≤ _; omega)
    by_cases hg0 : (F (k * 5)).n = 0
    ·have hd0 : (F (k * 5)).xs.drop fr = [] := List.eq_nil_of_length_eq_zero (by omega)
     have hz : (F (k * 5)).n - fr = 0 := by omega
     rw [if_pos hd0]
     refine c_norm ?_
     refine k_qt 13 mixed (by kernel_rfl) H rfl rfl ?_
     refine q_run rfl rfl (fun _ H => r_mv (v := .pointer _) rfl) ?_
     refine q_run rfl rfl (fun _ H => r_mv (v := .int _ _) rfl) ?_
     refine q_run rfl rfl (fun _ H => r_mv (v := .pointer _) rfl) ?_
     refine q_run rfl rfl (fun _ H => r_mv (v := .int _ _) rfl) ?_
     refine q_run rfl rfl (fun _ H => r_nc rfl) ?_
     refine q_run rfl rfl (fun _ H => r_fa0 rfl fo95_0) ?_
     refine q_run rfl rfl (fun _ H => r_ia0 (i := k) rfl rfl (by omega) (by omega) Try.underlying92 sz25) ?_
     refine q_run rfl rfl (fun _ H => r_lo H 3 rfl rfl (frC_get hk32) ag25) ?_
     refine q_run rfl rfl (fun _ H => r_mv (v := .int _ _) rfl) ?_
     refine q_run rfl rfl (fun _ H => r_shiA (j := fr) rfl rfl rfl (by omega) Try.underlying25 sz3) ?_
     refine q_run rfl rfl (fun _ H => r_nc rfl) ?_
     refine q_run rfl rfl (fun _ H => r_fa0 rfl fo95_0) ?_
     refine q_run rfl rfl (fun _ H => r_ia0 (i := k) rfl rfl (by omega) (by omega) Try.underlying92 sz25) ?_
     refine q_nil ?_
     intro _ H'; clear H; have H := H'; clear H'
     refine s_stC H 3 rfl rfl rfl rfl (frC_get hk32) (frC_set (r := ⟨(F (k * 5)).A, fr, (F (k * 5)).c, (F (k * 5)).xs.take fr⟩) hk32) rfl sz25 ?_
     clear H; intro _ H; simp only [jA, jB, jC, jD, jE, jF, jG, jH, jI, jJ, jK, Nat.reduceAdd] at H
     refine k_nc ?_
     refine k_seq ?_
     refine k_q mixed (by kernel_rfl) H ?_
     refine q_run rfl rfl (fun _ H => r_mv (v := .pointer _) rfl) ?_
     refine q_run rfl rfl (fun _ H => r_nc rfl) ?_
     refine q_run rfl rfl (fun _ H => r_fa0 rfl fo95_1) ?_
     refine q_run rfl rfl (fun _ H => r_lo H 3 rfl rfl (frC_map _ b) ag93) ?_
     refine q_run rfl rfl (fun _ H => r_la H 1 rfl rfl rfl ag97 sz97) ?_
     refine q_run rfl rfl (fun _ H => r_lkV H 4 rfl rfl rfl (gd) ((by rw [hg1]; rfl : ((mget _ _).map RowS.v).getD (.slice none 0 0) = .slice A1 ((F (k * 5)).n - fr) c1)) Try.underlying93 (zv_of inf25)) ?_
     refine q_run rfl rfl (fun _ H => r_as (v := .slice _ _ _) rfl) ?_
     refine q_nil ?_
     intro _ H'; clear H; have H := H'; clear H'
     refine c_norm ?_
     refine k_seq ?_
     refine k_sg ?_
     refine s_run rfl rfl (rms rfl) ?_
     refine s_run rfl rfl (r_len rfl Try.underlying25) ?_
     refine s_run rfl rfl (r_eqlT rfl rfl (by omega)) ?_
     refine k_nc ?_
     refine k_t rfl ?_
     refine k_sg ?_
     refine s_run rfl rfl (rai rfl) ?_
     refine s_run rfl rfl (rai rfl) ?_
     refine k_nc ?_
     refine k_ret ?_
     refine c_ret ?_
     refine fin2r (v := .int _ _) (v2 := .int _ _) rfl rfl rfl ?_
     exact ⟨rfl, hG hok1 (H.subl [0, 2, 3, 4, 5] rfl rfl)⟩
    ·have hd0 : (F (k * 5)).xs.drop fr ≠ [] := fun e => by rw [e] at hdl; simp at hdl; omega
     rw [if_neg hd0]
     obtain ⟨n1, hn1⟩ : ∃ n1, (F (k * 5)).n - fr = n1 := ⟨_, rfl⟩
     rw [hn1] at H hg1 hok1 hdl
     have hc1 := own_cap H 0 rfl
     obtain ⟨q1, hq1⟩ := Heap.own_some H 0 rfl (by omega)
     subst hq1
     obtain ⟨y, hy⟩ : ∃ y, ((F (k * 5)).xs.drop fr)[n1 - 1]? = some y := ⟨_, List.getElem?_eq_getElem (by omega)⟩
     have hyd : ((F (k * 5)).xs.drop fr).getD (((F (k * 5)).xs.drop fr).length - 1) 0 = y := by rw [hdl, List.getD_eq_getElem?_getD, hy]; rfl
     rw [hyd, hdl]
     have hok2 := hok1.own hm4 hk32 (r := ⟨some ⟨q1, 0, none⟩, n1 - 1, c1, ((F (k * 5)).xs.drop fr).take (n1 - 1)⟩) (by show n1 - 1 ≤ _; omega)
     rw [updR_upd] at hok2
     refine c_norm ?_
     refine k_qt 13 mixed (by kernel_rfl) H rfl rfl ?_
     refine q_run rfl rfl (fun _ H => r_mv (v := .pointer _) rfl) ?_
     refine q_run rfl rfl (fun _ H => r_mv (v := .int _ _) rfl) ?_
     refine q_run rfl rfl (fun _ H => r_mv (v := .pointer _) rfl) ?_
     refine q_run rfl rfl (fun _ H => r_mv (v := .int _ _) rfl) ?_
     refine q_run rfl rfl (fun _ H => r_nc rfl) ?_
     refine q_run rfl rfl (fun _ H => r_fa0 rfl fo95_0) ?_
     refine q_run rfl rfl (fun _ H => r_ia0 (i := k) rfl rfl (by omega) (by omega) Try.underlying92 sz25) ?_
     refine q_run rfl rfl (fun _ H => r_lo H 3 rfl rfl (frC_get hk32) ag25) ?_
     refine q_run rfl rfl (fun _ H => r_mv (v := .int _ _) rfl) ?_
     refine q_run rfl rfl (fun _ H => r_shiA (j := fr) rfl rfl rfl (by omega) Try.underlying25 sz3) ?_
     refine q_run rfl rfl (fun _ H => r_nc rfl) ?_
     refine q_run rfl rfl (fun _ H => r_fa0 rfl fo95_0) ?_
     refine q_run rfl rfl (fun _ H => r_ia0 (i := k) rfl rfl (by omega) (by omega) Try.underlying92 sz25) ?_
     refine q_nil ?_
     intro _ H'; clear H; have H := H'; clear H'
     refine s_stC H 3 rfl rfl rfl rfl (frC_get hk32) (frC_set (r := ⟨(F (k * 5)).A, fr, (F (k * 5)).c, (F (k * 5)).xs.take fr⟩) hk32) rfl sz25 ?_
     clear H; intro _ H; simp only [jA, jB, jC, jD, jE, jF, jG, jH, jI, jJ, jK, Nat.reduceAdd] at H
     refine k_nc ?_
     refine k_seq ?_
     refine k_q mixed (by kernel_rfl) H ?_
     refine q_run rfl rfl (fun _ H => r_mv (v := .pointer _) rfl) ?_
     refine q_run rfl rfl (fun _ H => r_nc rfl) ?_
     refine q_run rfl rfl (fun _ H => r_fa0 rfl fo95_1) ?_
     refine q_run rfl rfl (fun _ H => r_lo H 3 rfl rfl (frC_map _ b) ag93) ?_
     refine q_run rfl rfl (fun _ H => r_la H 1 rfl rfl rfl ag97 sz97) ?_
     refine q_run rfl rfl (fun _ H => r_lkV H 4 rfl rfl rfl (gd) ((by rw [hg1]; rfl : ((mget _ _).map RowS.v).getD (.slice none 0 0) = .slice (some ⟨q1, 0, none⟩) n1 c1)) Try.underlying93 (zv_of inf25)) ?_
     refine q_run rfl rfl (fun _ H => r_as (v := .slice _ _ _) rfl) ?_
     refine q_nil ?_
     intro _ H'; clear H; have H := H'; clear H'
     refine c_norm ?_
     refine k_seq ?_
     refine k_sg ?_
     refine s_run rfl rfl (rms rfl) ?_
     refine s_run rfl rfl (r_len rfl Try.underlying25) ?_
     refine s_run rfl rfl (r_eqlF rfl rfl (by omega)) ?_
     refine k_nc ?_
     refine k_f rfl ?_
     refine k_skip ?_
     refine c_norm ?_
     refine k_seq ?_
     refine k_qt 10 mixed (by kernel_rfl) H rfl rfl ?_
     refine q_run rfl rfl (fun _ H => r_mv (v := .pointer _) rfl) ?_
     refine q_run rfl rfl (fun _ H => r_nc rfl) ?_
     refine q_run rfl rfl (fun _ H => r_fa0 rfl fo95_1) ?_
     refine q_run rfl rfl (fun _ H => r_lo H 3 rfl rfl (frC_map _ b) ag93) ?_
     refine q_run rfl rfl (fun _ H => r_la H 1 rfl rfl rfl ag97 sz97) ?_
     refine q_run rfl rfl (fun _ H => r_mv (v := .slice _ _ _) rfl) ?_
     refine q_run rfl rfl (fun _ H => r_mv (v := .slice _ _ _) rfl) ?_
     refine q_run rfl rfl (fun _ H => r_len rfl Try.underlying25) ?_
     refine q_run rfl rfl (fun _ H => r_sub rfl rfl (wI (by omega))) ?_
     refine q_run rfl rfl (fun _ H => r_shiA (j := n1 - 1) rfl rfl (by omega) (by omega) Try.underlying25 sz3) ?_
     refine q_nil ?_
     intro _ H'; clear H; have H := H'; clear H'
     refine s_mu (q := ⟨some ⟨q1, 0, none⟩, n1 - 1, c1, ((F (k * 5)).xs.drop fr).take (n1 - 1)⟩) H 4 rfl rfl rfl rfl rfl (gd) Try.underlying93 ?_
     clear H; intro _ H; simp only [jA, jB, jC, jD, jE, jF, jG, jH, jI, jJ, jK, Nat.reduceAdd] at H
     refine k_nc ?_
     refine k_sg ?_
     refine s_run rfl rfl (rms rfl) ?_
     refine s_run rfl rfl (rms rfl) ?_
     refine s_run rfl rfl (r_len rfl Try.underlying25) ?_
     refine s_run rfl rfl (r_sub rfl rfl (wI (by omega))) ?_
     refine s_run rfl rfl (r_ix1 (i := (n1 - 1)) rfl rfl (by omega) (by omega) Try.underlying25 sz3) ?_
     refine s_run rfl rfl (r_ow H 0 rfl rfl hy ag3) ?_
     refine s_run rfl rfl (rai rfl) ?_
     refine s_run rfl rfl (rai rfl) ?_
     refine k_nc ?_
     refine k_ret ?_
     refine fin2r (v := .int _ _) (v2 := .int _ _) rfl rfl rfl ?_
     have h1 := row_shrink (r := ⟨some ⟨q1, 0, none⟩, n1, c1, (F (k * 5)).xs.drop fr⟩) (m := n1 - 1) H 0 rfl (by show n1 - 1 ≤ n1; omega)
     simp only [List.set_cons_zero] at h1
     have h2 := hG hok2 (h1.subl [0, 2, 3, 4, 5] rfl rfl)
     rw [updS_upd]
     exact ⟨rfl, h2⟩
  ·have hg : mget l ((m : Int), (k : Int)) = some (F (k * 5 + 1 + m)) := (hok.got m k hm4 hk32).resolve_right (fun h => h0 (by rw [h.2]; rfl))
   have hfill : fFill (xsOf F) m k = xsOf F := by
    unfold fFill
    rw [if_neg (fun e => h0 (by rw [← hln0]; show (xsOf F (k * 5 + 1 + m)).length = 0; rw [e]; rfl))]
   rw [hfill]
   have hne : ¬ xsOf F (k * 5 + 1 + m) = [] := fun e => h0 (by rw [← hln0]; show (xsOf F (k * 5 + 1 + m)).length = 0; rw [e]; rfl)
   rw [if_neg hne]
   have hxs : xsOf F (k * 5 + 1 + m) = (F (k * 5 + 1 + m)).xs := rfl
   rw [hxs]
   obtain ⟨r, hr⟩ : ∃ r, F (k * 5 + 1 + m) = r := ⟨_, rfl⟩
   rw [hr] at H hln0 hg h0 hNi0 ⊢
   obtain ⟨A, n, c, xs⟩ := r
   simp only at hln0 h0 hNi0 ⊢
   unfold rowE at H
   simp only at H
   have hcap := own_cap H 0 rfl
   obtain ⟨q1, rfl⟩ := Heap.own_some H 0 rfl h0
   obtain ⟨y, hy⟩ : ∃ y, xs[n - 1]? = some y := ⟨_, List.getElem?_eq_getElem (by omega)⟩
   have hyd : xs.getD (xs.length - 1) 0 = y := by rw [hln0, List.getD_eq_getElem?_getD, hy]; rfl
   rw [hyd, hln0]
   have hok2 := (hok.mono (show N ≤ N + 4 by omega)).own hm4 hk32 (r := ⟨some ⟨q1, 0, none⟩, n - 1, c, xs.take (n - 1)⟩) (by show n - 1 ≤ _; omega)
   refine k_in (N := 96) Try.func16 rfl rfl rfl ?_
   refine k_sg ?_
   refine s_run rfl rfl (rai rfl) ?_
   refine s_run rfl rfl (rai rfl) ?_
   refine k_nc ?_
   refine k_seq ?_
   refine k_sg ?_
   refine s_run rfl rfl (rmi rfl) ?_
   refine s_run rfl rfl (rmi rfl) ?_
   refine s_call rfl (hC _) (ca57 rfl) ?_
   rintro e W1 ⟨rfl, H'⟩
   refine ⟨_, rfl, ?_⟩
   have H := H.same H'; clear H'
   refine s_run rfl rfl (r_notT rfl) ?_
   refine k_nc ?_
   refine k_f rfl ?_
   refine k_skip ?_
   refine c_norm ?_
   refine k_sg ?_
   refine s_run rfl rfl (rmi rfl) ?_
   refine s_run rfl rfl (rmi rfl) ?_
   refine s_run rfl rfl (r_bd (bd97_0_1 _ _) rfl) ?_
   refine s_al H rfl inf97 ?_
   intro p8 _ H'; clear H; have H := H'; clear H'
   refine s_sw H 0 rfl rfl rfl rfl rfl rfl rfl sz97 ?_
   clear H; intro _ H; simp only [jA, jB, jC, jD, jE, jF, jG, jH, jI, jJ, jK, Nat.reduceAdd] at H
   refine k_nc ?_
   refine k_seq ?_
   refine k_seq ?_
   refine k_q mixed (by kernel_rfl) H ?_
   refine q_run rfl rfl (fun _ H => r_mv (v := .pointer _) rfl) ?_
   refine q_run rfl rfl (fun _ H => r_nc rfl) ?_
   refine q_run rfl rfl (fun _ H => r_fa0 rfl fo95_1) ?_
   refine q_run rfl rfl (fun _ H => r_lo H 2 rfl rfl (frC_map _ b) ag93) ?_
   refine q_run rfl rfl (fun _ H => r_la H 0 rfl rfl rfl ag97 sz97) ?_
   refine q_run rfl rfl (fun _ H => r_lkV H 3 rfl rfl rfl (gd) ((by rw [hg]; rfl : ((mget _ _).map RowS.v).getD (.slice none 0 0) = .slice (some ⟨q1, 0, none⟩) n c)) Try.underlying93 (zv_of inf25)) ?_
   refine q_run rfl rfl (fun _ H => r_len rfl Try.underlying25) ?_
   refine q_run rfl rfl (fun _ H => r_eqlF rfl rfl (by omega)) ?_
   refine q_nil ?_
   intro _ H'; clear H; have H := H'; clear H'
   refine c_norm ?_
   refine k_f rfl ?_
   refine k_skip ?_
   refine c_norm ?_
   refine k_seq ?_
   refine k_q mixed (by kernel_rfl) H ?_
   refine q_run rfl rfl (fun _ H => r_mv (v := .pointer _) rfl) ?_
   refine q_run rfl rfl (fun _ H => r_nc rfl) ?_
   refine q_run rfl rfl (fun _ H => r_fa0 rfl fo95_1) ?_
   refine q_run rfl rfl (fun _ H => r_lo H 2 rfl rfl (frC_map _ b) ag93) ?_
   refine q_run rfl rfl (fun _ H => r_la H 0 rfl rfl rfl ag97 sz97) ?_
   refine q_run rfl rfl (fun _ H => r_lkV H 3 rfl rfl rfl (gd) ((by rw [hg]; rfl : ((mget _ _).map RowS.v).getD (.slice none 0 0) = .slice (some ⟨q1, 0, none⟩) n c)) Try.underlying93 (zv_of inf25)) ?_
   refine q_run rfl rfl (fun _ H => r_as (v := .slice _ _ _) rfl) ?_
   refine q_nil ?_
   intro _ H'; clear H; have H := H'; clear H'
   refine c_norm ?_
   refine k_seq ?_
   refine k_sg ?_
   refine s_run rfl rfl (rms rfl) ?_
   refine s_run rfl rfl (r_len rfl Try.underlying25) ?_
   refine s_run rfl rfl (r_eqlF rfl rfl (by omega)) ?_
   refine k_nc ?_
   refine k_f rfl ?_
   refine k_skip ?_
   refine c_norm ?_
   refine k_seq ?_
   refine k_qt 10 mixed (by kernel_rfl) H rfl rfl ?_
   refine q_run rfl rfl (fun _ H => r_mv (v := .pointer _) rfl) ?_
   refine q_run rfl rfl (fun _ H => r_nc rfl) ?_
   refine q_run rfl rfl (fun _ H => r_fa0 rfl fo95_1) ?_
   refine q_run rfl rfl (fun _ H => r_lo H 2 rfl rfl (frC_map _ b) ag93) ?_
   refine q_run rfl rfl (fun _ H => r_la H 0 rfl rfl rfl ag97 sz97) ?_
   refine q_run rfl rfl (fun _ H => r_mv (v := .slice _ _ _) rfl) ?_
   refine q_run rfl rfl (fun _ H => r_mv (v := .slice _ _ _) rfl) ?_
   refine q_run rfl rfl (fun _ H => r_len rfl Try.underlying25) ?_
   refine q_run rfl rfl (fun _ H => r_sub rfl rfl (wI (by omega))) ?_
   refine q_run rfl rfl (fun _ H => r_shiA (j := n - 1) rfl rfl (by omega) (by omega) Try.underlying25 sz3) ?_
   refine q_nil ?_
   intro _ H'; clear H; have H := H'; clear H'
   refine s_mu (q := ⟨some ⟨q1, 0, none⟩, n - 1, c, xs.take (n - 1)⟩) H 3 rfl rfl rfl rfl rfl (gd) Try.underlying93 ?_
   clear H; intro _ H; simp only [jA, jB, jC, jD, jE, jF, jG, jH, jI, jJ, jK, Nat.reduceAdd] at H
   refine k_nc ?_
   refine k_sg ?_
   refine s_run rfl rfl (rms rfl) ?_
   refine s_run rfl rfl (rms rfl) ?_
   refine s_run rfl rfl (r_len rfl Try.underlying25) ?_
   refine s_run rfl rfl (r_sub rfl rfl (wI (by omega))) ?_
   refine s_run rfl rfl (r_ix1 (i := (n - 1)) rfl rfl (by omega) (by omega) Try.underlying25 sz3) ?_
   refine s_run rfl rfl (r_ow H 1 rfl rfl hy ag3) ?_
   refine s_run rfl rfl (rai rfl) ?_
   refine s_run rfl rfl (rai rfl) ?_
   refine k_nc ?_
   refine k_ret ?_
   refine fin2r (v := .int _ _) (v2 := .int _ _) rfl rfl rfl ?_
   replace H := H.drop
   have h1 := row_shrink (r := ⟨some ⟨q1, 0, none⟩, n, c, xs⟩) (m := n - 1) H 0 rfl (by show n - 1 ≤ n; omega)
   simp only [List.set_cons_zero] at h1
   have h2 := Heap.push h1 2 rfl (i := k * 5 + 1 + m) (by omega) (updR_at _ _ _)
   rw [updR_upd] at h2
   refine ⟨rfl, _, _, ?_, hok2, by rw [xsOf_upd]⟩
   rw [hI]
   unfold frE
   have e5 : frC F b = frC (updR F (k * 5 + 1 + m) ⟨some ⟨q1, 0, none⟩, n - 1, c, xs.take (n - 1)⟩) b := by
    unfold frC
    refine fnC_congr fun i hi => ?_
    split
    ·rfl
    ·rw [updR_off (i := k * 5 + 1 + m) _ _ (by omega)]
   rw [← e5]; exact h2
end
end Go.Proofs.Ytlakbclnilakbaa
end

section
namespace Go.Proofs.Ytlakbclnilakbaa
open Go.RowKit
set_option maxRecDepth 100000
set_option maxHeartbeats 4000000
theorem frC_own {F : Nat → RowS} {b k m : Nat} {r : RowS} (hm : m < 4) : frC (updR F (k * 5 + 1 + m) r) b = frC F b := by
 unfold frC
 refine fnC_congr fun i hi => ?_
 split
 ·rfl
 ·rw [updR_off (i := k * 5 + 1 + m) _ _ (by omega)]
section
variable {p b N : Nat} {F : Nat → RowS} {l : FrM} {w : World}
theorem oPut (hE : Ents (frE p b F F l) w) (hok : FrOk F l N) (hN : N ≤ 10000) (m k a : Int) :
  Calls Try.prog 76 [ptrF p, .int .i64 m, .int .i64 k, .int .i64 a].toArray w fun e w' => e = .returned (.int .i64 (fPut (xsOf F) m k a).2) ∧ FrTo p b F l (N + N + 9) (fPut (xsOf F) m k a).1 w w' := by
 have H := Heap.start hE
 have hC := fun W => fRight m k W
 have hHa := fun {W : World} hE => oHas (p := p) (b := b) (F := F) (l := l) (w := W) hE hok (by omega) k a
 unfold fPut
 by_cases hb : isM m = false ∨ isC k = false
 ·rw [if_pos hb]
  have e : (isM m && isC k) = false := by rcases hb with h | h <;> simp [h]
  simp only [e] at hC
  refine k_in (N := 72) Try.func76 rfl rfl rfl ?_
  refine k_sg ?_
  refine s_run rfl rfl (rai rfl) ?_
  refine k_nc ?_
  refine k_seq ?_
  refine k_b ?_
  refine k_sg ?_
  refine s_run rfl rfl (rmi rfl) ?_
  refine s_run rfl rfl (rmi rfl) ?_
  refine s_call rfl (hC _) (ca57 rfl) ?_
  rintro e W1 ⟨rfl, H'⟩
  refine ⟨_, rfl, ?_⟩
  have H := H.same H'; clear H'
  refine s_run rfl rfl (r_notF rfl) ?_
  refine s_run rfl rfl (rab rfl) ?_
  refine k_nc ?_
  refine k_t rfl ?_
  refine k_sg ?_
  refine s_run rfl rfl (rai rfl) ?_
  refine k_nc ?_
  refine k_ret ?_
  refine b_ret ?_
  refine c_ret ?_
  refine fin1r (v := .int _ _) rfl rfl ?_
  exact ⟨rfl, F, l, H, hok.mono (by omega), rfl⟩
 rw [if_neg hb]
 have hm : isM m = true := by cases h : isM m <;> simp [h] at hb ⊢
 have hk : isC k = true := by cases h : isC k <;> simp [h] at hb ⊢
 have e : (isM m && isC k) = true := by rw [hm, hk]; rfl
 simp only [e] at hC
 by_cases hh : fHas (xsOf F) k a = true
 ·rw [if_pos hh]
  rw [hh] at hHa
  refine k_in (N := 72) Try.func76 rfl rfl rfl ?_
  refine k_sg ?_
  refine s_run rfl rfl (rai rfl) ?_
  refine k_nc ?_
  refine k_seq ?_
  refine k_b ?_
  refine k_sg ?_
  refine s_run rfl rfl (rmi rfl) ?_
  refine s_run rfl rfl (rmi rfl) ?_
  refine s_call rfl (hC _) (ca57 rfl) ?_
  rintro e W1 ⟨rfl, H'⟩
  refine ⟨_, rfl, ?_⟩
  have H := H.same H'; clear H'
  refine s_run rfl rfl (r_notT rfl) ?_
  refine s_run rfl rfl (rab rfl) ?_
  refine k_nc ?_
  refine k_f rfl ?_
  refine k_sg ?_
  refine s_run rfl rfl (rmp rfl) ?_
  refine s_run rfl rfl (rmi rfl) ?_
  refine s_run rfl rfl (rmi rfl) ?_
  refine s_call rfl (hHa H.ents) (ca10 rfl) ?_
  rintro e W1 ⟨rfl, H'⟩
  refine ⟨_, rfl, ?_⟩
  have H := H.same H'; clear H'
  refine s_run rfl rfl (rab rfl) ?_
  refine k_nc ?_
  refine k_t rfl ?_
  refine k_sg ?_
  refine s_run rfl rfl (rai rfl) ?_
  refine k_nc ?_
  refine k_ret ?_
  refine b_ret ?_
  refine c_ret ?_
  refine fin1r (v := .int _ _) rfl rfl ?_
  exact ⟨rfl, F, l, H, hok.mono (by omega), rfl⟩
 rw [if_neg hh]
 have hh : fHas (xsOf F) k a = false := by simpa using hh
 rw [hh] at hHa
 obtain ⟨m, rfl, hm4⟩ := isM_nat hm
 obtain ⟨k, rfl, hk32⟩ := isC_nat hk
 rw [Int.toNat_natCast, Int.toNat_natCast]
 have gd := gdF hm4 hk32
 obtain ⟨I, hI⟩ : ∃ I, ids (frE p b F F l) = I := ⟨_, rfl⟩
 rw [hI] at H
 have hln0 := fam_len H 2 rfl (i := k * 5 + 1 + m) (by omega)
 have hlng := fam_len H 2 rfl (i := k * 5) (by omega)
 have hNi0 := hok.len (k * 5 + 1 + m) (by omega)
 have hNig := hok.len (k * 5) (by omega)
 have hv0 : ((mget l ((m : Int), (k : Int))).map RowS.v).getD (.slice none 0 0) = .slice (F (k * 5 + 1 + m)).A (F (k * 5 + 1 + m)).n (F (k * 5 + 1 + m)).c := by
  rcases hok.got m k hm4 hk32 with hg | ⟨hg, h2⟩
  ·rw [hg]; rfl
  ·rw [hg, h2]; rfl
 have hxs : xsOf F (k * 5 + 1 + m) = (F (k * 5 + 1 + m)).xs := rfl
 refine k_in (N := 72) Try.func76 rfl rfl rfl ?_
 refine k_sg ?_
 refine s_run rfl rfl (rai rfl) ?_
 refine k_nc ?_
 refine k_seq ?_
 refine k_b ?_
 refine k_sg ?_
 refine s_run rfl rfl (rmi rfl) ?_
 refine s_run rfl rfl (rmi rfl) ?_
 refine s_call rfl (hC _) (ca57 rfl) ?_
 rintro e W1 ⟨rfl, H'⟩
 refine ⟨_, rfl, ?_⟩
 have H := H.same H'; clear H'
 refine s_run rfl rfl (r_notT rfl) ?_
 refine s_run rfl rfl (rab rfl) ?_
 refine k_nc ?_
 refine k_f rfl ?_
 refine k_sg ?_
 refine s_run rfl rfl (rmp rfl) ?_
 refine s_run rfl rfl (rmi rfl) ?_
 refine s_run rfl rfl (rmi rfl) ?_
 refine s_call rfl (hHa (by rw [← hI] at H; exact H.ents)) (ca10 rfl) ?_
 rintro e W1 ⟨rfl, H'⟩
 refine ⟨_, rfl, ?_⟩
 have H := H.same H'; clear H'
 refine s_run rfl rfl (rab rfl) ?_
 refine k_nc ?_
 refine k_f rfl ?_
 refine k_skip ?_
 refine b_norm ?_
 refine c_norm ?_
 refine k_seq ?_
 unfold frE at H
 replace H := H.pull 2 rfl (i := k * 5 + 1 + m) (by omega)
 simp only [List.set_cons_zero, List.set_cons_succ] at H
 unfold rowE at H
 obtain ⟨n, hn⟩ : ∃ n, (F (k * 5 + 1 + m)).n = n := ⟨_, rfl⟩
 obtain ⟨xs, hx⟩ : ∃ xs, (F (k * 5 + 1 + m)).xs = xs := ⟨_, rfl⟩
 unfold fPutN
 rw [hn] at H hln0 hNi0 hv0
 rw [hx] at H hln0 hxs
 rw [hxs]
 have hla : (xs ++ [a]).length = n + 1 := by simp [hln0]
 refine k_rg ?_
 refine s_run rfl rfl (rmi rfl) ?_
 refine s_run rfl rfl (rmi rfl) ?_
 refine s_run rfl rfl (r_bd (bd97_0_1 _ _) rfl) ?_
 refine s_al H rfl inf97 ?_
 intro p9 _ H'; clear H; have H := H'; clear H'
 refine s_sw H 0 rfl rfl rfl rfl rfl rfl rfl sz97 ?_
 clear H; intro _ H; simp only [jA, jB, jC, jD, jE, jF, jG, jH, jI, jJ, jK, Nat.reduceAdd] at H
 refine k_nc ?_
 refine k_seq ?_
 refine k_cut (fun f W => ∃ A1 c1, f 0 = ptrF p ∧ f 1 = .int .i64 m ∧ f 2 = .int .i64 k ∧ f 9 = ptrF p9 ∧ Heap w I [blk p9 [.int .i64 m, .int .i64 k] 97, ownN 1 (.slice A1 (n + 1) c1) (n + 1) ((xs ++ [a]).map (Value.int .i64)) 3, blk p (frC F b) 95, mp kF RowS.v b (mput l ((m : Int), (k : Int)) ⟨A1, n + 1, c1, xs ++ [a]⟩), fam 3 160 (updR F (k * 5 + 1 + m) RowS.nil)] W) ?_ ?_
 ·refine k_trF mixed ?_; have H' := H.drew; clear H; have H := H'; clear H'
  refine tqn 0 rfl rfl rfl (fun _ hS => r_mv (v := .pointer _) rfl) trivial ?_
  refine tqn 1 rfl rfl rfl (fun _ hS => r_nc rfl) trivial ?_
  refine tqn 2 rfl rfl rfl (fun _ hS => r_fa0 rfl fo95_1) trivial ?_
  refine tqn 5 rfl rfl rfl (fun _ hS => r_mv (v := .int _ _) rfl) trivial ?_
  refine t_up3 3 4 6 (by kernel_rfl) ?_ ?_ ?_
  ·refine up_mk rfl ?_
   refine s_run rfl rfl (r_lo H 2 rfl rfl (frC_map F b) ag93) ?_
   refine k_nil ?_
   refine t_on trivial ?_
   refine t_up2 4 6 (by kernel_rfl) ?_ ?_
   ·refine up_mk rfl ?_
    refine s_run rfl rfl (r_la H 0 rfl rfl rfl ag97 sz97) ?_
    refine k_nil ?_
    refine t_on trivial ?_
    refine t_up1 6 (by kernel_rfl) ?_
    refine up_mk rfl ?_
    refine s_bsO (enc := (Value.int .i64)) (zs := [a]) H rfl rfl rfl (by omega) (by kernel_rfl) Try.underlying25 inf3 ?_
    intro q6 _ H'; clear H; have H := H'; clear H'
    refine k_nil ?_
    refine t_on trivial ?_
    refine t_up1 7 (by kernel_rfl) ?_
    refine up_mk rfl ?_
    refine s_me H 4 rfl rfl rfl rfl (gd) (hv0) Try.underlying93 (zv_of inf25) ?_
    intro st33 _ H'; simp only [List.set_cons_zero, List.set_cons_succ, List.take_succ_cons, List.take_zero, List.drop_succ_cons, List.drop_zero, List.cons_append, List.nil_append, List.append_nil, List.length_cons, List.length_nil, Nat.reduceAdd] at H'; clear H; have H := H'; clear H'
    refine k_nil ?_
    refine t_on trivial ?_
    refine tqn 8 rfl rfl rfl (fun _ hS => r_ext (v := .slice _ _ _) rfl rfl) trivial ?_
    refine tqn 10 rfl rfl rfl (fun _ hS => r_ext (v := .int _ _) rfl rfl) trivial ?_
    refine t_up1 9 (by kernel_rfl) ?_
    refine up_mk rfl ?_
    refine s_apB (enc := (Value.int .i64)) (size := 1) H 1 rfl rfl rfl rfl (fun _ => rfl) (by omega) (by omega) Try.underlying25 inf3 rfl ?_
    intro A1 c1 _ H'; simp only [List.set_cons_zero, List.set_cons_succ, List.take_succ_cons, List.take_zero, List.drop_succ_cons, List.drop_zero, List.cons_append, List.nil_append, List.append_nil, List.length_cons, List.length_nil, Nat.reduceAdd] at H'; clear H; have H := H'; clear H'
    refine k_nil ?_
    refine t_on trivial ?_
    refine t_up1 11 (by kernel_rfl) ?_
    refine up_mk rfl ?_
    refine s_es (q := ⟨A1, n + 1, c1, xs ++ [a]⟩) H 3 rfl rfl rfl rfl rfl (rfl) ?_
    clear H; intro _ H; simp only [jA, jB, jC, jD, jE, jF, jG, jH, jI, jJ, jK, Nat.reduceAdd] at H
    refine k_nil ?_
    refine t_on trivial ?_
    refine t_done (by kernel_rfl) ?_
    refine k_met ?_
    exact ⟨A1, c1, rfl, rfl, rfl, rfl, H⟩
   ·refine up_mk rfl ?_
    refine s_bsO (enc := (Value.int .i64)) (zs := [a]) H rfl rfl rfl (by omega) (by kernel_rfl) Try.underlying25 inf3 ?_
    intro q6 _ H'; clear H; have H := H'; clear H'
    refine k_nil ?_
    refine t_on trivial ?_
    refine t_up1 4 (by kernel_rfl) ?_
    refine up_mk rfl ?_
    refine s_run rfl rfl (r_la H 1 rfl rfl rfl ag97 sz97) ?_
    refine k_nil ?_
    refine t_on trivial ?_
    refine t_up1 7 (by kernel_rfl) ?_
    refine up_mk rfl ?_
    refine s_me H 4 rfl rfl rfl rfl (gd) (hv0) Try.underlying93 (zv_of inf25) ?_
    intro st33 _ H'; simp only [List.set_cons_zero, List.set_cons_succ, List.take_succ_cons, List.take_zero, List.drop_succ_cons, List.drop_zero, List.cons_append, List.nil_append, List.append_nil, List.length_cons, List.length_nil, Nat.reduceAdd] at H'; clear H; have H := H'; clear H'
    refine k_nil ?_
    refine t_on trivial ?_
    refine tqn 8 rfl rfl rfl (fun _ hS => r_ext (v := .slice _ _ _) rfl rfl) trivial ?_
    refine tqn 10 rfl rfl rfl (fun _ hS => r_ext (v := .int _ _) rfl rfl) trivial ?_
    refine t_up1 9 (by kernel_rfl) ?_
    refine up_mk rfl ?_
    refine s_apB (enc := (Value.int .i64)) (size := 1) H 1 rfl rfl rfl rfl (fun _ => rfl) (by omega) (by omega) Try.underlying25 inf3 rfl ?_
    intro A1 c1 _ H'; simp only [List.set_cons_zero, List.set_cons_succ, List.take_succ_cons, List.take_zero, List.drop_succ_cons, List.drop_zero, List.cons_append, List.nil_append, List.append_nil, List.length_cons, List.length_nil, Nat.reduceAdd] at H'; clear H; have H := H'; clear H'
    refine k_nil ?_
    refine t_on trivial ?_
    refine t_up1 11 (by kernel_rfl) ?_
    refine up_mk rfl ?_
    refine s_es (q := ⟨A1, n + 1, c1, xs ++ [a]⟩) H 3 rfl rfl rfl rfl rfl (rfl) ?_
    clear H; intro _ H; simp only [jA, jB, jC, jD, jE, jF, jG, jH, jI, jJ, jK, Nat.reduceAdd] at H
    refine k_nil ?_
    refine t_on trivial ?_
    refine t_done (by kernel_rfl) ?_
    refine k_met ?_
    exact ⟨A1, c1, rfl, rfl, rfl, rfl, H⟩
  ·refine up_mk rfl ?_
   refine s_run rfl rfl (r_la H 0 rfl rfl rfl ag97 sz97) ?_
   refine k_nil ?_
   refine t_on trivial ?_
   refine t_up2 3 6 (by kernel_rfl) ?_ ?_
   ·refine up_mk rfl ?_
    refine s_run rfl rfl (r_lo H 2 rfl rfl (frC_map F b) ag93) ?_
    refine k_nil ?_
    refine t_on trivial ?_
    refine t_up1 6 (by kernel_rfl) ?_
    refine up_mk rfl ?_
    refine s_bsO (enc := (Value.int .i64)) (zs := [a]) H rfl rfl rfl (by omega) (by kernel_rfl) Try.underlying25 inf3 ?_
    intro q6 _ H'; clear H; have H := H'; clear H'
    refine k_nil ?_
    refine t_on trivial ?_
    refine t_up1 7 (by kernel_rfl) ?_
    refine up_mk rfl ?_
    refine s_me H 4 rfl rfl rfl rfl (gd) (hv0) Try.underlying93 (zv_of inf25) ?_
    intro st33 _ H'; simp only [List.set_cons_zero, List.set_cons_succ, List.take_succ_cons, List.take_zero, List.drop_succ_cons, List.drop_zero, List.cons_append, List.nil_append, List.append_nil, List.length_cons, List.length_nil, Nat.reduceAdd] at H'; clear H; have H := H'; clear H'
    refine k_nil ?_
    refine t_on trivial ?_
    refine tqn 8 rfl rfl rfl (fun _ hS => r_ext (v := .slice _ _ _) rfl rfl) trivial ?_
    refine tqn 10 rfl rfl rfl (fun _ hS => r_ext (v := .int _ _) rfl rfl) trivial ?_
    refine t_up1 9 (by kernel_rfl) ?_
    refine up_mk rfl ?_
    refine s_apB (enc := (Value.int .i64)) (size := 1) H 1 rfl rfl rfl rfl (fun _ => rfl) (by omega) (by omega) Try.underlying25 inf3 rfl ?_
    intro A1 c1 _ H'; simp only [List.set_cons_zero, List.set_cons_succ, List.take_succ_cons, List.take_zero, List.drop_succ_cons, List.drop_zero, List.cons_append, List.nil_append, List.append_nil, List.length_cons, List.length_nil, Nat.reduceAdd] at H'; clear H; have H := H'; clear H'
    refine k_nil ?_
    refine t_on trivial ?_
    refine t_up1 11 (by kernel_rfl) ?_
    refine up_mk rfl ?_
    refine s_es (q := ⟨A1, n + 1, c1, xs ++ [a]⟩) H 3 rfl rfl rfl rfl rfl (rfl) ?_
    clear H; intro _ H; simp only [jA, jB, jC, jD, jE, jF, jG, jH, jI, jJ, jK, Nat.reduceAdd] at H
    refine k_nil ?_
    refine t_on trivial ?_
    refine t_done (by kernel_rfl) ?_
    refine k_met ?_
    exact ⟨A1, c1, rfl, rfl, rfl, rfl, H⟩
   ·refine up_mk rfl ?_
    refine s_bsO (enc := (Value.int .i64)) (zs := [a]) H rfl rfl rfl (by omega) (by kernel_rfl) Try.underlying25 inf3 ?_
    intro q6 _ H'; clear H; have H := H'; clear H'
    refine k_nil ?_
    refine t_on trivial ?_
    refine t_up1 3 (by kernel_rfl) ?_
    refine up_mk rfl ?_
    refine s_run rfl rfl (r_lo H 3 rfl rfl (frC_map F b) ag93) ?_
    refine k_nil ?_
    refine t_on trivial ?_
    refine t_up1 7 (by kernel_rfl) ?_
    refine up_mk rfl ?_
    refine s_me H 4 rfl rfl rfl rfl (gd) (hv0) Try.underlying93 (zv_of inf25) ?_
    intro st33 _ H'; simp only [List.set_cons_zero, List.set_cons_succ, List.take_succ_cons, List.take_zero, List.drop_succ_cons, List.drop_zero, List.cons_append, List.nil_append, List.append_nil, List.length_cons, List.length_nil, Nat.reduceAdd] at H'; clear H; have H := H'; clear H'
    refine k_nil ?_
    refine t_on trivial ?_
    refine tqn 8 rfl rfl rfl (fun _ hS => r_ext (v := .slice _ _ _) rfl rfl) trivial ?_
    refine tqn 10 rfl rfl rfl (fun _ hS => r_ext (v := .int _ _) rfl rfl) trivial ?_
    refine t_up1 9 (by kernel_rfl) ?_
    refine up_mk rfl ?_
    refine s_apB (enc := (Value.int .i64)) (size := 1) H 1 rfl rfl rfl rfl (fun _ => rfl) (by omega) (by omega) Try.underlying25 inf3 rfl ?_
    intro A1 c1 _ H'; simp only [List.set_cons_zero, List.set_cons_succ, List.take_succ_cons, List.take_zero, List.drop_succ_cons, List.drop_zero, List.cons_append, List.nil_append, List.append_nil, List.length_cons, List.length_nil, Nat.reduceAdd] at H'; clear H; have H := H'; clear H'
    refine k_nil ?_
    refine t_on trivial ?_
    refine t_up1 11 (by kernel_rfl) ?_
    refine up_mk rfl ?_
    refine s_es (q := ⟨A1, n + 1, c1, xs ++ [a]⟩) H 3 rfl rfl rfl rfl rfl (rfl) ?_
    clear H; intro _ H; simp only [jA, jB, jC, jD, jE, jF, jG, jH, jI, jJ, jK, Nat.reduceAdd] at H
    refine k_nil ?_
    refine t_on trivial ?_
    refine t_done (by kernel_rfl) ?_
    refine k_met ?_
    exact ⟨A1, c1, rfl, rfl, rfl, rfl, H⟩
  ·refine up_mk rfl ?_
   refine s_bsO (enc := (Value.int .i64)) (zs := [a]) H rfl rfl rfl (by omega) (by kernel_rfl) Try.underlying25 inf3 ?_
   intro q6 _ H'; clear H; have H := H'; clear H'
   refine k_nil ?_
   refine t_on trivial ?_
   refine t_up2 3 4 (by kernel_rfl) ?_ ?_
   ·refine up_mk rfl ?_
    refine s_run rfl rfl (r_lo H 3 rfl rfl (frC_map F b) ag93) ?_
    refine k_nil ?_
    refine t_on trivial ?_
    refine t_up1 4 (by kernel_rfl) ?_
    refine up_mk rfl ?_
    refine s_run rfl rfl (r_la H 1 rfl rfl rfl ag97 sz97) ?_
    refine k_nil ?_
    refine t_on trivial ?_
    refine t_up1 7 (by kernel_rfl) ?_
    refine up_mk rfl ?_
    refine s_me H 4 rfl rfl rfl rfl (gd) (hv0) Try.underlying93 (zv_of inf25) ?_
    intro st33 _ H'; simp only [List.set_cons_zero, List.set_cons_succ, List.take_succ_cons, List.take_zero, List.drop_succ_cons, List.drop_zero, List.cons_append, List.nil_append, List.append_nil, List.length_cons, List.length_nil, Nat.reduceAdd] at H'; clear H; have H := H'; clear H'
    refine k_nil ?_
    refine t_on trivial ?_
    refine tqn 8 rfl rfl rfl (fun _ hS => r_ext (v := .slice _ _ _) rfl rfl) trivial ?_
    refine tqn 10 rfl rfl rfl (fun _ hS => r_ext (v := .int _ _) rfl rfl) trivial ?_
    refine t_up1 9 (by kernel_rfl) ?_
    refine up_mk rfl ?_
    refine s_apB (enc := (Value.int .i64)) (size := 1) H 1 rfl rfl rfl rfl (fun _ => rfl) (by omega) (by omega) Try.underlying25 inf3 rfl ?_
    intro A1 c1 _ H'; simp only [List.set_cons_zero, List.set_cons_succ, List.take_succ_cons, List.take_zero, List.drop_succ_cons, List.drop_zero, List.cons_append, List.nil_append, List.append_nil, List.length_cons, List.length_nil, Nat.reduceAdd] at H'; clear H; have H := H'; clear H'
    refine k_nil ?_
    refine t_on trivial ?_
    refine t_up1 11 (by kernel_rfl) ?_
    refine up_mk rfl ?_
    refine s_es (q := ⟨A1, n + 1, c1, xs ++ [a]⟩) H 3 rfl rfl rfl rfl rfl (rfl) ?_
    clear H; intro _ H; simp only [jA, jB, jC, jD, jE, jF, jG, jH, jI, jJ, jK, Nat.reduceAdd] at H
    refine k_nil ?_
    refine t_on trivial ?_
    refine t_done (by kernel_rfl) ?_
    refine k_met ?_
    exact ⟨A1, c1, rfl, rfl, rfl, rfl, H⟩
   ·refine up_mk rfl ?_
    refine s_run rfl rfl (r_la H 1 rfl rfl rfl ag97 sz97) ?_
    refine k_nil ?_
    refine t_on trivial ?_
    refine t_up1 3 (by kernel_rfl) ?_
    refine up_mk rfl ?_
    refine s_run rfl rfl (r_lo H 3 rfl rfl (frC_map F b) ag93) ?_
    refine k_nil ?_
    refine t_on trivial ?_
    refine t_up1 7 (by kernel_rfl) ?_
    refine up_mk rfl ?_
    refine s_me H 4 rfl rfl rfl rfl (gd) (hv0) Try.underlying93 (zv_of inf25) ?_
    intro st33 _ H'; simp only [List.set_cons_zero, List.set_cons_succ, List.take_succ_cons, List.take_zero, List.drop_succ_cons, List.drop_zero, List.cons_append, List.nil_append, List.append_nil, List.length_cons, List.length_nil, Nat.reduceAdd] at H'; clear H; have H := H'; clear H'
    refine k_nil ?_
    refine t_on trivial ?_
    refine tqn 8 rfl rfl rfl (fun _ hS => r_ext (v := .slice _ _ _) rfl rfl) trivial ?_
    refine tqn 10 rfl rfl rfl (fun _ hS => r_ext (v := .int _ _) rfl rfl) trivial ?_
    refine t_up1 9 (by kernel_rfl) ?_
    refine up_mk rfl ?_
    refine s_apB (enc := (Value.int .i64)) (size := 1) H 1 rfl rfl rfl rfl (fun _ => rfl) (by omega) (by omega) Try.underlying25 inf3 rfl ?_
    intro A1 c1 _ H'; simp only [List.set_cons_zero, List.set_cons_succ, List.take_succ_cons, List.take_zero, List.drop_succ_cons, List.drop_zero, List.cons_append, List.nil_append, List.append_nil, List.length_cons, List.length_nil, Nat.reduceAdd] at H'; clear H; have H := H'; clear H'
    refine k_nil ?_
    refine t_on trivial ?_
    refine t_up1 11 (by kernel_rfl) ?_
    refine up_mk rfl ?_
    refine s_es (q := ⟨A1, n + 1, c1, xs ++ [a]⟩) H 3 rfl rfl rfl rfl rfl (rfl) ?_
    clear H; intro _ H; simp only [jA, jB, jC, jD, jE, jF, jG, jH, jI, jJ, jK, Nat.reduceAdd] at H
    refine k_nil ?_
    refine t_on trivial ?_
    refine t_done (by kernel_rfl) ?_
    refine k_met ?_
    exact ⟨A1, c1, rfl, rfl, rfl, rfl, H⟩
 ·clear H
  rintro f W ⟨A1, c1, f0, f1, f2, f9, H⟩
  obtain ⟨f, rfl⟩ := live4 f0 f1 f2 f9
  clear f0 f1 f2 f9
  have hg1 := mget_putS l ((m : Int), (k : Int)) (⟨A1, n + 1, c1, xs ++ [a]⟩ : RowS)
  have hv1 : ((mget (mput l ((m : Int), (k : Int)) (⟨A1, n + 1, c1, xs ++ [a]⟩ : RowS)) ((m : Int), (k : Int))).map RowS.v).getD (.slice none 0 0) = .slice A1 (n + 1) c1 := by rw [hg1]; rfl
  have hc1 := own_cap H 1 rfl
  rw [hln0]
  by_cases h8 : n + 1 > 8
  ·rw [if_pos h8]
   obtain ⟨hf, hhf⟩ : ∃ hf, (n + 1) / 2 = hf := ⟨_, rfl⟩
   rw [hhf]
   have hok1 := ((hok.mono (show N ≤ N + N + 9 by omega)).own hm4 hk32 (r := ⟨A1, n + 1, c1, xs ++ [a]⟩) (by show n + 1 ≤ _; omega))
   replace H := H.pull 4 rfl (i := k * 5) (by omega)
   simp only [List.set_cons_zero, List.set_cons_succ] at H
   rw [updR_off _ _ (show k * 5 ≠ k * 5 + 1 + m by omega)] at H
   unfold rowE at H
   have hhd : ((xs ++ [a]).take hf).length = hf := by rw [List.length_take, hla]; omega
   have hhd2 : ((xs ++ [a]).drop hf).length = n + 1 - hf := by rw [List.length_drop, hla]
   have hquo : (((n + 1 : Nat) : Int)) / 2 = (hf : Int) := by omega
   refine c_norm ?_
   refine k_seq ?_
   refine k_seq ?_
   refine k_q mixed (by kernel_rfl) H ?_
   refine q_run rfl rfl (fun _ H => r_mv (v := .pointer _) rfl) ?_
   refine q_run rfl rfl (fun _ H => r_nc rfl) ?_
   refine q_run rfl rfl (fun _ H => r_fa0 rfl fo95_1) ?_
   refine q_run rfl rfl (fun _ H => r_lo H 3 rfl rfl (frC_map _ b) ag93) ?_
   refine q_run rfl rfl (fun _ H => r_la H 1 rfl rfl rfl ag97 sz97) ?_
   refine q_run rfl rfl (fun _ H => r_lkV H 4 rfl rfl rfl (gd) (hv1) Try.underlying93 (zv_of inf25)) ?_
   refine q_run rfl rfl (fun _ H => r_as (v := .slice _ _ _) rfl) ?_
   refine q_nil ?_
   intro _ H'; clear H; have H := H'; clear H'
   refine c_norm ?_
   refine k_sg ?_
   refine s_run rfl rfl (rms rfl) ?_
   refine s_run rfl rfl (r_len rfl Try.underlying25) ?_
   refine s_run rfl rfl (r_gtrT rfl rfl (by omega)) ?_
   refine k_nc ?_
   refine k_t rfl ?_
   refine k_sg ?_
   refine s_run rfl rfl (rms rfl) ?_
   refine s_run rfl rfl (r_len rfl Try.underlying25) ?_
   refine s_run rfl rfl (r_quo rfl rfl (by omega) (wI (by omega))) ?_
   refine s_run rfl rfl (rai rfl) ?_
   refine k_nc ?_
   refine k_seq ?_
   refine k_cut (fun f W => ∃ A2 c2, f 0 = ptrF p ∧ f 2 = .int .i64 k ∧ f 9 = ptrF p9 ∧ f 10 = .slice A1 (n + 1) c1 ∧ f 11 = .int .i64 hf ∧ Heap w I [ownN 1 (.slice A2 ((F (k * 5)).n + hf) c2) ((F (k * 5)).n + hf) (((F (k * 5)).xs ++ (xs ++ [a]).take hf).map (Value.int .i64)) 3, blk p9 [.int .i64 m, .int .i64 k] 97, ownN 1 (.slice A1 (n + 1) c1) (n + 1) ((xs ++ [a]).map (Value.int .i64)) 3, blk p (frC (updR F (k * 5) ⟨A2, (F (k * 5)).n + hf, c2, (F (k * 5)).xs ++ (xs ++ [a]).take hf⟩) b) 95, mp kF RowS.v b (mput l ((m : Int), (k : Int)) ⟨A1, n + 1, c1, xs ++ [a]⟩), fam 3 160 (updR (updR F (k * 5 + 1 + m) RowS.nil) (k * 5) RowS.nil)] W) ?_ ?_
   ·refine k_trF mixed ?_; have H' := H.drew; clear H; have H := H'; clear H'
    refine tqn 0 rfl rfl rfl (fun _ hS => r_mv (v := .pointer _) rfl) trivial ?_
    refine tqn 1 rfl rfl rfl (fun _ hS => r_mv (v := .int _ _) rfl) trivial ?_
    refine tqn 2 rfl rfl rfl (fun _ hS => r_mv (v := .pointer _) rfl) trivial ?_
    refine tqn 3 rfl rfl rfl (fun _ hS => r_mv (v := .int _ _) rfl) trivial ?_
    refine tqn 4 rfl rfl rfl (fun _ hS => r_nc rfl) trivial ?_
    refine tqn 5 rfl rfl rfl (fun _ hS => r_fa0 rfl fo95_0) trivial ?_
    refine tqn 6 rfl rfl rfl (fun _ hS => r_ia0 (i := k) rfl rfl (by omega) (by omega) Try.underlying92 sz25) trivial ?_
    refine tqn 8 rfl rfl rfl (fun _ hS => r_mv (v := .slice _ _ _) rfl) trivial ?_
    refine tqn 9 rfl rfl rfl (fun _ hS => r_mv (v := .int _ _) rfl) trivial ?_
    refine tqn 10 rfl rfl rfl (fun _ hS => r_shiA (j := hf) rfl rfl (by omega) (by omega) Try.underlying25 sz3) trivial ?_
    refine tqn 12 rfl rfl rfl (fun _ hS => r_nc rfl) trivial ?_
    refine tqn 13 rfl rfl rfl (fun _ hS => r_fa0 rfl fo95_0) trivial ?_
    refine t_up1 7 (by kernel_rfl) ?_
    refine up_mk rfl ?_
    refine s_run rfl rfl (r_lo H 3 rfl rfl (frC_get hk32) ag25) ?_
    refine k_nil ?_
    refine t_on trivial ?_
    refine t_up1 11 (by kernel_rfl) ?_
    refine up_mk rfl ?_
    refine s_apW (enc := (Value.int .i64)) H 0 rfl rfl rfl rfl (((own_seesC H 2 rfl).head hf)) (hhd) (fun _ => rfl) (by omega) Try.underlying25 inf3 rfl ?_
    intro A2 c2 _ H'; simp only [List.set_cons_zero, List.set_cons_succ, List.take_succ_cons, List.take_zero, List.drop_succ_cons, List.drop_zero, List.cons_append, List.nil_append, List.append_nil, List.length_cons, List.length_nil, Nat.reduceAdd] at H'; clear H; have H := H'; clear H'
    refine k_nil ?_
    refine t_on trivial ?_
    refine tqn 14 rfl rfl rfl (fun _ hS => r_ia0 (i := k) rfl rfl (by omega) (by omega) Try.underlying92 sz25) trivial ?_
    refine t_up1 15 (by kernel_rfl) ?_
    refine up_mk rfl ?_
    refine s_stC H 3 rfl rfl rfl rfl (frC_get hk32) (frC_set (r := ⟨A2, (F (k * 5)).n + hf, c2, (F (k * 5)).xs ++ (xs ++ [a]).take hf⟩) hk32) rfl sz25 ?_
    clear H; intro _ H; simp only [jA, jB, jC, jD, jE, jF, jG, jH, jI, jJ, jK, Nat.reduceAdd] at H
    refine k_nil ?_
    refine t_on trivial ?_
    refine t_done (by kernel_rfl) ?_
    refine k_met ?_
    exact ⟨A2, c2, rfl, rfl, rfl, rfl, by show Value.int _ _ = _; rw [← hquo], H⟩
   ·clear H
    rintro f W ⟨A2, c2, f0, f2, f9, f10, f11, H⟩
    obtain ⟨f, rfl⟩ := live5 f0 f2 f9 f10 f11
    clear f0 f2 f9 f10 f11
    have hG : ∀ {A3 c3} {W' : World}, Heap w I [ownN 1 (.slice A3 (n + 1 - hf) c3) (n + 1 - hf) (((xs ++ [a]).drop hf).map (Value.int .i64)) 3, ownN 1 (.slice A2 ((F (k * 5)).n + hf) c2) ((F (k * 5)).n + hf) (((F (k * 5)).xs ++ (xs ++ [a]).take hf).map (Value.int .i64)) 3, blk p (frC (updR F (k * 5) ⟨A2, (F (k * 5)).n + hf, c2, (F (k * 5)).xs ++ (xs ++ [a]).take hf⟩) b) 95, mp kF RowS.v b (mput (mput l ((m : Int), (k : Int)) ⟨A1, n + 1, c1, xs ++ [a]⟩) ((m : Int), (k : Int)) ⟨A3, n + 1 - hf, c3, (xs ++ [a]).drop hf⟩), fam 3 160 (updR (updR F (k * 5 + 1 + m) RowS.nil) (k * 5) RowS.nil)] W' → FrTo p b F l (N + N + 9) (updS (updS (xsOf F) (k * 5) (xsOf F (k * 5) ++ (xs ++ [a]).take hf)) (k * 5 + 1 + m) ((xs ++ [a]).drop hf)) w W' := fun {A3 c3 W'} H => by
     have h2 := Heap.push (r := ⟨A3, n + 1 - hf, c3, (xs ++ [a]).drop hf⟩) H 3 rfl (i := k * 5 + 1 + m) (by omega) (by rw [updR_off _ _ (by omega), updR_at])
     simp only [List.set_cons_zero, List.set_cons_succ] at h2
     have h3 := Heap.push (r := ⟨A2, (F (k * 5)).n + hf, c2, (F (k * 5)).xs ++ (xs ++ [a]).take hf⟩) h2 2 rfl (i := k * 5) (by omega) (by rw [updR_off _ _ (by omega), updR_at])
     simp only [List.set_cons_zero, List.set_cons_succ] at h3
     have eF : updR (updR (updR (updR F (k * 5 + 1 + m) RowS.nil) (k * 5) RowS.nil) (k * 5 + 1 + m) ⟨A3, n + 1 - hf, c3, (xs ++ [a]).drop hf⟩) (k * 5) ⟨A2, (F (k * 5)).n + hf, c2, (F (k * 5)).xs ++ (xs ++ [a]).take hf⟩ = updR (updR F (k * 5) ⟨A2, (F (k * 5)).n + hf, c2, (F (k * 5)).xs ++ (xs ++ [a]).take hf⟩) (k * 5 + 1 + m) ⟨A3, n + 1 - hf, c3, (xs ++ [a]).drop hf⟩ := by
      funext i
      unfold updR
      by_cases e1 : i = k * 5
      ·subst e1
       rw [if_pos rfl, if_neg (by omega), if_pos rfl]
      ·rw [if_neg e1]
       by_cases e2 : i = k * 5 + 1 + m
       ·rw [if_pos e2, if_pos e2]
       ·rw [if_neg e2, if_neg e1, if_neg e2, if_neg e2, if_neg e1]
     rw [eF] at h3
     have hk1 := (((hok.mono (show N ≤ N + N + 9 by omega)).glob (k := k) (r := ⟨A2, (F (k * 5)).n + hf, c2, (F (k * 5)).xs ++ (xs ++ [a]).take hf⟩) (by show (F (k * 5)).n + hf ≤ _; omega)).own hm4 hk32 (r := ⟨A1, n + 1, c1, xs ++ [a]⟩) (by show n + 1 ≤ _; omega)).own hm4 hk32 (r := ⟨A3, n + 1 - hf, c3, (xs ++ [a]).drop hf⟩) (by show n + 1 - hf ≤ _; omega)
     rw [updR_upd] at hk1
     refine ⟨_, _, ?_, hk1, by rw [xsOf_upd, xsOf_upd]; rfl⟩
     rw [hI]
     unfold frE
     rw [frC_own hm4]
     exact h3
    refine c_norm ?_
    refine k_trF mixed ?_; have H' := H.drew; clear H; have H := H'; clear H'
    refine tqh 0 rfl rfl rfl (fun _ hS => r_mv (v := .pointer _) rfl) trivial ?_
    refine tqh 1 rfl rfl rfl (fun _ hS => r_nc rfl) trivial ?_
    refine tqh 2 rfl rfl rfl (fun _ hS => r_fa0 rfl fo95_1) trivial ?_
    refine tqh 5 rfl rfl rfl (fun _ hS => r_mv (v := .slice _ _ _) rfl) trivial ?_
    refine tqh 6 rfl rfl rfl (fun _ hS => r_mv (v := .int _ _) rfl) trivial ?_
    refine tqh 7 rfl rfl rfl (fun _ hS => r_sloA (i := hf) rfl rfl (by omega) (by omega) Try.underlying25 sz3) trivial ?_
    refine t_up3 3 4 8 (by kernel_rfl) ?_ ?_ ?_
    ·refine up_mk rfl ?_
     refine s_run rfl rfl (r_lo H 3 rfl rfl (frC_map _ b) ag93) ?_
     refine k_nil ?_
     refine t_on trivial ?_
     refine t_up2 4 8 (by kernel_rfl) ?_ ?_
     ·refine up_mk rfl ?_
      refine s_run rfl rfl (r_la H 1 rfl rfl rfl ag97 sz97) ?_
      refine k_nil ?_
      refine t_on trivial ?_
      refine t_up1 8 (by kernel_rfl) ?_
      refine up_mk rfl ?_
      refine s_call rfl (sClone _ _ _ ((xs ++ [a]).drop hf) _ ((own_seesC H 2 rfl).slo hf (by omega)) hhd2 (by omega)) (ca54 rfl) ?_
      rintro e W1 ⟨A3, c3, rfl, H'⟩
      refine ⟨_, rfl, ?_⟩
      have H := H.more H'; clear H'; simp only [List.cons_append, List.nil_append] at H
      refine k_nil ?_
      refine t_on trivial ?_
      refine t_up1 9 (by kernel_rfl) ?_
      refine up_mk rfl ?_
      refine s_mu (q := ⟨A3, n + 1 - hf, c3, (xs ++ [a]).drop hf⟩) H 5 rfl rfl rfl rfl rfl (gd) Try.underlying93 ?_
      clear H; intro _ H; simp only [jA, jB, jC, jD, jE, jF, jG, jH, jI, jJ, jK, Nat.reduceAdd] at H
      refine k_nil ?_
      refine t_on trivial ?_
      refine t_done (by kernel_rfl) ?_
      refine c_norm ?_
      refine k_sg ?_
      refine s_run rfl rfl (rai rfl) ?_
      refine k_nc ?_
      refine k_ret ?_
      refine fin1r (v := .int _ _) rfl rfl ?_
      exact ⟨rfl, hG (H.subl [0, 1, 4, 5, 6] rfl rfl)⟩
     ·refine up_mk rfl ?_
      refine s_call rfl (sClone _ _ _ ((xs ++ [a]).drop hf) _ ((own_seesC H 2 rfl).slo hf (by omega)) hhd2 (by omega)) (ca54 rfl) ?_
      rintro e W1 ⟨A3, c3, rfl, H'⟩
      refine ⟨_, rfl, ?_⟩
      have H := H.more H'; clear H'; simp only [List.cons_append, List.nil_append] at H
      refine k_nil ?_
      refine t_on trivial ?_
      refine t_up1 4 (by kernel_rfl) ?_
      refine up_mk rfl ?_
      refine s_run rfl rfl (r_la H 2 rfl rfl rfl ag97 sz97) ?_
      refine k_nil ?_
      refine t_on trivial ?_
      refine t_up1 9 (by kernel_rfl) ?_
      refine up_mk rfl ?_
      refine s_mu (q := ⟨A3, n + 1 - hf, c3, (xs ++ [a]).drop hf⟩) H 5 rfl rfl rfl rfl rfl (gd) Try.underlying93 ?_
      clear H; intro _ H; simp only [jA, jB, jC, jD, jE, jF, jG, jH, jI, jJ, jK, Nat.reduceAdd] at H
      refine k_nil ?_
      refine t_on trivial ?_
      refine t_done (by kernel_rfl) ?_
      refine c_norm ?_
      refine k_sg ?_
      refine s_run rfl rfl (rai rfl) ?_
      refine k_nc ?_
      refine k_ret ?_
      refine fin1r (v := .int _ _) rfl rfl ?_
      exact ⟨rfl, hG (H.subl [0, 1, 4, 5, 6] rfl rfl)⟩
    ·refine up_mk rfl ?_
     refine s_run rfl rfl (r_la H 1 rfl rfl rfl ag97 sz97) ?_
     refine k_nil ?_
     refine t_on trivial ?_
     refine t_up2 3 8 (by kernel_rfl) ?_ ?_
     ·refine up_mk rfl ?_
      refine s_run rfl rfl (r_lo H 3 rfl rfl (frC_map _ b) ag93) ?_
      refine k_nil ?_
      refine t_on trivial ?_
      refine t_up1 8 (by kernel_rfl) ?_
      refine up_mk rfl ?_
      refine s_call rfl (sClone _ _ _ ((xs ++ [a]).drop hf) _ ((own_seesC H 2 rfl).slo hf (by omega)) hhd2 (by omega)) (ca54 rfl) ?_
      rintro e W1 ⟨A3, c3, rfl, H'⟩
      refine ⟨_, rfl, ?_⟩
      have H := H.more H'; clear H'; simp only [List.cons_append, List.nil_append] at H
      refine k_nil ?_
      refine t_on trivial ?_
      refine t_up1 9 (by kernel_rfl) ?_
      refine up_mk rfl ?_
      refine s_mu (q := ⟨A3, n + 1 - hf, c3, (xs ++ [a]).drop hf⟩) H 5 rfl rfl rfl rfl rfl (gd) Try.underlying93 ?_
      clear H; intro _ H; simp only [jA, jB, jC, jD, jE, jF, jG, jH, jI, jJ, jK, Nat.reduceAdd] at H
      refine k_nil ?_
      refine t_on trivial ?_
      refine t_done (by kernel_rfl) ?_
      refine c_norm ?_
      refine k_sg ?_
      refine s_run rfl rfl (rai rfl) ?_
      refine k_nc ?_
      refine k_ret ?_
      refine fin1r (v := .int _ _) rfl rfl ?_
      exact ⟨rfl, hG (H.subl [0, 1, 4, 5, 6] rfl rfl)⟩
     ·refine up_mk rfl ?_
      refine s_call rfl (sClone _ _ _ ((xs ++ [a]).drop hf) _ ((own_seesC H 2 rfl).slo hf (by omega)) hhd2 (by omega)) (ca54 rfl) ?_
      rintro e W1 ⟨A3, c3, rfl, H'⟩
      refine ⟨_, rfl, ?_⟩
      have H := H.more H'; clear H'; simp only [List.cons_append, List.nil_append] at H
      refine k_nil ?_
      refine t_on trivial ?_
      refine t_up1 3 (by kernel_rfl) ?_
      refine up_mk rfl ?_
      refine s_run rfl rfl (r_lo H 4 rfl rfl (frC_map _ b) ag93) ?_
      refine k_nil ?_
      refine t_on trivial ?_
      refine t_up1 9 (by kernel_rfl) ?_
      refine up_mk rfl ?_
      refine s_mu (q := ⟨A3, n + 1 - hf, c3, (xs ++ [a]).drop hf⟩) H 5 rfl rfl rfl rfl rfl (gd) Try.underlying93 ?_
      clear H; intro _ H; simp only [jA, jB, jC, jD, jE, jF, jG, jH, jI, jJ, jK, Nat.reduceAdd] at H
      refine k_nil ?_
      refine t_on trivial ?_
      refine t_done (by kernel_rfl) ?_
      refine c_norm ?_
      refine k_sg ?_
      refine s_run rfl rfl (rai rfl) ?_
      refine k_nc ?_
      refine k_ret ?_
      refine fin1r (v := .int _ _) rfl rfl ?_
      exact ⟨rfl, hG (H.subl [0, 1, 4, 5, 6] rfl rfl)⟩
    ·refine up_mk rfl ?_
     refine s_call rfl (sClone _ _ _ ((xs ++ [a]).drop hf) _ ((own_seesC H 2 rfl).slo hf (by omega)) hhd2 (by omega)) (ca54 rfl) ?_
     rintro e W1 ⟨A3, c3, rfl, H'⟩
     refine ⟨_, rfl, ?_⟩
     have H := H.more H'; clear H'; simp only [List.cons_append, List.nil_append] at H
     refine k_nil ?_
     refine t_on trivial ?_
     refine t_up2 3 4 (by kernel_rfl) ?_ ?_
     ·refine up_mk rfl ?_
      refine s_run rfl rfl (r_lo H 4 rfl rfl (frC_map _ b) ag93) ?_
      refine k_nil ?_
      refine t_on trivial ?_
      refine t_up1 4 (by kernel_rfl) ?_
      refine up_mk rfl ?_
      refine s_run rfl rfl (r_la H 2 rfl rfl rfl ag97 sz97) ?_
      refine k_nil ?_
      refine t_on trivial ?_
      refine t_up1 9 (by kernel_rfl) ?_
      refine up_mk rfl ?_
      refine s_mu (q := ⟨A3, n + 1 - hf, c3, (xs ++ [a]).drop hf⟩) H 5 rfl rfl rfl rfl rfl (gd) Try.underlying93 ?_
      clear H; intro _ H; simp only [jA, jB, jC, jD, jE, jF, jG, jH, jI, jJ, jK, Nat.reduceAdd] at H
      refine k_nil ?_
      refine t_on trivial ?_
      refine t_done (by kernel_rfl) ?_
      refine c_norm ?_
      refine k_sg ?_
      refine s_run rfl rfl (rai rfl) ?_
      refine k_nc ?_
      refine k_ret ?_
      refine fin1r (v := .int _ _) rfl rfl ?_
      exact ⟨rfl, hG (H.subl [0, 1, 4, 5, 6] rfl rfl)⟩
     ·refine up_mk rfl ?_
      refine s_run rfl rfl (r_la H 2 rfl rfl rfl ag97 sz97) ?_
      refine k_nil ?_
      refine t_on trivial ?_
      refine t_up1 3 (by kernel_rfl) ?_
      refine up_mk rfl ?_
      refine s_run rfl rfl (r_lo H 4 rfl rfl (frC_map _ b) ag93) ?_
      refine k_nil ?_
      refine t_on trivial ?_
      refine t_up1 9 (by kernel_rfl) ?_
      refine up_mk rfl ?_
      refine s_mu (q := ⟨A3, n + 1 - hf, c3, (xs ++ [a]).drop hf⟩) H 5 rfl rfl rfl rfl rfl (gd) Try.underlying93 ?_
      clear H; intro _ H; simp only [jA, jB, jC, jD, jE, jF, jG, jH, jI, jJ, jK, Nat.reduceAdd] at H
      refine k_nil ?_
      refine t_on trivial ?_
      refine t_done (by kernel_rfl) ?_
      refine c_norm ?_
      refine k_sg ?_
      refine s_run rfl rfl (rai rfl) ?_
      refine k_nc ?_
      refine k_ret ?_
      refine fin1r (v := .int _ _) rfl rfl ?_
      exact ⟨rfl, hG (H.subl [0, 1, 4, 5, 6] rfl rfl)⟩
  ·rw [if_neg h8]
   have hok1 := (hok.mono (show N ≤ N + N + 9 by omega)).own hm4 hk32 (r := ⟨A1, n + 1, c1, xs ++ [a]⟩) (by show n + 1 ≤ _; omega)
   refine c_norm ?_
   refine k_seq ?_
   refine k_seq ?_
   refine k_q mixed (by kernel_rfl) H ?_
   refine q_run rfl rfl (fun _ H => r_mv (v := .pointer _) rfl) ?_
   refine q_run rfl rfl (fun _ H => r_nc rfl) ?_
   refine q_run rfl rfl (fun _ H => r_fa0 rfl fo95_1) ?_
   refine q_run rfl rfl (fun _ H => r_lo H 2 rfl rfl (frC_map _ b) ag93) ?_
   refine q_run rfl rfl (fun _ H => r_la H 0 rfl rfl rfl ag97 sz97) ?_
   refine q_run rfl rfl (fun _ H => r_lkV H 3 rfl rfl rfl (gd) (hv1) Try.underlying93 (zv_of inf25)) ?_
   refine q_run rfl rfl (fun _ H => r_as (v := .slice _ _ _) rfl) ?_
   refine q_nil ?_
   intro _ H'; clear H; have H := H'; clear H'
   refine c_norm ?_
   refine k_sg ?_
   refine s_run rfl rfl (rms rfl) ?_
   refine s_run rfl rfl (r_len rfl Try.underlying25) ?_
   refine s_run rfl rfl (r_gtrF rfl rfl (by omega)) ?_
   refine k_nc ?_
   refine k_f rfl ?_
   refine k_skip ?_
   refine c_norm ?_
   refine k_sg ?_
   refine s_run rfl rfl (rai rfl) ?_
   refine k_nc ?_
   refine k_ret ?_
   refine fin1r (v := .int _ _) rfl rfl ?_
   replace H := H.drop
   have h2 := Heap.push (r := ⟨A1, n + 1, c1, xs ++ [a]⟩) H 2 rfl (i := k * 5 + 1 + m) (by omega) (updR_at _ _ _)
   rw [updR_upd] at h2
   refine ⟨rfl, _, _, ?_, hok1, by rw [xsOf_upd]⟩
   rw [hI]
   unfold frE
   rw [frC_own hm4]
   exact h2
end
end Go.Proofs.Ytlakbclnilakbaa
end

section
namespace Go.Proofs.Ytlakbclnilakbaa
open Go.RowKit
section
variable {P : Program} {ops : Array Oper} {rest : List Oper} {n : Sz} {k k2 : Nat} {f : Nat → Value} {W w0 : World} {F : List Nat} {L : List Ent} {Q : Exit → Act → World → Prop} {ty ty2 : TypeId} {pos pos2 : String} {af af2 : Array Edge} {g : Option (Nat × Bool)} {x y s : Operand} {v u : Value} {t e : TypeId}
/-- clear(s[i:]) -/
theorem s_clo {α : Type} {enc : α → Value} {z : α} {m c i l2 c2 bytes : Nat} {A : Option Addr} {xs : List α} (H : Heap w0 F L W) (j : Nat) (hw : Region.wanted ⟨none, .call ⟨.builtin .clear, #[x], #[t]⟩, ty, pos, af, g⟩ (yl n f ops) = true)
  (hx : ev n f x = .slice (sloA A c i 1) l2 c2) (hj : L[j]? = some (ownN 1 (.slice A m c) m (xs.map enc) e)) (hl : l2 = m - i) (hi : i ≤ m) (ht : P.underlying t = some (.slice e)) (hin : Inf P e (enc z) 1 bytes) (h1 : (enc z).oneCell' = true)
  (h : ∀ W', Heap w0 F (L.set j (ownN 1 (.slice A m c) m ((xs.take i ++ List.replicate (m - i) z).map enc) e)) W' → SL P ops Q rest n f W') : SL P ops Q (⟨none, .call ⟨.builtin .clear, #[x], #[t]⟩, ty, pos, af, g⟩ :: rest) n f W := by
 subst hl
 have ho := H.own_get j hj
 have hxl : xs.length = m := by simpa using ho.1
 obtain ⟨ii, hi0, hz0, hsz, _⟩ := hin.ex
 by_cases h0 : m - i = 0
 ·have hrun : (Builtin.clear_ #[t] ty #[.slice (sloA A c i 1) (m - i) c2]).run P W = .ok (.tuple #[]) W := by
   rw [h0]
   cases sloA A c i 1 <;> simp [Builtin.clear_, run_underlying ht]
  refine s_dv (W' := W) (v := .tuple #[]) rfl hw (by simp only [execOp, resolve, invoke, builtin, List.map_toArray, List.map_cons, List.map_nil, hx, Sem.run_bind, Sem.run_pure, Result.andThen_ok, hrun]) (h _ ?_)
  have : xs.take i ++ List.replicate (m - i) z = xs := by
   rw [h0, List.replicate_zero, List.append_nil, List.take_of_length_le (by omega)]
  rw [this, show L.set j (ownN 1 (.slice A m c) m (xs.map enc) e) = L by
   apply List.ext_getElem?
   intro a
   rw [List.getElem?_set]
   split
   ·rename_i e1
    subst e1
    rw [hj]
    simp only [(List.getElem?_eq_some_iff.1 hj).1, if_true]
   ·rfl]
  exact H
 ·rcases ho.2 with ⟨e0, h2⟩ | ⟨g0, cap, cur, e0, h2, hg, h4, h5, h6, h7⟩
  ·omega
  ·injection e0 with e1 e2 e3
   subst e1; subst e3
   have hsl : sloA (some ⟨g0, 0, none⟩) c i 1 = some ⟨g0, i, none⟩ := by
    unfold sloA
    rw [Option.map_some, if_neg (by omega)]
    simp only [Addr.add, Nat.mul_one, Nat.zero_add]
    split
    ·rename_i e9; rw [e9]
    ·rfl
   rw [hsl] at hx
   have hlen : cur.toList.length = c := by simpa using h6
   have hst := run_storeCells_at P g0 i e (List.replicate (m - i) (enc z)) 0 cur W hg (by rw [List.length_replicate]; omega) (fun v hv => by rw [(List.mem_replicate.1 hv).2]; exact h1)
   have hz1 : (zeroValue e).run P W = .ok (enc z) W := by simp [zeroValue, typeInfo, hi0, hz0]
   have hrun : (Builtin.clear_ #[t] ty #[.slice (some ⟨g0, i, none⟩) (m - i) c2]).run P W = .ok (.tuple #[]) (W.setRow g0 (cur.toList.take (i + 0) ++ List.replicate (m - i) (enc z) ++ cur.toList.drop (i + 0 + (List.replicate (m - i) (enc z)).length)).toArray) := by
    obtain ⟨q, hq⟩ := Nat.exists_eq_succ_of_ne_zero h0
    rw [hq] at hst ⊢
    simp [Builtin.clear_, run_underlying ht, hz1, zeroCells_one _ _ (one_cells h1), hst]
   refine s_dv (W' := W.setRow g0 (cur.toList.take (i + 0) ++ List.replicate (m - i) (enc z) ++ cur.toList.drop (i + 0 + (List.replicate (m - i) (enc z)).length)).toArray) (v := .tuple #[]) rfl hw (by simp only [execOp, resolve, invoke, builtin, List.map_toArray, List.map_cons, List.map_nil, hx, Sem.run_bind, Sem.run_pure, Result.andThen_ok, hrun]) (h _ (H.at j hj (F' := [g0]) ⟨?_, by simp [ids, ownN, Value.ownBlock], by simp [ids, ownN, Value.ownBlock], ⟨rfl, rfl, rfl, by simp [World.setRow], fun k _ hk => setRow_other W g0 k _ (by intro e; exact hk (by simp [e]))⟩⟩ (by simp [ownN, Value.ownBlock])))
   intro E hE
   rw [List.mem_singleton.1 hE]
   refine ⟨by simp; omega, .inr ⟨g0, c, _, rfl, Nat.zero_le _, setRow_heap W g0 _ _ e _ hg, h4, h5, ?_, ?_⟩⟩
   ·simp; omega
   ·rw [Nat.mul_one, List.toList_toArray, Nat.add_zero, List.map_append, List.map_take, ← h7, Nat.mul_one, List.map_replicate, List.take_take, Nat.min_eq_left hi, List.take_left' (by simp; omega)]
end
end Go.Proofs.Ytlakbclnilakbaa
end

section
namespace Go.Proofs.Ytlakbclnilakbaa
open Go.RowKit
set_option maxRecDepth 100000
set_option maxHeartbeats 4000000
abbrev closG (p6 p7 : Nat) : Value := .func (.func 98) #[] [ptrF p6, ptrF p7].toArray
def goneE (p6 p7 : Nat) (f t : Int) : List Ent := [blk p6 [.int .i64 f] 3, blk p7 [.int .i64 t] 3]
theorem oGone (p6 p7 : Nat) (fr to x : Int) (w : World) (hE : Ents (goneE p6 p7 fr to) w) :
  Calls Try.prog 98 [.int .i64 x, ptrF p6, ptrF p7].toArray w fun e w' => e = .returned (.bool (gone fr to x)) ∧ Only [] w w' := by
 have HR := Heap.start hE
 have H := Heap.nil w
 unfold goneE at HR
 unfold gone
 by_cases h1 : fr ≤ x
 ·by_cases h2 : x < to
  ·rw [decide_eq_true ⟨h1, h2⟩]
   refine k_in (N := 13) Try.func98 rfl rfl rfl ?_
   refine k_sg ?_
   refine s_run rfl rfl (rab rfl) ?_
   refine k_nc ?_
   refine k_sg ?_
   refine s_run rfl rfl (rmi rfl) ?_
   refine s_run rfl rfl (r_lo (HR.same H.only) 0 rfl rfl rfl ag3) ?_
   refine s_run rfl rfl (r_geqT rfl rfl (by omega)) ?_
   refine s_run rfl rfl (rmb rfl) ?_
   refine s_run rfl (g_on 8 (by kernel_rfl) rfl) (rmi rfl) ?_
   refine s_run rfl (g_on 8 (by kernel_rfl) rfl) (r_lo (HR.same H.only) 1 rfl rfl rfl ag3) ?_
   refine s_run rfl (g_on 8 (by kernel_rfl) rfl) (r_lssT rfl rfl (by omega)) ?_
   refine s_run rfl rfl (r_pkT (v := .bool _) rfl rfl) ?_
   refine s_run rfl rfl (rab rfl) ?_
   refine k_nc ?_
   refine k_ret ?_
   refine fin1r (v := .bool _) rfl rfl ?_
   exact ⟨rfl, H.only⟩
  ·rw [decide_eq_false (fun h => h2 h.2)]
   refine k_in (N := 13) Try.func98 rfl rfl rfl ?_
   refine k_sg ?_
   refine s_run rfl rfl (rab rfl) ?_
   refine k_nc ?_
   refine k_sg ?_
   refine s_run rfl rfl (rmi rfl) ?_
   refine s_run rfl rfl (r_lo (HR.same H.only) 0 rfl rfl rfl ag3) ?_
   refine s_run rfl rfl (r_geqT rfl rfl (by omega)) ?_
   refine s_run rfl rfl (rmb rfl) ?_
   refine s_run rfl (g_on 8 (by kernel_rfl) rfl) (rmi rfl) ?_
   refine s_run rfl (g_on 8 (by kernel_rfl) rfl) (r_lo (HR.same H.only) 1 rfl rfl rfl ag3) ?_
   refine s_run rfl (g_on 8 (by kernel_rfl) rfl) (r_lssF rfl rfl (by omega)) ?_
   refine s_run rfl rfl (r_pkT (v := .bool _) rfl rfl) ?_
   refine s_run rfl rfl (rab rfl) ?_
   refine k_nc ?_
   refine k_ret ?_
   refine fin1r (v := .bool _) rfl rfl ?_
   exact ⟨rfl, H.only⟩
 ·rw [decide_eq_false (fun h => h1 h.1)]
  refine k_in (N := 13) Try.func98 rfl rfl rfl ?_
  refine k_sg ?_
  refine s_run rfl rfl (rab rfl) ?_
  refine k_nc ?_
  refine k_sg ?_
  refine s_run rfl rfl (rmi rfl) ?_
  refine s_run rfl rfl (r_lo (HR.same H.only) 0 rfl rfl rfl ag3) ?_
  refine s_run rfl rfl (r_geqF rfl rfl (by omega)) ?_
  refine s_run rfl rfl (rmb rfl) ?_
  refine s_off rfl (g_off 8 (by kernel_rfl) rfl rfl) ?_
  refine s_off rfl (g_off 8 (by kernel_rfl) rfl rfl) ?_
  refine s_off rfl (g_off 8 (by kernel_rfl) rfl rfl) ?_
  refine s_run rfl rfl (r_pkF (v := .bool _) rfl rfl) ?_
  refine s_run rfl rfl (rab rfl) ?_
  refine k_nc ?_
  refine k_ret ?_
  refine fin1r (v := .bool _) rfl rfl ?_
  exact ⟨rfl, H.only⟩
theorem stay_all {f t : Int} {l : List Int} (h : ∀ x ∈ l, gone f t x = false) : stay f t l = l := by
 unfold stay
 exact List.filter_eq_self.2 fun x hx => by rw [h x hx]; rfl
theorem stay_snoc (f t : Int) (l : List Int) (j : Nat) (x : Int) (hx : l[j]? = some x) : stay f t (l.take (j + 1)) = stay f t (l.take j) ++ (if gone f t x = true then [] else [x]) := by
 unfold stay
 rw [← tk_snoc hx, List.filter_append]
 congr 1
 cases h : gone f t x <;> simp [h]
theorem sIndexF (A : Option Addr) (n c p6 p7 : Nat) (fr to : Int) (xs : List Int) (w : World) (hE : Ents (goneE p6 p7 fr to) w) (hS : Sees (Value.int .i64) w [] A xs) (hl : xs.length = n) (hn : n ≤ 1000000) :
  Calls Try.prog 127 [.slice A n c, closG p6 p7].toArray w fun e w' => (∃ r, e = .returned (.int .i64 r) ∧ ((∀ x ∈ xs, gone fr to x = false) ∧ r = -1 ∨ ∃ i : Nat, i < n ∧ r = i ∧ (∃ x, xs[i]? = some x ∧ gone fr to x = true) ∧ ∀ x ∈ xs.take i, gone fr to x = false)) ∧ Only [] w w' := by
 have HR := Heap.start hE
 have H := Heap.nil w
 have hG := fun {W : World} (h : Only [] w W) x => oGone p6 p7 fr to x W (HR.same h).ents
 refine k_in (N := 19) Try.func127 rfl rfl rfl ?_
 refine k_sg ?_
 refine s_run rfl rfl (rai rfl) ?_
 refine k_nc ?_
 refine k_seq ?_
 refine k_sg ?_
 refine s_run rfl rfl (rms rfl) ?_
 refine s_run rfl rfl (r_len rfl Try.underlying25) ?_
 refine s_run rfl rfl (rmi rfl) ?_
 refine k_nc ?_
 refine k_b ?_
 refine k_loop (fun z f W => ∃ (i : Nat), i ≤ n ∧ z = n - i ∧ (∀ x ∈ xs.take i, gone fr to x = false) ∧ f 0 = .slice A n c ∧ f 1 = closG p6 p7 ∧ f 7 = .int .i64 n ∧ f 8 = .int .i64 i ∧ Heap w [] [] W) n ⟨0, by omega, rfl, by simp, rfl, rfl, rfl, rfl, H⟩ ?_
 clear H
 rintro z f W ⟨i, hi, rfl, hno, f0, f1, f7, f8, H⟩
 obtain ⟨f, rfl⟩ := live4 f0 f1 f7 f8
 clear f0 f1 f7 f8
 by_cases hlt : i < n
 ·obtain ⟨y, hy⟩ : ∃ y, xs[i]? = some y := ⟨_, List.getElem?_eq_getElem (by omega)⟩
  obtain ⟨b, o, rfl, _, hrd⟩ := hS (by omega)
  have hc := hrd i y hy
  have hGy := fun {W : World} h => hG (W := W) h y
  cases hg : gone fr to y with
  | true =>
   simp only [hg] at hGy
   refine k_sg ?_
   refine s_run rfl rfl (r_lssT rfl rfl (by omega)) ?_
   refine k_nc ?_
   refine k_seq ?_
   refine k_t rfl ?_
   refine k_skip ?_
   refine c_norm ?_
   refine k_seq ?_
   refine k_b ?_
   refine k_sg ?_
   refine s_run rfl rfl (rmi rfl) ?_
   refine s_run rfl rfl (rai rfl) ?_
   refine k_nc ?_
   refine k_sg ?_
   refine s_run rfl rfl (r_mv (v := .func _ _ _) rfl) ?_
   refine s_run rfl rfl (rms rfl) ?_
   refine s_run rfl rfl (rmi rfl) ?_
   refine s_run rfl rfl (r_ix1o (i := i) rfl rfl (by omega) (by omega) Try.underlying25 sz3) ?_
   refine s_run rfl rfl (r_lr H rfl hc (by simp) ag3) ?_
   refine s_callV rfl rfl rfl Try.func98 (by kernel_rfl) (by kernel_rfl) (hGy H.only) ?_
   rintro e W1 ⟨rfl, H'⟩
   refine ⟨_, rfl, ?_⟩
   have H := H.same H'; clear H'
   refine k_nc ?_
   refine k_t rfl ?_
   refine k_sg ?_
   refine s_run rfl rfl (rmi rfl) ?_
   refine s_run rfl rfl (rai rfl) ?_
   refine k_nc ?_
   refine k_ret ?_
   refine b_ret ?_
   refine c_ret ?_
   refine c_ret ?_
   refine b_ret ?_
   refine c_ret ?_
   refine fin1r (v := .int _ _) rfl rfl ?_
   exact ⟨⟨_, rfl, .inr ⟨i, hlt, rfl, ⟨y, hy, hg⟩, hno⟩⟩, H.only⟩
  | false =>
   simp only [hg] at hGy
   refine k_sg ?_
   refine s_run rfl rfl (r_lssT rfl rfl (by omega)) ?_
   refine k_nc ?_
   refine k_seq ?_
   refine k_t rfl ?_
   refine k_skip ?_
   refine c_norm ?_
   refine k_seq ?_
   refine k_b ?_
   refine k_sg ?_
   refine s_run rfl rfl (rmi rfl) ?_
   refine s_run rfl rfl (rai rfl) ?_
   refine k_nc ?_
   refine k_sg ?_
   refine s_run rfl rfl (r_mv (v := .func _ _ _) rfl) ?_
   refine s_run rfl rfl (rms rfl) ?_
   refine s_run rfl rfl (rmi rfl) ?_
   refine s_run rfl rfl (r_ix1o (i := i) rfl rfl (by omega) (by omega) Try.underlying25 sz3) ?_
   refine s_run rfl rfl (r_lr H rfl hc (by simp) ag3) ?_
   refine s_callV rfl rfl rfl Try.func98 (by kernel_rfl) (by kernel_rfl) (hGy H.only) ?_
   rintro e W1 ⟨rfl, H'⟩
   refine ⟨_, rfl, ?_⟩
   have H := H.same H'; clear H'
   refine k_nc ?_
   refine k_f rfl ?_
   refine k_skip ?_
   refine b_norm ?_
   refine c_norm ?_
   refine k_rg ?_
   refine s_run rfl rfl (r_add rfl rfl (wI (by omega))) ?_
   refine s_run rfl rfl (rmi rfl) ?_
   refine k_nil ?_
   refine c_round ?_
   refine ⟨_, _, ?_, rfl, i + 1, by omega, rfl, fun x hx => ?_, rfl, rfl, rfl, rfl, H⟩
   ·omega
   ·rw [← tk_snoc hy] at hx
    rcases List.mem_append.1 hx with hx | hx
    ·exact hno x hx
    ·rw [List.mem_singleton.1 hx]; exact hg
 ·obtain rfl : i = n := by omega
  rw [show xs.take i = xs by rw [← hl]; exact List.take_length] at hno
  refine k_sg ?_
  refine s_run rfl rfl (r_lssF rfl rfl (by omega)) ?_
  refine k_nc ?_
  refine k_seq ?_
  refine k_f rfl ?_
  refine k_exit ?_
  refine c_exit ?_
  refine c_exit ?_
  refine b_hit ?_
  refine c_norm ?_
  refine k_sg ?_
  refine s_run rfl rfl (rai rfl) ?_
  refine k_nc ?_
  refine k_ret ?_
  refine fin1r (v := .int _ _) rfl rfl ?_
  exact ⟨⟨_, rfl, .inl ⟨hno, rfl⟩⟩, H.only⟩
theorem sDelete (A : Option Addr) (n c p6 p7 : Nat) (fr to : Int) (xs : List Int) (w : World) (hE : Ents (ownN 1 (.slice A n c) n (xs.map (Value.int .i64)) 3 :: goneE p6 p7 fr to) w) (hn : n ≤ 1000000) :
  Calls Try.prog 99 [.slice A n c, closG p6 p7].toArray w fun e w' => e = .returned (.slice A (stay fr to xs).length c) ∧ Heap w (ids (ownN 1 (.slice A n c) n (xs.map (Value.int .i64)) 3 :: goneE p6 p7 fr to)) (ownN 1 (.slice A (stay fr to xs).length c) (stay fr to xs).length ((stay fr to xs).map (Value.int .i64)) 3 :: goneE p6 p7 fr to) w' := by
 have H := Heap.start hE
 have hl : xs.length = n := by have := (H.own_get 0 rfl).1; simpa using this
 have hcap := own_cap H 0 rfl
 obtain ⟨I, hI⟩ : ∃ I, ids (ownN 1 (.slice A n c) n (xs.map (Value.int .i64)) 3 :: goneE p6 p7 fr to) = I := ⟨_, rfl⟩
 rw [hI] at H ⊢
 have hG := fun {W : World} hE x => oGone p6 p7 fr to x W hE
 have hIx := fun {W : World} hE hS => sIndexF A n c p6 p7 fr to xs W hE hS hl hn
 refine k_in (N := 42) Try.func99 rfl rfl rfl ?_
 refine k_sg ?_
 refine s_run rfl rfl (ras rfl) ?_
 refine k_nc ?_
 refine k_sg ?_
 refine s_run rfl rfl (rms rfl) ?_
 refine s_run rfl rfl (r_mv (v := .func _ _ _) rfl) ?_
 refine s_call rfl (hIx ((H.drop).ents) (own_seesC H 0 rfl)) (ca127 rfl) ?_
 rintro e W1 ⟨⟨r, rfl, hr⟩, H'⟩
 refine ⟨_, rfl, ?_⟩
 have H := H.same H'; clear H'
 refine s_run rfl rfl (rai rfl) ?_
 refine k_nc ?_
 refine k_seq ?_
 refine k_seq ?_
 rcases hr with ⟨hall, rfl⟩ | ⟨i, hin, rfl, ⟨y, hy, hgy⟩, hno⟩
 ·have e1 := stay_all hall
  have e2 : (stay fr to xs).length = n := by rw [e1, hl]
  refine k_rg ?_
  refine s_run rfl rfl (rmi rfl) ?_
  refine s_run rfl rfl (r_eqlT rfl rfl (by omega)) ?_
  refine k_nc ?_
  refine k_t rfl ?_
  refine k_sg ?_
  refine s_run rfl rfl (rms rfl) ?_
  refine s_run rfl rfl (ras rfl) ?_
  refine k_nc ?_
  refine k_ret ?_
  refine c_ret ?_
  refine fin1r (v := .slice _ _ _) rfl rfl ?_
  refine ⟨by rw [e2], ?_⟩
  rw [e2, e1]; exact H
 ·obtain ⟨q, rfl⟩ := Heap.own_some H 0 rfl (by omega)
  unfold goneE at H
  have hst1 : stay fr to (xs.take (i + 1)) = xs.take i := by rw [stay_snoc fr to xs i y hy, hgy, if_pos rfl, List.append_nil, stay_all hno]
  refine k_rg ?_
  refine s_run rfl rfl (rmi rfl) ?_
  refine s_run rfl rfl (r_eqlF rfl rfl (by omega)) ?_
  refine k_nc ?_
  refine k_f rfl ?_
  refine k_skip ?_
  refine c_norm ?_
  refine k_seq ?_
  refine k_sg ?_
  refine s_run rfl rfl (rmi rfl) ?_
  refine s_run rfl rfl (r_add rfl rfl (wI (by omega))) ?_
  refine s_run rfl rfl (rai rfl) ?_
  refine k_nc ?_
  refine k_b ?_
  refine k_loop (fun z f W => ∃ (j wi : Nat) (ys : List Int), i < j ∧ j ≤ n ∧ z = n - j ∧ ys.length = n ∧ wi = (stay fr to (xs.take j)).length ∧ wi < j ∧ ys.take wi = stay fr to (xs.take j) ∧ (∀ q, j ≤ q → ys[q]? = xs[q]?) ∧ f 0 = .slice (some ⟨q, 0, none⟩) n c ∧ f 1 = closG p6 p7 ∧ f 5 = .int .i64 wi ∧ f 6 = .int .i64 j ∧ Heap w I [ownN 1 (.slice (some ⟨q, 0, none⟩) n c) n (ys.map (Value.int .i64)) 3, blk p6 [.int .i64 fr] 3, blk p7 [.int .i64 to] 3] W) (n - (i + 1)) ⟨i + 1, i, xs, by omega, by omega, rfl, hl, by rw [hst1, List.length_take]; omega, by omega, hst1.symm, fun _ _ => rfl, rfl, rfl, rfl, rfl, H⟩ ?_
  clear H
  rintro z f W ⟨j, wi, ys, hij, hjn, rfl, hyl, hwi, hwj, hyt, hyr, f0, f1, f5, f6, H⟩
  obtain ⟨f, rfl⟩ := live4 f0 f1 f5 f6
  clear f0 f1 f5 f6
  by_cases hlt : j < n
  ·obtain ⟨v, hv⟩ : ∃ v, xs[j]? = some v := ⟨_, List.getElem?_eq_getElem (by omega)⟩
   have hv2 : ys[j]? = some v := by rw [hyr j (Nat.le_refl _)]; exact hv
   have hst := stay_snoc fr to xs j v hv
   have hGy := fun {W : World} hE => hG (W := W) hE v
   cases hg : gone fr to v with
   | true =>
    rw [hg, if_pos rfl, List.append_nil] at hst
    simp only [hg] at hGy
    refine k_seq ?_
    refine k_sg ?_
    refine s_run rfl rfl (rmi rfl) ?_
    refine s_run rfl rfl (rms rfl) ?_
    refine s_run rfl rfl (r_len rfl Try.underlying25) ?_
    refine s_run rfl rfl (r_lssT rfl rfl (by omega)) ?_
    refine k_nc ?_
    refine k_t rfl ?_
    refine k_skip ?_
    refine c_norm ?_
    refine k_seq ?_
    refine k_b ?_
    refine k_sg ?_
    refine s_run rfl rfl (rms rfl) ?_
    refine s_run rfl rfl (rmi rfl) ?_
    refine s_run rfl rfl (r_ix1 (i := j) rfl rfl (by omega) (by omega) Try.underlying25 sz3) ?_
    refine s_run rfl rfl (r_ow H 0 rfl rfl hv2 ag3) ?_
    refine s_run rfl rfl (rai rfl) ?_
    refine k_nc ?_
    refine k_sg ?_
    refine s_run rfl rfl (r_mv (v := .func _ _ _) rfl) ?_
    refine s_run rfl rfl (rmi rfl) ?_
    refine s_callV rfl rfl rfl Try.func98 (by kernel_rfl) (by kernel_rfl) (hGy (H.drop.ents)) ?_
    rintro e W1 ⟨rfl, H'⟩
    refine ⟨_, rfl, ?_⟩
    have H := H.same H'; clear H'
    refine s_run rfl rfl (r_notT rfl) ?_
    refine k_nc ?_
    refine k_f rfl ?_
    refine k_skip ?_
    refine b_norm ?_
    refine c_norm ?_
    refine k_rg ?_
    refine s_run rfl rfl (rmi rfl) ?_
    refine s_run rfl rfl (r_add rfl rfl (wI (by omega))) ?_
    refine s_run rfl rfl (rai rfl) ?_
    refine k_nil ?_
    refine c_round ?_
    refine ⟨_, _, ?_, rfl, j + 1, wi, ys, by omega, by omega, rfl, hyl, by rw [hst]; exact hwi, by omega, by rw [hst]; exact hyt, fun q hq => hyr q (by omega), rfl, rfl, rfl, rfl, H⟩
    omega
   | false =>
    rw [hg, if_neg (by simp)] at hst
    simp only [hg] at hGy
    refine k_seq ?_
    refine k_sg ?_
    refine s_run rfl rfl (rmi rfl) ?_
    refine s_run rfl rfl (rms rfl) ?_
    refine s_run rfl rfl (r_len rfl Try.underlying25) ?_
    refine s_run rfl rfl (r_lssT rfl rfl (by omega)) ?_
    refine k_nc ?_
    refine k_t rfl ?_
    refine k_skip ?_
    refine c_norm ?_
    refine k_seq ?_
    refine k_b ?_
    refine k_sg ?_
    refine s_run rfl rfl (rms rfl) ?_
    refine s_run rfl rfl (rmi rfl) ?_
    refine s_run rfl rfl (r_ix1 (i := j) rfl rfl (by omega) (by omega) Try.underlying25 sz3) ?_
    refine s_run rfl rfl (r_ow H 0 rfl rfl hv2 ag3) ?_
    refine s_run rfl rfl (rai rfl) ?_
    refine k_nc ?_
    refine k_sg ?_
    refine s_run rfl rfl (r_mv (v := .func _ _ _) rfl) ?_
    refine s_run rfl rfl (rmi rfl) ?_
    refine s_callV rfl rfl rfl Try.func98 (by kernel_rfl) (by kernel_rfl) (hGy (H.drop.ents)) ?_
    rintro e W1 ⟨rfl, H'⟩
    refine ⟨_, rfl, ?_⟩
    have H := H.same H'; clear H'
    refine s_run rfl rfl (r_notF rfl) ?_
    refine k_nc ?_
    refine k_t rfl ?_
    refine k_sg ?_
    refine s_run rfl rfl (rms rfl) ?_
    refine s_run rfl rfl (rmi rfl) ?_
    refine s_run rfl rfl (rmi rfl) ?_
    refine s_run rfl rfl (r_ix1 (i := wi) rfl rfl (by omega) (by omega) Try.underlying25 sz3) ?_
    refine s_so (enc := Value.int .i64) H 0 rfl rfl rfl rfl rfl (by omega) rfl sz3 ?_
    clear H; intro _ H; simp only [jA, jB, jC, jD, jE, jF, jG, jH, jI, jJ, jK, Nat.reduceAdd] at H
    refine k_nc ?_
    refine k_rg ?_
    refine s_run rfl rfl (rmi rfl) ?_
    refine s_run rfl rfl (r_add rfl rfl (wI (by omega))) ?_
    refine s_run rfl rfl (rai rfl) ?_
    refine k_nil ?_
    refine b_norm ?_
    refine c_norm ?_
    refine k_rg ?_
    refine s_run rfl rfl (rmi rfl) ?_
    refine s_run rfl rfl (r_add rfl rfl (wI (by omega))) ?_
    refine s_run rfl rfl (rai rfl) ?_
    refine k_nil ?_
    refine c_round ?_
    refine ⟨_, _, ?_, rfl, j + 1, wi + 1, ys.set wi v, by omega, by omega, rfl, by rw [List.length_set]; exact hyl, by rw [hst, List.length_append, ← hwi]; rfl, by omega, ?_, fun q hq => ?_, rfl, rfl, rfl, rfl, H⟩
    ·omega
    ·rw [hst, ← hyt, ← tk_snoc (show (ys.set wi v)[wi]? = some v by rw [List.getElem?_set_self (by omega)])]
     rw [List.take_set_of_le (Nat.le_refl _)]
    ·rw [List.getElem?_set_ne (by omega)]; exact hyr q (by omega)
  ·obtain rfl : j = n := by omega
   rw [show xs.take j = xs by rw [← hl]; exact List.take_length] at hwi hyt
   refine k_seq ?_
   refine k_sg ?_
   refine s_run rfl rfl (rmi rfl) ?_
   refine s_run rfl rfl (rms rfl) ?_
   refine s_run rfl rfl (r_len rfl Try.underlying25) ?_
   refine s_run rfl rfl (r_lssF rfl rfl (by omega)) ?_
   refine k_nc ?_
   refine k_f rfl ?_
   refine k_exit ?_
   refine c_exit ?_
   refine c_exit ?_
   refine b_hit ?_
   refine c_norm ?_
   refine k_sg ?_
   refine s_run rfl rfl (rms rfl) ?_
   refine s_run rfl rfl (rmi rfl) ?_
   refine s_run rfl rfl (r_sloA (i := wi) rfl rfl rfl (by omega) Try.underlying25 sz3) ?_
   refine s_clo (enc := Value.int .i64) (z := 0) H 0 rfl rfl rfl rfl (by omega) Try.underlying25 inf3 rfl ?_
   intro _ H'; try (simp only [List.set_cons_zero, List.set_cons_succ, List.take_succ_cons, List.take_zero, List.drop_succ_cons, List.drop_zero, List.cons_append, List.nil_append, List.append_nil, List.length_cons, List.length_nil, Nat.reduceAdd] at H')
   clear H; have H := H'; clear H'
   refine k_nc ?_
   refine k_sg ?_
   refine s_run rfl rfl (rms rfl) ?_
   refine s_run rfl rfl (rmi rfl) ?_
   refine s_run rfl rfl (r_shiA (j := wi) rfl rfl rfl (by omega) Try.underlying25 sz3) ?_
   refine s_run rfl rfl (ras rfl) ?_
   refine k_nc ?_
   refine k_ret ?_
   refine fin1r (v := .slice _ _ _) rfl rfl ?_
   have h1 := H.shrink2 0 rfl (m := wi) (by omega)
   simp only [List.set_cons_zero, Nat.mul_one] at h1
   rw [← List.map_take, List.take_left' (by rw [List.length_take, hyl]; omega), hyt] at h1
   rw [hwi] at h1 ⊢
   exact ⟨rfl, h1⟩
end Go.Proofs.Ytlakbclnilakbaa
end

section
namespace Go.Proofs.Ytlakbclnilakbaa
open Go.RowKit
set_option maxRecDepth 100000
set_option maxHeartbeats 4000000
theorem mdelS {α β : Type} [DecidableEq α] : ∀ (L : List (α × β)) (a : α), (L.map Prod.fst).Nodup → mget (mdel L a) a = none
 | [], a, _ => rfl
 | x :: L, a, h => by
  simp only [List.map_cons, List.nodup_cons] at h
  rw [mdel]
  split
  ·rename_i e
   exact (mget_iff L a).2 fun p hp e2 => h.1 (by rw [e, ← e2]; exact List.mem_map.2 ⟨p, hp, rfl⟩)
  ·rename_i e
   rw [mget, if_neg e]; exact mdelS L a h.2
theorem mdelO {α β : Type} [DecidableEq α] : ∀ (L : List (α × β)) (a b : α), b ≠ a → mget (mdel L a) b = mget L b
 | [], a, b, _ => rfl
 | x :: L, a, b, h => by
  rw [mdel]
  split
  ·rename_i e
   rw [mget, if_neg (fun e2 => h (by rw [← e2, e]))]
  ·rw [mget, mget, mdelO L a b h]
theorem mdel_sub {α β : Type} [DecidableEq α] : ∀ (L : List (α × β)) (a : α) (x : α × β), x ∈ mdel L a → x ∈ L
 | [], a, x, h => by simp [mdel] at h
 | y :: L, a, x, h => by
  rw [mdel] at h
  split at h
  ·exact List.mem_cons_of_mem _ h
  ·rcases List.mem_cons.1 h with h | h
   ·rw [h]; simp
   ·exact List.mem_cons_of_mem _ (mdel_sub L a x h)
theorem FrOk.del {F : Nat → RowS} {l : FrM} {N m k : Nat} (h : FrOk F l N) (hnd : (l.map Prod.fst).Nodup) (hm : m < 4) (hk : k < 32) : FrOk (updR F (k * 5 + 1 + m) RowS.nil) (mdel l ((m : Int), (k : Int))) N := by
 refine ⟨fun x hx => h.keys x (mdel_sub _ _ _ hx), fun m' k' hm' hk' => ?_, fun i hi => ?_⟩
 ·by_cases e : m' = m ∧ k' = k
  ·obtain ⟨rfl, rfl⟩ := e
   rw [mdelS _ _ hnd, updR_at]; exact .inr ⟨rfl, rfl⟩
  ·have hne : ((m' : Int), (k' : Int)) ≠ ((m : Int), (k : Int)) := fun e2 => e (by injection e2 with a b; exact ⟨by omega, by omega⟩)
   rw [mdelO _ _ _ hne, updR_off _ _ (by omega)]
   exact h.got m' k' hm' hk'
 ·by_cases e : i = k * 5 + 1 + m
  ·rw [e, updR_at]; exact Nat.zero_le _
  ·rw [updR_off _ _ e]; exact h.len i hi
def drS (S : FrS) (m : Int) (K : Nat) : FrS := if isM m = true then fDrainTo S m.toNat K else S
/-- behind K classes -/
structure DrQ (F : Nat → RowS) (N : Nat) (m : Int) (K : Nat) (F' : Nat → RowS) (l' : FrM) : Prop where
 ok : FrOk F' l' (N + N)
 xs : xsOf F' = drS (xsOf F) m K
 far : ∀ i, K * 5 ≤ i → F' i = F i
section
variable {p b N : Nat} {F : Nat → RowS} {l : FrM} {w : World}
theorem drain_fin {I : List Nat} {m : Int} {K : Nat} {F' : Nat → RowS} {l' : FrM} {W : World} (hq : DrQ F N m K F' l') (hK : K < 32) (hN : ∀ i, i < 160 → (F i).n ≤ N) {ry : RowS} (hry : ry = if isM m = true then F' (K * 5 + 1 + m.toNat) else RowS.nil) {A2 : Option Addr} {c2 : Nat}
  (H : Heap w I [ownN 1 (.slice A2 ((F' (K * 5)).n + ry.n) c2) ((F' (K * 5)).n + ry.n) (((F' (K * 5)).xs ++ ry.xs).map (Value.int .i64)) 3, blk p (frC (updR F' (K * 5) ⟨A2, (F' (K * 5)).n + ry.n, c2, (F' (K * 5)).xs ++ ry.xs⟩) b) 95, mp kF RowS.v b (mdel l' (m, (K : Int))), fam 3 160 (updR F' (K * 5) RowS.nil)] W) (hnd : (l'.map Prod.fst).Nodup) :
  ∃ F'' l'', DrQ F N m (K + 1) F'' l'' ∧ Heap w I (frE p b F'' F'' l'') W := by
 have h1 := Heap.push (r := ⟨A2, (F' (K * 5)).n + ry.n, c2, (F' (K * 5)).xs ++ ry.xs⟩) H 2 rfl (i := K * 5) (by omega) (updR_at _ _ _)
 simp only [List.set_cons_zero, List.set_cons_succ] at h1
 rw [updR_upd] at h1
 have hg := hN (K * 5) (by omega)
 rw [← hq.far (K * 5) (by omega)] at hg
 cases hm : isM m with
 | true =>
  rw [hm, if_pos rfl] at hry
  obtain ⟨m, rfl, hm4⟩ := isM_nat hm
  rw [Int.toNat_natCast] at hry
  have hg2 := hN (K * 5 + 1 + m) (by omega)
  rw [← hq.far (K * 5 + 1 + m) (by omega), ← hry] at hg2
  have h2 := (h1.pull 2 rfl (i := K * 5 + 1 + m) (by omega)).drop
  simp only [List.set_cons_zero, List.set_cons_succ] at h2
  have hok := (hq.ok.glob (k := K) (r := ⟨A2, (F' (K * 5)).n + ry.n, c2, (F' (K * 5)).xs ++ ry.xs⟩) (by show (F' (K * 5)).n + ry.n ≤ _; omega)).del hnd hm4 hK
  refine ⟨_, _, ⟨hok, ?_, fun i hi => by rw [updR_off _ _ (by omega), updR_off _ _ (by omega)]; exact hq.far i (by omega)⟩, ?_⟩
  ·rw [xsOf_upd, xsOf_upd, hq.xs]
   unfold drS
   rw [hm, if_pos rfl, if_pos rfl, Int.toNat_natCast, fDrainTo_succ _ _ _ hm4]
   have e1 : (F' (K * 5)).xs = xsOf F (K * 5) := by rw [hq.far (K * 5) (by omega)]; rfl
   have e2 : ry.xs = xsOf F (K * 5 + 1 + m) := by rw [hry, hq.far (K * 5 + 1 + m) (by omega)]; rfl
   show updS (updS _ _ ((F' (K * 5)).xs ++ ry.xs)) _ RowS.nil.xs = _
   rw [e1, e2]; rfl
  ·unfold frE
   rw [frC_own hm4]
   exact h2
 | false =>
  rw [hm, if_neg (by simp)] at hry
  subst hry
  have hno : mdel l' (m, (K : Int)) = l' := (m_none l' _ ((mget_iff l' _).1 (key_out hq.ok (.inl hm)))).2.2
  rw [hno] at h1
  have hok := hq.ok.glob (k := K) (r := ⟨A2, (F' (K * 5)).n + 0, c2, (F' (K * 5)).xs ++ []⟩) (by show (F' (K * 5)).n + 0 ≤ _; omega)
  refine ⟨_, _, ⟨hok, ?_, fun i hi => by rw [updR_off _ _ (by omega)]; exact hq.far i (by omega)⟩, h1⟩
  rw [xsOf_upd, hq.xs]
  unfold drS
  rw [hm, if_neg (by simp), if_neg (by simp)]
  show updS (xsOf F) (K * 5) ((F' (K * 5)).xs ++ []) = _
  rw [List.append_nil, hq.far (K * 5) (by omega)]
  exact updS_self (xsOf F) (K * 5)
theorem oDrain (hE : Ents (frE p b F F l) w) (hok : FrOk F l N) (hN : N ≤ 10000) (m : Int) (hwm : wf64 m) :
  Calls Try.prog 15 [ptrF p, .int .i64 m].toArray w fun e w' => e = .returned (.tuple #[]) ∧ FrTo p b F l (N + N) (fDrain (xsOf F) m) w w' := by
 have H := Heap.start hE
 obtain ⟨I, hI⟩ : ∃ I, ids (frE p b F F l) = I := ⟨_, rfl⟩
 rw [hI] at H
 have hq0 : DrQ F N m 0 F l := ⟨hok.mono (by omega), by unfold drS; split <;> simp [fDrainTo_zero], fun _ _ => rfl⟩
 refine k_in (N := 36) Try.func15 rfl rfl rfl ?_
 refine k_sg ?_
 refine s_run rfl rfl (rmi rfl) ?_
 refine k_nc ?_
 refine k_b ?_
 refine k_loop (fun z f W => ∃ (K : Nat) (F' : Nat → RowS) (l' : FrM), K ≤ 32 ∧ z = 32 - K ∧ DrQ F N m K F' l' ∧ f 0 = ptrF p ∧ f 1 = .int .i64 m ∧ f 6 = .int .i64 K ∧ Heap w I (frE p b F' F' l') W) 32 ⟨0, F, l, by omega, rfl, hq0, rfl, rfl, rfl, H⟩ ?_
 clear H hq0
 rintro z f W ⟨K, F', l', hK, rfl, hq, f0, f1, f6, H⟩
 obtain ⟨f, rfl⟩ := live3 f0 f1 f6
 clear f0 f1 f6
 by_cases hlt : K < 32
 ·obtain ⟨es, clock, _, hmk⟩ := H.mp_get 1 rfl
  have hnd : (l'.map Prod.fst).Nodup := hmk.nd
  have gd : kF.Gd (m, (K : Int)) := ⟨hwm, by show _ ≤ (K : Int); omega, by show (K : Int) ≤ _; omega⟩
  have hb0 := hok.len (K * 5) (by omega)
  rw [← hq.far (K * 5) (by omega)] at hb0
  have hlg := fam_len H 2 rfl (i := K * 5) (by omega)
  obtain ⟨ry, hry⟩ : ∃ ry, (if isM m = true then F' (K * 5 + 1 + m.toNat) else RowS.nil) = ry := ⟨_, rfl⟩
  have hcase : ((mget l' (m, (K : Int))).map RowS.v).getD (.slice none 0 0) = .slice ry.A ry.n ry.c ∧ ry.xs.length = ry.n ∧ ry.n ≤ N ∧ (∀ {L : List Ent} {W' : World} (H : Heap w I L W') (j : Nat) (hj : L[j]? = some (fam 3 160 (updR F' (K * 5) RowS.nil))), Sees (Value.int .i64) W' [] ry.A ry.xs) := by
   cases hm : isM m with
   | true =>
    rw [hm, if_pos rfl] at hry
    obtain ⟨m, rfl, hm4⟩ := isM_nat hm
    rw [Int.toNat_natCast] at hry
    subst hry
    refine ⟨?_, fam_len H 2 rfl (by omega), by rw [hq.far _ (by omega)]; exact hok.len _ (by omega), fun H j hj => ?_⟩
    ·rcases hq.ok.got m K hm4 hlt with hg | ⟨hg, h2⟩
     ·rw [hg]; rfl
     ·rw [hg, h2]; rfl
    ·have := fam_sees H j hj (i := K * 5 + 1 + m) (by omega)
     rwa [updR_off _ _ (by omega)] at this
   | false =>
    rw [hm, if_neg (by simp)] at hry
    subst hry
    refine ⟨?_, rfl, Nat.zero_le _, fun H j hj => Sees.nil⟩
    rw [key_out hq.ok (.inl hm)]; rfl
  obtain ⟨hv, hyl, hyn, hyS⟩ := hcase
  unfold frE at H
  replace H := H.pull 2 rfl (i := K * 5) (by omega)
  simp only [List.set_cons_zero, List.set_cons_succ] at H
  unfold rowE at H
  refine k_sg ?_
  refine s_run rfl rfl (r_lssT rfl rfl (by omega)) ?_
  refine k_nc ?_
  refine k_seq ?_
  refine k_t rfl ?_
  refine k_skip ?_
  refine c_norm ?_
  refine k_seq ?_
  refine k_b ?_
  refine k_sg ?_
  refine s_run rfl rfl (rmi rfl) ?_
  refine s_run rfl rfl (rai rfl) ?_
  refine k_nc ?_
  refine k_sg ?_
  refine s_run rfl rfl (rmi rfl) ?_
  refine s_run rfl rfl (rmi rfl) ?_
  refine s_run rfl rfl (r_bd (bd97_0_1 _ _) rfl) ?_
  refine s_al H rfl inf97 ?_
  intro p5 _ H'; clear H; have H := H'; clear H'
  refine s_sw H 0 rfl rfl rfl rfl rfl rfl rfl sz97 ?_
  clear H; intro _ H; simp only [jA, jB, jC, jD, jE, jF, jG, jH, jI, jJ, jK, Nat.reduceAdd] at H
  refine k_nc ?_
  refine k_seq ?_
  refine k_cut (fun f W => ∃ A2 c2, f 0 = ptrF p ∧ f 1 = .int .i64 m ∧ f 5 = ptrF p5 ∧ f 6 = .int .i64 K ∧ Heap w I [blk p5 [.int .i64 m, .int .i64 K] 97, ownN 1 (.slice A2 ((F' (K * 5)).n + ry.n) c2) ((F' (K * 5)).n + ry.n) (((F' (K * 5)).xs ++ ry.xs).map (Value.int .i64)) 3, blk p (frC (updR F' (K * 5) ⟨A2, (F' (K * 5)).n + ry.n, c2, (F' (K * 5)).xs ++ ry.xs⟩) b) 95, mp kF RowS.v b l', fam 3 160 (updR F' (K * 5) RowS.nil)] W) ?_ ?_
  ·refine k_trF mixed ?_; have H' := H.drew; clear H; have H := H'; clear H'
   refine tqn 0 rfl rfl rfl (fun _ hS => r_mv (v := .pointer _) rfl) trivial ?_
   refine tqn 1 rfl rfl rfl (fun _ hS => r_mv (v := .int _ _) rfl) trivial ?_
   refine tqn 2 rfl rfl rfl (fun _ hS => r_mv (v := .pointer _) rfl) trivial ?_
   refine tqn 3 rfl rfl rfl (fun _ hS => r_mv (v := .int _ _) rfl) trivial ?_
   refine tqn 4 rfl rfl rfl (fun _ hS => r_nc rfl) trivial ?_
   refine tqn 5 rfl rfl rfl (fun _ hS => r_fa0 rfl fo95_0) trivial ?_
   refine tqn 6 rfl rfl rfl (fun _ hS => r_ia0 (i := K) rfl rfl (by omega) (by omega) Try.underlying92 sz25) trivial ?_
   refine tqn 8 rfl rfl rfl (fun _ hS => r_mv (v := .pointer _) rfl) trivial ?_
   refine tqn 9 rfl rfl rfl (fun _ hS => r_nc rfl) trivial ?_
   refine tqn 10 rfl rfl rfl (fun _ hS => r_fa0 rfl fo95_1) trivial ?_
   refine tqn 15 rfl rfl rfl (fun _ hS => r_nc rfl) trivial ?_
   refine tqn 16 rfl rfl rfl (fun _ hS => r_fa0 rfl fo95_0) trivial ?_
   refine t_up3 7 11 12 (by kernel_rfl) ?_ ?_ ?_
   ·refine up_mk rfl ?_
    refine s_run rfl rfl (r_lo H 2 rfl rfl (frC_get hlt) ag25) ?_
    refine k_nil ?_
    refine t_on trivial ?_
    refine t_up2 11 12 (by kernel_rfl) ?_ ?_
    ·refine up_mk rfl ?_
     refine s_run rfl rfl (r_lo H 2 rfl rfl (frC_map _ b) ag93) ?_
     refine k_nil ?_
     refine t_on trivial ?_
     refine t_up1 12 (by kernel_rfl) ?_
     refine up_mk rfl ?_
     refine s_run rfl rfl (r_la H 0 rfl rfl rfl ag97 sz97) ?_
     refine k_nil ?_
     refine t_on trivial ?_
     refine t_up1 13 (by kernel_rfl) ?_
     refine up_mk rfl ?_
     refine s_run rfl rfl (r_lkV H 3 rfl rfl rfl (gd) (hv) Try.underlying93 (zv_of inf25)) ?_
     refine k_nil ?_
     refine t_on trivial ?_
     refine t_up1 14 (by kernel_rfl) ?_
     refine up_mk rfl ?_
     refine s_apW (enc := (Value.int .i64)) H 1 rfl rfl rfl rfl ((hyS H 4 rfl)) (hyl) (fun _ => rfl) (by omega) Try.underlying25 inf3 rfl ?_
     intro A2 c2 _ H'; simp only [List.set_cons_zero, List.set_cons_succ, List.take_succ_cons, List.take_zero, List.drop_succ_cons, List.drop_zero, List.cons_append, List.nil_append, List.append_nil, List.length_cons, List.length_nil, Nat.reduceAdd] at H'; clear H; have H := H'; clear H'
     refine k_nil ?_
     refine t_on trivial ?_
     refine tqn 17 rfl rfl rfl (fun _ hS => r_ia0 (i := K) rfl rfl (by omega) (by omega) Try.underlying92 sz25) trivial ?_
     refine t_up1 18 (by kernel_rfl) ?_
     refine up_mk rfl ?_
     refine s_stC H 2 rfl rfl rfl rfl (frC_get hlt) (frC_set (r := ⟨A2, (F' (K * 5)).n + ry.n, c2, (F' (K * 5)).xs ++ ry.xs⟩) hlt) rfl sz25 ?_
     clear H; intro _ H; simp only [jA, jB, jC, jD, jE, jF, jG, jH, jI, jJ, jK, Nat.reduceAdd] at H
     refine k_nil ?_
     refine t_on trivial ?_
     refine t_done (by kernel_rfl) ?_
     refine k_met ?_
     exact ⟨A2, c2, rfl, rfl, rfl, rfl, H⟩
    ·refine up_mk rfl ?_
     refine s_run rfl rfl (r_la H 0 rfl rfl rfl ag97 sz97) ?_
     refine k_nil ?_
     refine t_on trivial ?_
     refine t_up1 11 (by kernel_rfl) ?_
     refine up_mk rfl ?_
     refine s_run rfl rfl (r_lo H 2 rfl rfl (frC_map _ b) ag93) ?_
     refine k_nil ?_
     refine t_on trivial ?_
     refine t_up1 13 (by kernel_rfl) ?_
     refine up_mk rfl ?_
     refine s_run rfl rfl (r_lkV H 3 rfl rfl rfl (gd) (hv) Try.underlying93 (zv_of inf25)) ?_
     refine k_nil ?_
     refine t_on trivial ?_
     refine t_up1 14 (by kernel_rfl) ?_
     refine up_mk rfl ?_
     refine s_apW (enc := (Value.int .i64)) H 1 rfl rfl rfl rfl ((hyS H 4 rfl)) (hyl) (fun _ => rfl) (by omega) Try.underlying25 inf3 rfl ?_
     intro A2 c2 _ H'; simp only [List.set_cons_zero, List.set_cons_succ, List.take_succ_cons, List.take_zero, List.drop_succ_cons, List.drop_zero, List.cons_append, List.nil_append, List.append_nil, List.length_cons, List.length_nil, Nat.reduceAdd] at H'; clear H; have H := H'; clear H'
     refine k_nil ?_
     refine t_on trivial ?_
     refine tqn 17 rfl rfl rfl (fun _ hS => r_ia0 (i := K) rfl rfl (by omega) (by omega) Try.underlying92 sz25) trivial ?_
     refine t_up1 18 (by kernel_rfl) ?_
     refine up_mk rfl ?_
     refine s_stC H 2 rfl rfl rfl rfl (frC_get hlt) (frC_set (r := ⟨A2, (F' (K * 5)).n + ry.n, c2, (F' (K * 5)).xs ++ ry.xs⟩) hlt) rfl sz25 ?_
     clear H; intro _ H; simp only [jA, jB, jC, jD, jE, jF, jG, jH, jI, jJ, jK, Nat.reduceAdd] at H
     refine k_nil ?_
     refine t_on trivial ?_
     refine t_done (by kernel_rfl) ?_
     refine k_met ?_
     exact ⟨A2, c2, rfl, rfl, rfl, rfl, H⟩
   ·refine up_mk rfl ?_
    refine s_run rfl rfl (r_lo H 2 rfl rfl (frC_map _ b) ag93) ?_
    refine k_nil ?_
    refine t_on trivial ?_
    refine t_up2 7 12 (by kernel_rfl) ?_ ?_
    ·refine up_mk rfl ?_
     refine s_run rfl rfl (r_lo H 2 rfl rfl (frC_get hlt) ag25) ?_
     refine k_nil ?_
     refine t_on trivial ?_
     refine t_up1 12 (by kernel_rfl) ?_
     refine up_mk rfl ?_
     refine s_run rfl rfl (r_la H 0 rfl rfl rfl ag97 sz97) ?_
     refine k_nil ?_
     refine t_on trivial ?_
     refine t_up1 13 (by kernel_rfl) ?_
     refine up_mk rfl ?_
     refine s_run rfl rfl (r_lkV H 3 rfl rfl rfl (gd) (hv) Try.underlying93 (zv_of inf25)) ?_
     refine k_nil ?_
     refine t_on trivial ?_
     refine t_up1 14 (by kernel_rfl) ?_
     refine up_mk rfl ?_
     refine s_apW (enc := (Value.int .i64)) H 1 rfl rfl rfl rfl ((hyS H 4 rfl)) (hyl) (fun _ => rfl) (by omega) Try.underlying25 inf3 rfl ?_
     intro A2 c2 _ H'; simp only [List.set_cons_zero, List.set_cons_succ, List.take_succ_cons, List.take_zero, List.drop_succ_cons, List.drop_zero, List.cons_append, List.nil_append, List.append_nil, List.length_cons, List.length_nil, Nat.reduceAdd] at H'; clear H; have H := H'; clear H'
     refine k_nil ?_
     refine t_on trivial ?_
     refine tqn 17 rfl rfl rfl (fun _ hS => r_ia0 (i := K) rfl rfl (by omega) (by omega) Try.underlying92 sz25) trivial ?_
     refine t_up1 18 (by kernel_rfl) ?_
     refine up_mk rfl ?_
     refine s_stC H 2 rfl rfl rfl rfl (frC_get hlt) (frC_set (r := ⟨A2, (F' (K * 5)).n + ry.n, c2, (F' (K * 5)).xs ++ ry.xs⟩) hlt) rfl sz25 ?_
     clear H; intro _ H; simp only [jA, jB, jC, jD, jE, jF, jG, jH, jI, jJ, jK, Nat.reduceAdd] at H
     refine k_nil ?_
     refine t_on trivial ?_
     refine t_done (by kernel_rfl) ?_
     refine k_met ?_
     exact ⟨A2, c2, rfl, rfl, rfl, rfl, H⟩
    ·refine up_mk rfl ?_
     refine s_run rfl rfl (r_la H 0 rfl rfl rfl ag97 sz97) ?_
     refine k_nil ?_
     refine t_on trivial ?_
     refine t_up2 7 13 (by kernel_rfl) ?_ ?_
     ·refine up_mk rfl ?_
      refine s_run rfl rfl (r_lo H 2 rfl rfl (frC_get hlt) ag25) ?_
      refine k_nil ?_
      refine t_on trivial ?_
      refine t_up1 13 (by kernel_rfl) ?_
      refine up_mk rfl ?_
      refine s_run rfl rfl (r_lkV H 3 rfl rfl rfl (gd) (hv) Try.underlying93 (zv_of inf25)) ?_
      refine k_nil ?_
      refine t_on trivial ?_
      refine t_up1 14 (by kernel_rfl) ?_
      refine up_mk rfl ?_
      refine s_apW (enc := (Value.int .i64)) H 1 rfl rfl rfl rfl ((hyS H 4 rfl)) (hyl) (fun _ => rfl) (by omega) Try.underlying25 inf3 rfl ?_
      intro A2 c2 _ H'; simp only [List.set_cons_zero, List.set_cons_succ, List.take_succ_cons, List.take_zero, List.drop_succ_cons, List.drop_zero, List.cons_append, List.nil_append, List.append_nil, List.length_cons, List.length_nil, Nat.reduceAdd] at H'; clear H; have H := H'; clear H'
      refine k_nil ?_
      refine t_on trivial ?_
      refine tqn 17 rfl rfl rfl (fun _ hS => r_ia0 (i := K) rfl rfl (by omega) (by omega) Try.underlying92 sz25) trivial ?_
      refine t_up1 18 (by kernel_rfl) ?_
      refine up_mk rfl ?_
      refine s_stC H 2 rfl rfl rfl rfl (frC_get hlt) (frC_set (r := ⟨A2, (F' (K * 5)).n + ry.n, c2, (F' (K * 5)).xs ++ ry.xs⟩) hlt) rfl sz25 ?_
      clear H; intro _ H; simp only [jA, jB, jC, jD, jE, jF, jG, jH, jI, jJ, jK, Nat.reduceAdd] at H
      refine k_nil ?_
      refine t_on trivial ?_
      refine t_done (by kernel_rfl) ?_
      refine k_met ?_
      exact ⟨A2, c2, rfl, rfl, rfl, rfl, H⟩
     ·refine up_mk rfl ?_
      refine s_run rfl rfl (r_lkV H 3 rfl rfl rfl (gd) (hv) Try.underlying93 (zv_of inf25)) ?_
      refine k_nil ?_
      refine t_on trivial ?_
      refine t_up1 7 (by kernel_rfl) ?_
      refine up_mk rfl ?_
      refine s_run rfl rfl (r_lo H 2 rfl rfl (frC_get hlt) ag25) ?_
      refine k_nil ?_
      refine t_on trivial ?_
      refine t_up1 14 (by kernel_rfl) ?_
      refine up_mk rfl ?_
      refine s_apW (enc := (Value.int .i64)) H 1 rfl rfl rfl rfl ((hyS H 4 rfl)) (hyl) (fun _ => rfl) (by omega) Try.underlying25 inf3 rfl ?_
      intro A2 c2 _ H'; simp only [List.set_cons_zero, List.set_cons_succ, List.take_succ_cons, List.take_zero, List.drop_succ_cons, List.drop_zero, List.cons_append, List.nil_append, List.append_nil, List.length_cons, List.length_nil, Nat.reduceAdd] at H'; clear H; have H := H'; clear H'
      refine k_nil ?_
      refine t_on trivial ?_
      refine tqn 17 rfl rfl rfl (fun _ hS => r_ia0 (i := K) rfl rfl (by omega) (by omega) Try.underlying92 sz25) trivial ?_
      refine t_up1 18 (by kernel_rfl) ?_
      refine up_mk rfl ?_
      refine s_stC H 2 rfl rfl rfl rfl (frC_get hlt) (frC_set (r := ⟨A2, (F' (K * 5)).n + ry.n, c2, (F' (K * 5)).xs ++ ry.xs⟩) hlt) rfl sz25 ?_
      clear H; intro _ H; simp only [jA, jB, jC, jD, jE, jF, jG, jH, jI, jJ, jK, Nat.reduceAdd] at H
      refine k_nil ?_
      refine t_on trivial ?_
      refine t_done (by kernel_rfl) ?_
      refine k_met ?_
      exact ⟨A2, c2, rfl, rfl, rfl, rfl, H⟩
   ·refine up_mk rfl ?_
    refine s_run rfl rfl (r_la H 0 rfl rfl rfl ag97 sz97) ?_
    refine k_nil ?_
    refine t_on trivial ?_
    refine t_up2 7 11 (by kernel_rfl) ?_ ?_
    ·refine up_mk rfl ?_
     refine s_run rfl rfl (r_lo H 2 rfl rfl (frC_get hlt) ag25) ?_
     refine k_nil ?_
     refine t_on trivial ?_
     refine t_up1 11 (by kernel_rfl) ?_
     refine up_mk rfl ?_
     refine s_run rfl rfl (r_lo H 2 rfl rfl (frC_map _ b) ag93) ?_
     refine k_nil ?_
     refine t_on trivial ?_
     refine t_up1 13 (by kernel_rfl) ?_
     refine up_mk rfl ?_
     refine s_run rfl rfl (r_lkV H 3 rfl rfl rfl (gd) (hv) Try.underlying93 (zv_of inf25)) ?_
     refine k_nil ?_
     refine t_on trivial ?_
     refine t_up1 14 (by kernel_rfl) ?_
     refine up_mk rfl ?_
     refine s_apW (enc := (Value.int .i64)) H 1 rfl rfl rfl rfl ((hyS H 4 rfl)) (hyl) (fun _ => rfl) (by omega) Try.underlying25 inf3 rfl ?_
     intro A2 c2 _ H'; simp only [List.set_cons_zero, List.set_cons_succ, List.take_succ_cons, List.take_zero, List.drop_succ_cons, List.drop_zero, List.cons_append, List.nil_append, List.append_nil, List.length_cons, List.length_nil, Nat.reduceAdd] at H'; clear H; have H := H'; clear H'
     refine k_nil ?_
     refine t_on trivial ?_
     refine tqn 17 rfl rfl rfl (fun _ hS => r_ia0 (i := K) rfl rfl (by omega) (by omega) Try.underlying92 sz25) trivial ?_
     refine t_up1 18 (by kernel_rfl) ?_
     refine up_mk rfl ?_
     refine s_stC H 2 rfl rfl rfl rfl (frC_get hlt) (frC_set (r := ⟨A2, (F' (K * 5)).n + ry.n, c2, (F' (K * 5)).xs ++ ry.xs⟩) hlt) rfl sz25 ?_
     clear H; intro _ H; simp only [jA, jB, jC, jD, jE, jF, jG, jH, jI, jJ, jK, Nat.reduceAdd] at H
     refine k_nil ?_
     refine t_on trivial ?_
     refine t_done (by kernel_rfl) ?_
     refine k_met ?_
     exact ⟨A2, c2, rfl, rfl, rfl, rfl, H⟩
    ·refine up_mk rfl ?_
     refine s_run rfl rfl (r_lo H 2 rfl rfl (frC_map _ b) ag93) ?_
     refine k_nil ?_
     refine t_on trivial ?_
     refine t_up2 7 13 (by kernel_rfl) ?_ ?_
     ·refine up_mk rfl ?_
      refine s_run rfl rfl (r_lo H 2 rfl rfl (frC_get hlt) ag25) ?_
      refine k_nil ?_
      refine t_on trivial ?_
      refine t_up1 13 (by kernel_rfl) ?_
      refine up_mk rfl ?_
      refine s_run rfl rfl (r_lkV H 3 rfl rfl rfl (gd) (hv) Try.underlying93 (zv_of inf25)) ?_
      refine k_nil ?_
      refine t_on trivial ?_
      refine t_up1 14 (by kernel_rfl) ?_
      refine up_mk rfl ?_
      refine s_apW (enc := (Value.int .i64)) H 1 rfl rfl rfl rfl ((hyS H 4 rfl)) (hyl) (fun _ => rfl) (by omega) Try.underlying25 inf3 rfl ?_
      intro A2 c2 _ H'; simp only [List.set_cons_zero, List.set_cons_succ, List.take_succ_cons, List.take_zero, List.drop_succ_cons, List.drop_zero, List.cons_append, List.nil_append, List.append_nil, List.length_cons, List.length_nil, Nat.reduceAdd] at H'; clear H; have H := H'; clear H'
      refine k_nil ?_
      refine t_on trivial ?_
      refine tqn 17 rfl rfl rfl (fun _ hS => r_ia0 (i := K) rfl rfl (by omega) (by omega) Try.underlying92 sz25) trivial ?_
      refine t_up1 18 (by kernel_rfl) ?_
      refine up_mk rfl ?_
      refine s_stC H 2 rfl rfl rfl rfl (frC_get hlt) (frC_set (r := ⟨A2, (F' (K * 5)).n + ry.n, c2, (F' (K * 5)).xs ++ ry.xs⟩) hlt) rfl sz25 ?_
      clear H; intro _ H; simp only [jA, jB, jC, jD, jE, jF, jG, jH, jI, jJ, jK, Nat.reduceAdd] at H
      refine k_nil ?_
      refine t_on trivial ?_
      refine t_done (by kernel_rfl) ?_
      refine k_met ?_
      exact ⟨A2, c2, rfl, rfl, rfl, rfl, H⟩
     ·refine up_mk rfl ?_
      refine s_run rfl rfl (r_lkV H 3 rfl rfl rfl (gd) (hv) Try.underlying93 (zv_of inf25)) ?_
      refine k_nil ?_
      refine t_on trivial ?_
      refine t_up1 7 (by kernel_rfl) ?_
      refine up_mk rfl ?_
      refine s_run rfl rfl (r_lo H 2 rfl rfl (frC_get hlt) ag25) ?_
      refine k_nil ?_
      refine t_on trivial ?_
      refine t_up1 14 (by kernel_rfl) ?_
      refine up_mk rfl ?_
      refine s_apW (enc := (Value.int .i64)) H 1 rfl rfl rfl rfl ((hyS H 4 rfl)) (hyl) (fun _ => rfl) (by omega) Try.underlying25 inf3 rfl ?_
      intro A2 c2 _ H'; simp only [List.set_cons_zero, List.set_cons_succ, List.take_succ_cons, List.take_zero, List.drop_succ_cons, List.drop_zero, List.cons_append, List.nil_append, List.append_nil, List.length_cons, List.length_nil, Nat.reduceAdd] at H'; clear H; have H := H'; clear H'
      refine k_nil ?_
      refine t_on trivial ?_
      refine tqn 17 rfl rfl rfl (fun _ hS => r_ia0 (i := K) rfl rfl (by omega) (by omega) Try.underlying92 sz25) trivial ?_
      refine t_up1 18 (by kernel_rfl) ?_
      refine up_mk rfl ?_
      refine s_stC H 2 rfl rfl rfl rfl (frC_get hlt) (frC_set (r := ⟨A2, (F' (K * 5)).n + ry.n, c2, (F' (K * 5)).xs ++ ry.xs⟩) hlt) rfl sz25 ?_
      clear H; intro _ H; simp only [jA, jB, jC, jD, jE, jF, jG, jH, jI, jJ, jK, Nat.reduceAdd] at H
      refine k_nil ?_
      refine t_on trivial ?_
      refine t_done (by kernel_rfl) ?_
      refine k_met ?_
      exact ⟨A2, c2, rfl, rfl, rfl, rfl, H⟩
  ·clear H
   rintro f W ⟨A2, c2, f0, f1, f5, f6, H⟩
   obtain ⟨f, rfl⟩ := live4 f0 f1 f5 f6
   clear f0 f1 f5 f6
   refine c_norm ?_
   refine k_qt 5 mixed (by kernel_rfl) H rfl rfl ?_
   refine q_run rfl rfl (fun _ H => r_mv (v := .pointer _) rfl) ?_
   refine q_run rfl rfl (fun _ H => r_nc rfl) ?_
   refine q_run rfl rfl (fun _ H => r_fa0 rfl fo95_1) ?_
   refine q_run rfl rfl (fun _ H => r_lo H 2 rfl rfl (frC_map _ b) ag93) ?_
   refine q_run rfl rfl (fun _ H => r_la H 0 rfl rfl rfl ag97 sz97) ?_
   refine q_nil ?_
   intro _ H'; clear H; have H := H'; clear H'
   refine s_dl H 3 rfl rfl rfl rfl (gd) Try.underlying93 ?_
   clear H; intro _ H; simp only [jA, jB, jC, jD, jE, jF, jG, jH, jI, jJ, jK, Nat.reduceAdd] at H
   refine k_nil ?_
   refine b_norm ?_
   refine c_norm ?_
   refine k_rg ?_
   refine s_run rfl rfl (r_add rfl rfl (wI (by omega))) ?_
   refine s_run rfl rfl (rmi rfl) ?_
   refine k_nil ?_
   refine c_round ?_
   obtain ⟨F'', l'', hq2, H2⟩ := drain_fin hq hlt hok.len hry.symm H.drop hnd
   refine ⟨_, _, ?_, rfl, K + 1, F'', l'', by omega, rfl, hq2, rfl, rfl, rfl, H2⟩
   omega
 ·obtain rfl : K = 32 := by omega
  refine k_sg ?_
  refine s_run rfl rfl (r_lssF rfl rfl (by omega)) ?_
  refine k_nc ?_
  refine k_seq ?_
  refine k_f rfl ?_
  refine k_exit ?_
  refine c_exit ?_
  refine c_exit ?_
  refine b_hit ?_
  refine fin0  rfl ?_
  exact ⟨rfl, F', l', by rw [hI]; exact H, hq.ok, hq.xs⟩
end
end Go.Proofs.Ytlakbclnilakbaa
end
