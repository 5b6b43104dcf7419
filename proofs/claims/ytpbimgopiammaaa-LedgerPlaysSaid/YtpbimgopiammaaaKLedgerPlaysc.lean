/- Parts of the proof, one behind the other. -/
import Derived.Test.YtpbimgopiammaaaKLedgerPlaysb
set_option linter.unusedSimpArgs false
set_option linter.unusedVariables false
set_option linter.unusedSectionVars false
section
namespace Go.Proofs.Ytpbimgopiammaaa
open Go.RowKit
set_option maxRecDepth 100000
set_option maxHeartbeats 4000000
def newQ (qs : List Int) (k : Int) : Int := if k.toNat < qs.length then max (qs.getD k.toNat 0) (-1) else -1
def ldNew (qs : List Int) : LdS := ⟨[], newQ qs, fun _ => 0, fun _ => 0, fun _ => 0⟩
theorem ldC_q {b : Nat} {q q' h pk tk : Int → Int} (hq : ∀ k : Nat, k < 4 → q k = q' k) : ldC b q h pk tk = ldC b q' h pk tk := by
 have h0 := hq 0 (by omega)
 have h1 := hq 1 (by omega)
 have h2 := hq 2 (by omega)
 have h3 := hq 3 (by omega)
 simp only [Int.ofNat_eq_natCast, Int.cast_ofNat_Int] at h0 h1 h2 h3
 unfold ldC
 rw [show q 0 = q' 0 from h0, show q 1 = q' 1 from h1, show q 2 = q' 2 from h2, show q 3 = q' 3 from h3]
theorem ldNew_ok (qs : List Int) (hb : ∀ x ∈ qs, wfI x) : LdOk 0 (ldNew qs) := by
 refine ⟨by simp [ldNew], by simp [ldNew], by simp [ldNew], fun m _ _ => rfl, fun m _ _ => ?_, fun m _ _ => ?_, fun m _ _ => ?_⟩
 ·show -1 ≤ newQ qs m ∧ newQ qs m ≤ _ ∧ (0 ≤ newQ qs m → (0 : Int) ≤ newQ qs m ∧ (0 : Int) ≤ newQ qs m)
  refine ⟨?_, ?_, fun h => ⟨h, h⟩⟩
  ·unfold newQ; split <;> omega
  ·unfold newQ
   split
   ·rename_i hl
    have : wfI (qs.getD m.toNat 0) := hb _ (by
     rw [List.getD_eq_getElem?_getD, List.getElem?_eq_getElem hl]; exact List.getElem_mem hl)
    have := this.2
    omega
   ·omega
 ·exact ⟨Int.le_refl _, by show (0 : Int) ≤ _; omega⟩
 ·exact ⟨Int.le_refl _, by show (0 : Int) ≤ _; omega⟩
theorem oNewL (A : Option Addr) (n c : Nat) (qs : List Int) (w : World) (hS : Sees (Value.int .i64) w [] A qs) (hl : qs.length = n) (hn : n ≤ 1000000) :
  Calls Try.prog 9 [.slice A n c].toArray w fun e w' => ∃ p b, e = .returned (ptrL p) ∧ Heap w [] (ldE p b (ldNew qs)) w' := by
 have H := Heap.nil w
 refine k_in (N := 32) Try.func9 rfl rfl rfl ?_
 refine k_sg ?_
 refine s_run rfl rfl (rap rfl) ?_
 refine k_nc ?_
 refine k_sg ?_
 refine s_mm kE (Value.int .i64) H rfl ?_
 intro b1 _ H'; clear H; have H := H'; clear H'
 refine s_run rfl rfl (r_bd (bd76_0 _) rfl) ?_
 refine s_box H rfl rfl ?_
 intro p7 _ H'; clear H; have H := H'; clear H'
 refine s_run rfl rfl (rap rfl) ?_
 refine k_nc ?_
 refine k_seq ?_
 refine k_sg ?_
 refine s_run rfl rfl (rmi rfl) ?_
 refine k_nc ?_
 refine k_b ?_
 refine k_loop (fun z f W => ∃ (i : Nat) (q : Int → Int), i ≤ 4 ∧ z = 4 - i ∧ (∀ k : Nat, k < i → q k = newQ qs k) ∧ f 0 = .slice A n c ∧ f 3 = ptrL p7 ∧ f 8 = .int .i64 i ∧ Heap w [] [blk p7 (ldC b1 q (fun _ => 0) (fun _ => 0) (fun _ => 0)) 76, mp kE (Value.int .i64) b1 []] W) 4 ⟨0, fun _ => 0, by omega, rfl, by omega, rfl, rfl, rfl, H⟩ ?_
 clear H
 rintro z f W ⟨i, q, hi, rfl, hq, f0, f3, f8, H⟩
 by_cases hlt : i < 4
 ·by_cases hin : i < n
  ·obtain ⟨x, hx⟩ : ∃ x, qs[i]? = some x := ⟨_, List.getElem?_eq_getElem (by omega)⟩
   obtain ⟨b, o, hA, _, hrd⟩ := hS (by omega)
   have hc := hrd i x hx
   have hnq : newQ qs (i : Int) = max x (-1) := by
    unfold newQ
    rw [Int.toNat_natCast, if_pos (by omega), List.getD_eq_getElem?_getD, hx]; rfl
   rw [hA] at f0
   obtain ⟨f, rfl⟩ := live3 f0 f3 f8
   clear f0 f3 f8
   refine k_sg ?_
   refine s_run rfl rfl (r_lssT rfl rfl (by omega)) ?_
   refine k_nc ?_
   refine k_seq ?_
   refine k_t rfl ?_
   refine k_skip ?_
   refine c_norm ?_
   refine k_seq ?_
   refine k_b ?_
   refine k_sg ?_
   refine s_run rfl rfl (rmi rfl) ?_
   refine s_run rfl rfl (rai rfl) ?_
   refine k_nc ?_
   refine k_sg ?_
   refine s_run rfl rfl (rmp rfl) ?_
   refine s_run rfl rfl (rmi rfl) ?_
   refine s_run rfl rfl (r_nc rfl) ?_
   refine s_run rfl rfl (r_fa0 rfl fo76_1) ?_
   refine s_run rfl rfl (r_ia1 (i := i) rfl rfl (by omega) (by omega) Try.underlying29 sz3) ?_
   refine s_stC H 0 rfl rfl rfl rfl (gq hlt) (sq hlt) rfl sz3 ?_
   clear H; intro _ H; simp only [jA, jB, jC, jD, jE, jF, jG, jH, jI, jJ, jK, Nat.reduceAdd] at H
   refine k_nc ?_
   refine k_sg ?_
   refine s_run rfl rfl (rmi rfl) ?_
   refine s_run rfl rfl (rms rfl) ?_
   refine s_run rfl rfl (r_len rfl Try.underlying22) ?_
   refine s_run rfl rfl (r_lssT rfl rfl (by omega)) ?_
   refine k_nc ?_
   refine k_t rfl ?_
   refine k_qt 10 mixed (by kernel_rfl) H rfl rfl ?_
   refine q_run rfl rfl (fun _ H => r_mv (v := .pointer _) rfl) ?_
   refine q_run rfl rfl (fun _ H => r_mv (v := .int _ _) rfl) ?_
   refine q_run rfl rfl (fun _ H => r_mv (v := .slice _ _ _) rfl) ?_
   refine q_run rfl rfl (fun _ H => r_mv (v := .int _ _) rfl) ?_
   refine q_run rfl rfl (fun _ H => r_ix1o (i := i) rfl rfl (by omega) (by omega) Try.underlying22 sz3) ?_
   refine q_run rfl rfl (fun _ H => r_lr H rfl hc (by simp) ag3) ?_
   refine q_run rfl rfl (fun _ H => r_max rfl rfl (imax _ _)) ?_
   refine q_run rfl rfl (fun _ H => r_nc rfl) ?_
   refine q_run rfl rfl (fun _ H => r_fa0 rfl fo76_1) ?_
   refine q_run rfl rfl (fun _ H => r_ia1 (i := i) rfl rfl (by omega) (by omega) Try.underlying29 sz3) ?_
   refine q_nil ?_
   intro _ H'; clear H; have H := H'; clear H'
   refine s_stC H 0 rfl rfl rfl rfl (gq hlt) (sq hlt) rfl sz3 ?_
   clear H; intro _ H; simp only [jA, jB, jC, jD, jE, jF, jG, jH, jI, jJ, jK, Nat.reduceAdd] at H
   refine k_nil ?_
   refine b_norm ?_
   refine c_norm ?_
   refine k_rg ?_
   refine s_run rfl rfl (r_add rfl rfl (wI (by omega))) ?_
   refine s_run rfl rfl (rmi rfl) ?_
   refine k_nil ?_
   refine c_round ?_
   refine ⟨_, _, ?_, rfl, i + 1, _, by omega, rfl, fun k hk => ?_, by rw [hA]; rfl, rfl, rfl, H⟩
   ·omega
   ·by_cases e : k = i
    ·subst e; rw [upI_at, hnq]
    ·rw [upI_off _ _ (by omega), upI_off _ _ (by omega)]; exact hq k (by omega)
  ·have hnq : newQ qs (i : Int) = -1 := by
    unfold newQ
    rw [Int.toNat_natCast, if_neg (by omega)]
   obtain ⟨f, rfl⟩ := live3 f0 f3 f8
   clear f0 f3 f8
   refine k_sg ?_
   refine s_run rfl rfl (r_lssT rfl rfl (by omega)) ?_
   refine k_nc ?_
   refine k_seq ?_
   refine k_t rfl ?_
   refine k_skip ?_
   refine c_norm ?_
   refine k_seq ?_
   refine k_b ?_
   refine k_sg ?_
   refine s_run rfl rfl (rmi rfl) ?_
   refine s_run rfl rfl (rai rfl) ?_
   refine k_nc ?_
   refine k_sg ?_
   refine s_run rfl rfl (rmp rfl) ?_
   refine s_run rfl rfl (rmi rfl) ?_
   refine s_run rfl rfl (r_nc rfl) ?_
   refine s_run rfl rfl (r_fa0 rfl fo76_1) ?_
   refine s_run rfl rfl (r_ia1 (i := i) rfl rfl (by omega) (by omega) Try.underlying29 sz3) ?_
   refine s_stC H 0 rfl rfl rfl rfl (gq hlt) (sq hlt) rfl sz3 ?_
   clear H; intro _ H; simp only [jA, jB, jC, jD, jE, jF, jG, jH, jI, jJ, jK, Nat.reduceAdd] at H
   refine k_nc ?_
   refine k_sg ?_
   refine s_run rfl rfl (rmi rfl) ?_
   refine s_run rfl rfl (rms rfl) ?_
   refine s_run rfl rfl (r_len rfl Try.underlying22) ?_
   refine s_run rfl rfl (r_lssF rfl rfl (by omega)) ?_
   refine k_nc ?_
   refine k_f rfl ?_
   refine k_skip ?_
   refine b_norm ?_
   refine c_norm ?_
   refine k_rg ?_
   refine s_run rfl rfl (r_add rfl rfl (wI (by omega))) ?_
   refine s_run rfl rfl (rmi rfl) ?_
   refine k_nil ?_
   refine c_round ?_
   refine ⟨_, _, ?_, rfl, i + 1, _, by omega, rfl, fun k hk => ?_, rfl, rfl, rfl, H⟩
   ·omega
   ·by_cases e : k = i
    ·subst e; rw [upI_at, hnq]
    ·rw [upI_off _ _ (by omega)]; exact hq k (by omega)
 ·obtain rfl : i = 4 := by omega
  obtain ⟨f, rfl⟩ := live3 f0 f3 f8
  clear f0 f3 f8
  rw [ldC_q hq] at H
  refine k_sg ?_
  refine s_run rfl rfl (r_lssF rfl rfl (by omega)) ?_
  refine k_nc ?_
  refine k_seq ?_
  refine k_f rfl ?_
  refine k_exit ?_
  refine c_exit ?_
  refine c_exit ?_
  refine b_hit ?_
  refine c_norm ?_
  refine k_sg ?_
  refine s_run rfl rfl (rmp rfl) ?_
  refine s_run rfl rfl (rap rfl) ?_
  refine k_nc ?_
  refine k_ret ?_
  refine fin1r (v := .pointer _) rfl rfl ?_
  exact ⟨p7, b1, rfl, H⟩
def atsOf (L : LdL) (m : Int) : List Int := (L.filter fun x => decide (x.1.1 = m)).map fun x => x.1.2
theorem atsOf_len (L : LdL) (m : Int) : (atsOf L m).length ≤ L.length := by
 unfold atsOf; rw [List.length_map]; exact List.length_filter_le _ _
theorem atsOf_cons (x : (Int × Int) × Int) (L : LdL) (m : Int) : atsOf (x :: L) m = (if x.1.1 = m then [x.1.2] else []) ++ atsOf L m := by
 unfold atsOf
 by_cases h : x.1.1 = m
 ·rw [List.filter_cons_of_pos (by simpa using h), if_pos h]; rfl
 ·rw [List.filter_cons_of_neg (by simpa using h), if_neg h]; rfl
theorem atsOf_perm {L L' : LdL} (h : L.Perm L') (m : Int) : (atsOf L m).Perm (atsOf L' m) := (h.filter _).map _
theorem oAllL (p b : Nat) (s : LdS) (m : Int) (w : World) (hE : Ents (ldE p b s) w) (hl : s.L.length ≤ 1000) :
  Calls Try.prog 52 [ptrL p, .int .i64 m].toArray w fun e w' => ∃ A' c', e = .returned (.slice A' (atsOf s.L m).length c') ∧ Heap w [] [ownN 1 (.slice A' (atsOf s.L m).length c') (atsOf s.L m).length ((srt (atsOf s.L m)).map (Value.int .i64)) 3] w' := by
 have HR := Heap.start hE
 obtain ⟨es, clock, M⟩ := hE.map_at 1 rfl
 have H := Heap.nil w
 unfold ldE at HR
 refine k_in (N := 28) Try.func52 rfl rfl rfl ?_
 refine k_sg ?_
 refine s_run rfl rfl (ras rfl) ?_
 refine k_nc ?_
 refine k_sg ?_
 refine s_run rfl rfl (ras rfl) ?_
 refine k_nc ?_
 refine k_seq ?_
 refine k_sg ?_
 refine s_run rfl rfl (rmp rfl) ?_
 refine s_run rfl rfl (r_nc rfl) ?_
 refine s_run rfl rfl (r_fa0 rfl fo76_0) ?_
 refine s_run rfl rfl (r_lo (HR.same H.only) 0 rfl rfl rfl ag74) ?_
 refine s_rmR M H rfl rfl Try.underlying74 ?_
 intro r _ H'; clear H; have H := H'; clear H'
 refine k_nc ?_
 refine k_b ?_
 replace H := H.own_nil 1 3
 refine k_loop (fun z f W => ∃ (lb : List (((Int × Int) × Int) × Bool)) (cur : Option ((Int × Int) × Int)) (OA : Option Addr) (co : Nat) (out : List Int), z = (mleft lb).length ∧ lb.map (·.1) = s.L ∧ (out ++ atsOf (mleft lb) m).Perm (atsOf s.L m) ∧ f 1 = .int .i64 m ∧ f 5 = .slice OA out.length co ∧ f 11 = ptrL r ∧ Heap w [] [ownN 1 (.slice OA out.length co) out.length (out.map (Value.int .i64)) 3, mri kE (Value.int .i64) es clock b r lb cur] W) _ ⟨s.L.map fun p => (p, true), none, none, 0, [], rfl, by rw [List.map_map]; exact List.map_id' _, by rw [mleft_all]; exact List.Perm.refl _, rfl, rfl, rfl, H⟩ ?_
 clear H
 rintro z f W ⟨lb, cur, OA, co, out, rfl, hlb, hpm, f1, f5, f11, H⟩
 have hol : out.length ≤ 1000 := by
  have h1 := hpm.length_eq; have h2 := atsOf_len s.L m; rw [List.length_append] at h1; omega
 obtain ⟨f, rfl⟩ := live3 f1 f5 f11
 clear f1 f5 f11
 by_cases hlf : mleft lb = []
 ·refine k_sg ?_
  refine s_nx0R M H 1 (hlf) rfl rfl rfl ?_
  refine s_run rfl rfl (r_ext (v := .bool _) rfl rfl) ?_
  refine k_nc ?_
  refine k_seq ?_
  refine k_f rfl ?_
  refine k_exit ?_
  refine c_exit ?_
  refine c_exit ?_
  refine b_hit ?_
  refine c_norm ?_
  refine k_seq ?_
  rw [hlf, show atsOf [] m = [] from rfl, List.append_nil] at hpm
  have hlen : out.length = (atsOf s.L m).length := hpm.length_eq
  have hS := fun {W : World} hE => gSort OA out.length co out 3 W hE (by omega)
  refine k_rg ?_
  refine s_run rfl rfl (rms rfl) ?_
  refine s_call rfl (hS (Heap.part (A := [_]) H)) (ca43 rfl) ?_
  rintro e W1 ⟨rfl, H'⟩
  refine ⟨_, rfl, ?_⟩
  have H := H.at 0 rfl H' (fun i hi => by simpa [ids] using hi); clear H'
  refine k_nc ?_
  refine k_sg ?_
  refine s_run rfl rfl (rms rfl) ?_
  refine s_run rfl rfl (ras rfl) ?_
  refine k_nc ?_
  refine k_ret ?_
  refine fin1r (v := .slice _ _ _) rfl rfl ?_
  rw [srt_eq hpm] at H
  rw [hlen] at H
  exact ⟨OA, co, by rw [hlen], (H : Heap w [] ([_] ++ [_]) _).drops⟩
 ·refine k_sg ?_
  refine s_nx1R M H 1 (hlf) rfl rfl rfl ?_
  intro j q _ hq gq H'; simp only [List.set_cons_zero, List.set_cons_succ, List.take_succ_cons, List.take_zero, List.drop_succ_cons, List.drop_zero, List.cons_append, List.nil_append, List.append_nil, List.length_cons, List.length_nil, Nat.reduceAdd] at H'; clear H; have H := H'; clear H'
  refine s_run rfl rfl (r_ext (v := .bool _) rfl rfl) ?_
  refine k_nc ?_
  refine k_seq ?_
  refine k_t rfl ?_
  refine k_skip ?_
  refine c_norm ?_
  refine k_b ?_
  refine k_sg ?_
  refine s_run rfl rfl (r_enR M H 1 rfl rfl) ?_
  refine s_run rfl rfl (r_ext (v := .agg _) rfl rfl) ?_
  refine s_al H rfl inf86 ?_
  intro p6 _ H'; clear H; have H := H'; clear H'
  refine s_sw H 0 rfl rfl rfl rfl rfl rfl rfl sz86 ?_
  clear H; intro _ H; simp only [jA, jB, jC, jD, jE, jF, jG, jH, jI, jJ, jK, Nat.reduceAdd] at H
  refine k_nc ?_
  refine k_seq ?_
  have hfs : (lb.set j (q, false)).map (·.1) = lb.map (·.1) := mset_fstG hq
  have hml := (mleft_set lb j q hq).length_eq
  have hp := (mleft_set lb j q hq)
  have hp2 := atsOf_perm hp m
  rw [atsOf_cons] at hp2
  rw [List.length_cons] at hml
  by_cases hm : q.1.1 = m
  ·rw [if_pos hm] at hp2
   refine k_rg ?_
   refine s_run rfl rfl (r_fa0 rfl fo86_0) ?_
   refine s_run rfl rfl (r_lo H 0 rfl rfl rfl ag3) ?_
   refine s_run rfl rfl (rmi rfl) ?_
   refine s_run rfl rfl (r_eqlT rfl rfl (by omega)) ?_
   refine k_nc ?_
   refine k_t rfl ?_
   refine k_rg ?_
   refine s_run rfl rfl (rms rfl) ?_
   refine s_run rfl rfl (r_fa0 rfl fo86_1) ?_
   refine s_run rfl rfl (r_lo H 0 rfl rfl rfl ag3) ?_
   refine s_app1 (enc := (Value.int .i64)) H 1 rfl rfl rfl rfl rfl rfl rfl (by omega) Try.underlying22 inf3 rfl ?_
   intro _ An cn _ H'; simp only [List.set_cons_zero, List.set_cons_succ, List.take_succ_cons, List.take_zero, List.drop_succ_cons, List.drop_zero, List.cons_append, List.nil_append, List.append_nil, List.length_cons, List.length_nil, Nat.reduceAdd] at H'; clear H; have H := H'; clear H'
   refine s_run rfl rfl (ras rfl) ?_
   refine k_nil ?_
   refine b_norm ?_
   refine c_round ?_
   refine ⟨_, _, ?_, rfl, lb.set j (q, false), some q, An, cn, out ++ [q.1.2], rfl, by rw [hfs]; exact hlb, ?_, rfl, by rw [List.length_append]; rfl, rfl, by rw [List.length_append]; exact H.drop⟩
   ·omega
   ·rw [List.append_assoc]
    exact (List.Perm.append_left out hp2.symm).trans hpm
  ·rw [if_neg hm, List.nil_append] at hp2
   refine k_rg ?_
   refine s_run rfl rfl (r_fa0 rfl fo86_0) ?_
   refine s_run rfl rfl (r_lo H 0 rfl rfl rfl ag3) ?_
   refine s_run rfl rfl (rmi rfl) ?_
   refine s_run rfl rfl (r_eqlF rfl rfl (by omega)) ?_
   refine k_nc ?_
   refine k_f rfl ?_
   refine k_skip ?_
   refine b_norm ?_
   refine c_round ?_
   refine ⟨_, _, ?_, rfl, lb.set j (q, false), some q, OA, co, out, rfl, by rw [hfs]; exact hlb, ?_, rfl, rfl, rfl, H.drop⟩
   ·omega
   ·exact (List.Perm.append_left out hp2.symm).trans hpm
end Go.Proofs.Ytpbimgopiammaaa
end

section
namespace Go.Proofs.Ytpbimgopiammaaa
open Go.RowKit
set_option maxRecDepth 100000
set_option maxHeartbeats 4000000
def ownersTo (L : LdL) (a : Int) (n : Nat) : List Int := ((List.range n).filter fun (k : Nat) => (mget L ((k : Int), a)).isSome).map fun (k : Nat) => (k : Int)
theorem ownersTo_succ (L : LdL) (a : Int) (n : Nat) : ownersTo L a (n + 1) = ownersTo L a n ++ (if (mget L ((n : Int), a)).isSome = true then [(n : Int)] else []) := by
 unfold ownersTo
 rw [List.range_succ, List.filter_append, List.map_append]
 congr 1
 by_cases h : (mget L ((n : Int), a)).isSome = true
 ·simp [h]
 ·simp [h]
theorem ownersTo_len (L : LdL) (a : Int) (n : Nat) : (ownersTo L a n).length ≤ n := by
 unfold ownersTo
 rw [List.length_map]
 have := List.length_filter_le (fun (k : Nat) => (mget L ((k : Int), a)).isSome) (List.range n)
 rwa [List.length_range] at this
theorem oOwners (p b : Nat) (s : LdS) (a : Int) (w : World) (hE : Ents (ldE p b s) w) (ha : wfI a) :
  Calls Try.prog 33 [ptrL p, .int .i64 a].toArray w fun e w' => ∃ A' c', e = .returned (.slice A' (ownersTo s.L a 4).length c') ∧ Heap w [] [ownN 1 (.slice A' (ownersTo s.L a 4).length c') (ownersTo s.L a 4).length ((ownersTo s.L a 4).map (Value.int .i64)) 3] w' := by
 have HR := Heap.start hE
 have H := Heap.nil w
 unfold ldE at HR
 refine k_in (N := 30) Try.func33 rfl rfl rfl ?_
 refine k_sg ?_
 refine s_run rfl rfl (ras rfl) ?_
 refine k_nc ?_
 refine k_sg ?_
 refine s_run rfl rfl (ras rfl) ?_
 refine k_nc ?_
 refine k_seq ?_
 refine k_sg ?_
 refine s_run rfl rfl (rmi rfl) ?_
 refine k_nc ?_
 refine k_b ?_
 replace H := H.own_nil 1 3
 refine k_loop (fun z f W => ∃ (i : Nat) (OA : Option Addr) (co : Nat) (out : List Int), i ≤ 4 ∧ z = 4 - i ∧ out = ownersTo s.L a i ∧ f 0 = ptrL p ∧ f 1 = .int .i64 a ∧ f 5 = .slice OA out.length co ∧ f 9 = .int .i64 i ∧ Heap w [] [ownN 1 (.slice OA out.length co) out.length (out.map (Value.int .i64)) 3] W) 4 ⟨0, none, 0, [], by omega, rfl, rfl, rfl, rfl, rfl, rfl, H⟩ ?_
 clear H
 rintro z f W ⟨i, OA, co, out, hi, rfl, ho, f0, f1, f5, f9, H⟩
 have hol := ownersTo_len s.L a i
 rw [← ho] at hol
 by_cases hlt : i < 4
 ·have gd : kE.Gd ((i : Int), a) := gdE ⟨by omega, by omega⟩ ha
  have hst := ownersTo_succ s.L a i
  rw [← ho] at hst
  obtain ⟨f, rfl⟩ := live4 f0 f1 f5 f9
  clear f0 f1 f5 f9
  cases hg : mget s.L ((i : Int), a) with
  | some v =>
   rw [hg, if_pos (show (some v).isSome = true from rfl)] at hst
   refine k_sg ?_
   refine s_run rfl rfl (r_lssT rfl rfl (by omega)) ?_
   refine k_nc ?_
   refine k_seq ?_
   refine k_t rfl ?_
   refine k_skip ?_
   refine c_norm ?_
   refine k_seq ?_
   refine k_b ?_
   refine k_sg ?_
   refine s_run rfl rfl (rmi rfl) ?_
   refine s_run rfl rfl (rai rfl) ?_
   refine k_nc ?_
   refine k_sg ?_
   refine s_run rfl rfl (rmp rfl) ?_
   refine s_run rfl rfl (r_nc rfl) ?_
   refine s_run rfl rfl (r_fa0 rfl fo76_0) ?_
   refine s_run rfl rfl (r_lo (HR.same H.only) 0 rfl rfl rfl ag74) ?_
   refine s_run rfl rfl (rmi rfl) ?_
   refine s_run rfl rfl (rmi rfl) ?_
   refine s_run rfl rfl (r_bd (bd86_0_1 _ _) rfl) ?_
   refine s_run rfl rfl (r_loS (HR.same H.only) 1 rfl rfl rfl (gd) (hg) Try.underlying74 (zv_of inf3) rfl) ?_
   refine s_run rfl rfl (rmt rfl) ?_
   refine s_run rfl rfl (r_ext (v := .int _ _) rfl rfl) ?_
   refine s_run rfl rfl (r_ext (v := .bool _) rfl rfl) ?_
   refine s_run rfl rfl (rai rfl) ?_
   refine s_run rfl rfl (rab rfl) ?_
   refine k_nc ?_
   refine k_sg ?_
   refine s_run rfl rfl (rmb rfl) ?_
   refine k_nc ?_
   refine k_t rfl ?_
   refine k_rg ?_
   refine s_run rfl rfl (rms rfl) ?_
   refine s_run rfl rfl (rmi rfl) ?_
   refine s_app1 (enc := (Value.int .i64)) H 0 rfl rfl rfl rfl rfl rfl rfl (by omega) Try.underlying22 inf3 rfl ?_
   intro _ An cn _ H'; simp only [List.set_cons_zero, List.set_cons_succ, List.take_succ_cons, List.take_zero, List.drop_succ_cons, List.drop_zero, List.cons_append, List.nil_append, List.append_nil, List.length_cons, List.length_nil, Nat.reduceAdd] at H'; clear H; have H := H'; clear H'
   refine s_run rfl rfl (ras rfl) ?_
   refine k_nil ?_
   refine b_norm ?_
   refine c_norm ?_
   refine k_rg ?_
   refine s_run rfl rfl (r_add rfl rfl (wI (by omega))) ?_
   refine s_run rfl rfl (rmi rfl) ?_
   refine k_nil ?_
   refine c_round ?_
   refine ⟨_, _, ?_, rfl, i + 1, An, cn, out ++ [(i : Int)], by omega, rfl, hst.symm, rfl, rfl, by rw [List.length_append]; rfl, rfl, by rw [List.length_append]; exact H⟩
   omega
  | none =>
   rw [hg, if_neg (show ¬ (none : Option Int).isSome = true by simp), List.append_nil] at hst
   refine k_sg ?_
   refine s_run rfl rfl (r_lssT rfl rfl (by omega)) ?_
   refine k_nc ?_
   refine k_seq ?_
   refine k_t rfl ?_
   refine k_skip ?_
   refine c_norm ?_
   refine k_seq ?_
   refine k_b ?_
   refine k_sg ?_
   refine s_run rfl rfl (rmi rfl) ?_
   refine s_run rfl rfl (rai rfl) ?_
   refine k_nc ?_
   refine k_sg ?_
   refine s_run rfl rfl (rmp rfl) ?_
   refine s_run rfl rfl (r_nc rfl) ?_
   refine s_run rfl rfl (r_fa0 rfl fo76_0) ?_
   refine s_run rfl rfl (r_lo (HR.same H.only) 0 rfl rfl rfl ag74) ?_
   refine s_run rfl rfl (rmi rfl) ?_
   refine s_run rfl rfl (rmi rfl) ?_
   refine s_run rfl rfl (r_bd (bd86_0_1 _ _) rfl) ?_
   refine s_run rfl rfl (r_loN (HR.same H.only) 1 rfl rfl rfl (gd) (hg) Try.underlying74 (zv_of inf3)) ?_
   refine s_run rfl rfl (rmt rfl) ?_
   refine s_run rfl rfl (r_ext (v := .int _ _) rfl rfl) ?_
   refine s_run rfl rfl (r_ext (v := .bool _) rfl rfl) ?_
   refine s_run rfl rfl (rai rfl) ?_
   refine s_run rfl rfl (rab rfl) ?_
   refine k_nc ?_
   refine k_sg ?_
   refine s_run rfl rfl (rmb rfl) ?_
   refine k_nc ?_
   refine k_f rfl ?_
   refine k_skip ?_
   refine b_norm ?_
   refine c_norm ?_
   refine k_rg ?_
   refine s_run rfl rfl (r_add rfl rfl (wI (by omega))) ?_
   refine s_run rfl rfl (rmi rfl) ?_
   refine k_nil ?_
   refine c_round ?_
   refine ⟨_, _, ?_, rfl, i + 1, OA, co, out, by omega, rfl, hst.symm, rfl, rfl, rfl, rfl, H⟩
   omega
 ·obtain rfl : i = 4 := by omega
  subst ho
  obtain ⟨f, rfl⟩ := live4 f0 f1 f5 f9
  clear f0 f1 f5 f9
  refine k_sg ?_
  refine s_run rfl rfl (r_lssF rfl rfl (by omega)) ?_
  refine k_nc ?_
  refine k_seq ?_
  refine k_f rfl ?_
  refine k_exit ?_
  refine c_exit ?_
  refine c_exit ?_
  refine b_hit ?_
  refine c_norm ?_
  refine k_sg ?_
  refine s_run rfl rfl (rms rfl) ?_
  refine s_run rfl rfl (ras rfl) ?_
  refine k_nc ?_
  refine k_ret ?_
  refine fin1r (v := .slice _ _ _) rfl rfl ?_
  exact ⟨OA, co, rfl, H⟩
theorem oTotal (p b : Nat) (s : LdS) (N : Nat) (w : World) (hE : Ents (ldE p b s) w) (hok : LdOk N s) (hN : N ≤ 1000) :
  Calls Try.prog 13 [ptrL p].toArray w fun e w' => e = .returned (.int .i64 (s.h 0 + s.h 1 + s.h 2 + s.h 3)) ∧ Only [] w w' := by
 have HR := Heap.start hE
 have H := Heap.nil w
 have b0 := hok.bd 0 (by omega) (by omega)
 have b1 := hok.bd 1 (by omega) (by omega)
 have b2 := hok.bd 2 (by omega) (by omega)
 have b3 := hok.bd 3 (by omega) (by omega)
 unfold ldE at HR
 refine k_in (N := 18) Try.func13 rfl rfl rfl ?_
 refine k_sg ?_
 refine s_run rfl rfl (rai rfl) ?_
 refine k_nc ?_
 refine k_sg ?_
 refine s_run rfl rfl (rai rfl) ?_
 refine k_nc ?_
 refine k_seq ?_
 refine k_sg ?_
 refine s_run rfl rfl (rmp rfl) ?_
 refine s_run rfl rfl (r_nc rfl) ?_
 refine s_run rfl rfl (r_fa0 rfl fo76_2) ?_
 refine s_run rfl rfl (r_lp (HR.same H.only) 0 rfl rfl (vs := [.int .i64 (s.h 0), .int .i64 (s.h 1), .int .i64 (s.h 2), .int .i64 (s.h 3)]) rfl rfl ag29 sz29) ?_
 refine s_run rfl rfl (rmi rfl) ?_
 refine k_nc ?_
 refine k_b ?_
 refine k_loop (fun z f W => ∃ (i : Nat) (t : Int), i ≤ 4 ∧ z = 4 - i ∧ t = (if 0 < i then s.h 0 else 0) + (if 1 < i then s.h 1 else 0) + (if 2 < i then s.h 2 else 0) + (if 3 < i then s.h 3 else 0) ∧ f 3 = .int .i64 t ∧ f 9 = .agg [.int .i64 (s.h 0), .int .i64 (s.h 1), .int .i64 (s.h 2), .int .i64 (s.h 3)].toArray ∧ f 10 = .int .i64 i ∧ Heap w [] [] W) 4 ⟨0, 0, by omega, rfl, rfl, rfl, rfl, rfl, H⟩ ?_
 clear H
 rintro z f W ⟨i, t, hi, rfl, ht, f3, f9, f10, H⟩
 by_cases hlt : i < 4
 ·have hv : ([.int .i64 (s.h 0), .int .i64 (s.h 1), .int .i64 (s.h 2), .int .i64 (s.h 3)] : List Value)[i]? = some (.int .i64 (s.h (i : Int))) := by
   rcases (by omega : i = 0 ∨ i = 1 ∨ i = 2 ∨ i = 3) with rfl | rfl | rfl | rfl <;> rfl
  have hst : (if 0 < i + 1 then s.h 0 else 0) + (if 1 < i + 1 then s.h 1 else 0) + (if 2 < i + 1 then s.h 2 else 0) + (if 3 < i + 1 then s.h 3 else 0) = t + s.h (i : Int) ∧ 0 ≤ t ∧ t ≤ 4 * (N * 1048576) ∧ 0 ≤ s.h (i : Int) ∧ s.h (i : Int) ≤ N * 1048576 := by
   rcases (by omega : i = 0 ∨ i = 1 ∨ i = 2 ∨ i = 3) with rfl | rfl | rfl | rfl
   ·subst ht; simp; omega
   ·subst ht; simp; omega
   ·subst ht; simp; omega
   ·subst ht; simp; omega
  obtain ⟨hs1, hs2, hs3, hs4, hs5⟩ := hst
  obtain ⟨f, rfl⟩ := live3 f3 f9 f10
  clear f3 f9 f10
  refine k_sg ?_
  refine s_run rfl rfl (r_lssT rfl rfl (by omega)) ?_
  refine k_nc ?_
  refine k_seq ?_
  refine k_t rfl ?_
  refine k_skip ?_
  refine c_norm ?_
  refine k_seq ?_
  refine k_b ?_
  refine k_sg ?_
  refine s_run rfl rfl (r_iv (i := i) (v := .int .i64 (s.h (i : Int))) rfl rfl rfl hlt hv Try.underlying29 sz3 ag3) ?_
  refine s_run rfl rfl (rai rfl) ?_
  refine k_nc ?_
  refine k_rg ?_
  refine s_run rfl rfl (rmi rfl) ?_
  refine s_run rfl rfl (rmi rfl) ?_
  refine s_run rfl rfl (r_add rfl rfl (wI (by omega))) ?_
  refine s_run rfl rfl (rai rfl) ?_
  refine k_nil ?_
  refine b_norm ?_
  refine c_norm ?_
  refine k_rg ?_
  refine s_run rfl rfl (r_add rfl rfl (wI (by omega))) ?_
  refine s_run rfl rfl (rmi rfl) ?_
  refine k_nil ?_
  refine c_round ?_
  refine ⟨_, _, ?_, rfl, i + 1, _, by omega, rfl, hs1.symm, rfl, rfl, rfl, H⟩
  omega
 ·obtain rfl : i = 4 := by omega
  simp only [Nat.reduceLT, if_true, show (0 : Nat) < 4 by omega, show (1 : Nat) < 4 by omega] at ht
  subst ht
  obtain ⟨f, rfl⟩ := live3 f3 f9 f10
  clear f3 f9 f10
  refine k_sg ?_
  refine s_run rfl rfl (r_lssF rfl rfl (by omega)) ?_
  refine k_nc ?_
  refine k_seq ?_
  refine k_f rfl ?_
  refine k_exit ?_
  refine c_exit ?_
  refine c_exit ?_
  refine b_hit ?_
  refine c_norm ?_
  refine k_sg ?_
  refine s_run rfl rfl (rmi rfl) ?_
  refine s_run rfl rfl (rai rfl) ?_
  refine k_nc ?_
  refine k_ret ?_
  refine fin1r (v := .int _ _) rfl rfl ?_
  exact ⟨rfl, H.only⟩
theorem sum2_erase : ∀ (L : LdL) (j : Nat) (p : (Int × Int) × Int), L[j]? = some p → sum2 (L.eraseIdx j) = sum2 L - p.2
 | [], j, p, h => by simp at h
 | x :: l, 0, p, h => by simp at h; subst h; rw [List.eraseIdx_cons_zero, sum2]; omega
 | x :: l, j + 1, p, h => by
  have := sum2_erase l j p (by simpa using h)
  rw [List.eraseIdx_cons_succ, sum2, sum2, this]; omega
theorem sum2_split (q : (Int × Int) × Int → Prop) [DecidablePred q] : ∀ L : LdL, sum2 (L.filter fun x => decide (q x)) + sum2 (L.filter fun x => decide (¬ q x)) = sum2 L
 | [] => rfl
 | x :: l => by
  have := sum2_split q l
  by_cases h : q x
  ·rw [List.filter_cons_of_pos (by simpa using h), List.filter_cons_of_neg (by simpa using h), sum2, sum2]; omega
  ·rw [List.filter_cons_of_neg (by simpa using h), List.filter_cons_of_pos (by simpa using h), sum2, sum2]; omega
theorem sum2_bd : ∀ (L : LdL), (∀ x ∈ L, 1 ≤ x.2 ∧ x.2 ≤ 1048576) → 0 ≤ sum2 L ∧ sum2 L ≤ L.length * 1048576
 | [], _ => by simp [sum2]
 | x :: l, h => by
  have h1 := sum2_bd l (fun y hy => h y (by simp [hy]))
  have h2 := h x (by simp)
  rw [sum2, List.length_cons]; omega
theorem bdelG {α β : Type} [DecidableEq α] (lb : List ((α × β) × Bool)) (a : α) : (lb.filter (fun x => decide (x.1.1 ≠ a))).map (·.1) = (lb.map (·.1)).filter (fun y => decide (y.1 ≠ a)) := by
 rw [List.filter_map]; rfl
end Go.Proofs.Ytpbimgopiammaaa
end

section
namespace Go.Proofs.Ytpbimgopiammaaa
open Go.RowKit
set_option maxRecDepth 100000
set_option maxHeartbeats 4000000
theorem mgetP_same {α β : Type} [DecidableEq α] : ∀ (l : List (α × β)) (a : α) (v : β), mget (mput l a v) a = some v
 | [], a, v => by simp [mput, mget]
 | p :: l, a, v => by
  unfold mput
  split
  ·simp [mget]
  ·rename_i h
   rw [mget, if_neg h]; exact mgetP_same l a v
theorem mgetP_other {α β : Type} [DecidableEq α] : ∀ (l : List (α × β)) (a b : α) (v : β), b ≠ a → mget (mput l a v) b = mget l b
 | [], a, b, v, h => by simp [mput, mget, Ne.symm h]
 | p :: l, a, b, v, h => by
  unfold mput
  split
  ·rename_i e
   subst e
   simp [mget, Ne.symm h]
  ·rw [mget, mget, mgetP_other l a b v h]
theorem iter_all {α β : Type} (l : List (α × β)) : (l.map fun p => (p, true)).map (fun x : (α × β) × Bool => x.1) = l := by rw [List.map_map]; exact List.map_id' l
theorem mleft_filter_leG {α β : Type} (q : (α × β) × Bool → Bool) : ∀ lb : List ((α × β) × Bool), (mleft (lb.filter q)).length ≤ (mleft lb).length := fun lb => by
 unfold mleft
 rw [List.length_map, List.length_map]
 exact (List.Sublist.filter _ List.filter_sublist).length_le
def inL (live : List Int) (x : (Int × Int) × Int) : Bool := decide (x.1.2 ∈ live)
theorem filter_erase1 {L : LdL} {j : Nat} {q : (Int × Int) × Int} (hd : (L.map Prod.fst).Nodup) (hj : L[j]? = some q) : L.filter (fun y => decide (y.1 ≠ q.1)) = L.eraseIdx j := by
 rw [← mdel_filter L q.1 hd]
 exact (m_some L j q hj hd).2.2
theorem erase_filter (live : List Int) : ∀ (L : LdL) (j : Nat) (q : (Int × Int) × Int), L[j]? = some q → inL live q = false → (L.eraseIdx j).filter (inL live) = L.filter (inL live)
 | [], j, q, h, _ => by simp at h
 | x :: l, 0, q, h, hq => by
  simp at h; subst h
  rw [List.eraseIdx_cons_zero, List.filter_cons_of_neg (by rw [hq]; simp)]
 | x :: l, j + 1, q, h, hq => by
  rw [List.eraseIdx_cons_succ, List.filter_cons, List.filter_cons, erase_filter live l j q (by simpa using h) hq]
theorem oSweep (p b : Nat) (s : LdS) (N : Nat) (A : Option Addr) (n c : Nat) (live : List Int) (w : World) (hE : Ents (ldE p b s) w) (hok : LdOk N s) (hN : N ≤ 1000) (hS : Sees (Value.int .i64) w (ids (ldE p b s)) A live) (hl : live.length = n) (hn : n ≤ 1000000) (hb : ∀ x ∈ live, wfI x) :
  Calls Try.prog 37 [ptrL p, .slice A n c].toArray w fun e w' => e = .returned (.int .i64 (s.sweep live).2) ∧ ∃ s', Heap w (ids (ldE p b s)) (ldE p b s') w' ∧ s'.L = (s.sweep live).1.L ∧ (∀ k : Nat, k < 4 → s'.h k = (s.sweep live).1.h k) ∧ s'.q = s.q ∧ s'.pk = s.pk ∧ s'.tk = s.tk := by
 have H := Heap.start hE
 unfold ldE at H
 obtain ⟨I, hI⟩ : ∃ I, ids (ldE p b s) = I := ⟨_, rfl⟩
 replace H : Heap w I [blk p (ldC b s.q s.h s.pk s.tk) 76, mp kE (Value.int .i64) b s.L] w := by rw [← hI]; exact H
 rw [hI] at hS
 rw [hI]
 refine k_in (N := 57) Try.func37 rfl rfl rfl ?_
 refine k_sg ?_
 refine s_run rfl rfl (rai rfl) ?_
 refine k_nc ?_
 refine k_sg ?_
 refine s_mm kI2 Value.bool H rfl ?_
 intro bk _ H'; clear H; have H := H'; clear H'
 refine s_run rfl rfl (r_as (v := .map _) rfl) ?_
 refine k_nc ?_
 refine k_seq ?_
 refine k_sg ?_
 refine s_run rfl rfl (rms rfl) ?_
 refine s_run rfl rfl (r_len rfl Try.underlying22) ?_
 refine s_run rfl rfl (rmi rfl) ?_
 refine k_nc ?_
 refine k_b ?_
 refine k_loop (fun z f W => ∃ (i : Nat) (K : List (Int × Bool)), i ≤ n ∧ z = n - i ∧ (∀ x, mget K x = if x ∈ live.take i then some true else none) ∧ f 0 = ptrL p ∧ f 5 = .map (some bk) ∧ f 12 = .slice A n c ∧ f 13 = .int .i64 n ∧ f 14 = .int .i64 i ∧ Heap w I [mp kI2 Value.bool bk K, blk p (ldC b s.q s.h s.pk s.tk) 76, mp kE (Value.int .i64) b s.L] W) n ⟨0, [], by omega, rfl, fun x => by simp [mget], rfl, rfl, rfl, rfl, rfl, H⟩ ?_
 clear H
 rintro z f W ⟨i, K, hi, rfl, hK, f0, f5, f12, f13, f14, H⟩
 by_cases hlt : i < n
 ·obtain ⟨x, hx⟩ : ∃ x, live[i]? = some x := ⟨_, List.getElem?_eq_getElem (by omega)⟩
  obtain ⟨bs, os, hA, hbn, hrd⟩ := hS (by omega)
  have hc := hrd i x hx
  have gx : kI2.Gd x := hb x (List.mem_of_getElem? hx)
  rw [hA] at f12
  obtain ⟨f, rfl⟩ := live5 f0 f5 f12 f13 f14
  clear f0 f5 f12 f13 f14
  refine k_sg ?_
  refine s_run rfl rfl (r_lssT rfl rfl (by omega)) ?_
  refine k_nc ?_
  refine k_seq ?_
  refine k_t rfl ?_
  refine k_skip ?_
  refine c_norm ?_
  refine k_seq ?_
  refine k_b ?_
  refine k_sg ?_
  refine s_run rfl rfl (r_ix1o (i := i) rfl rfl (by omega) (by omega) Try.underlying22 sz3) ?_
  refine s_run rfl rfl (r_lr H rfl hc hbn ag3) ?_
  refine s_run rfl rfl (rai rfl) ?_
  refine k_nc ?_
  refine k_rg ?_
  refine s_run rfl rfl (r_mv (v := .map _) rfl) ?_
  refine s_run rfl rfl (rmi rfl) ?_
  refine s_mu H 0 rfl rfl rfl rfl rfl (gx) Try.underlying88 ?_
  clear H; intro _ H; simp only [jA, jB, jC, jD, jE, jF, jG, jH, jI, jJ, jK, Nat.reduceAdd] at H
  refine k_nil ?_
  refine b_norm ?_
  refine c_norm ?_
  refine k_rg ?_
  refine s_run rfl rfl (r_add rfl rfl (wI (by omega))) ?_
  refine s_run rfl rfl (rmi rfl) ?_
  refine k_nil ?_
  refine c_round ?_
  refine ⟨_, _, ?_, rfl, i + 1, _, by omega, rfl, fun y => ?_, rfl, rfl, by rw [hA]; rfl, rfl, rfl, H⟩
  ·omega
  ·rw [← tk_snoc hx]
   by_cases e : y = x
   ·subst e; rw [mgetP_same, if_pos (by simp)]
   ·rw [mgetP_other _ _ _ _ e, hK y]
    simp [e]
 ·obtain rfl : i = n := by omega
  rw [show live.take i = live by rw [← hl]; exact List.take_length] at hK
  obtain ⟨f, rfl⟩ := live5 f0 f5 f12 f13 f14
  clear f0 f5 f12 f13 f14
  refine k_sg ?_
  refine s_run rfl rfl (r_lssF rfl rfl (by omega)) ?_
  refine k_nc ?_
  refine k_seq ?_
  refine k_f rfl ?_
  refine k_exit ?_
  refine c_exit ?_
  refine c_exit ?_
  refine b_hit ?_
  refine c_norm ?_
  refine k_sg ?_
  refine s_run rfl rfl (rai rfl) ?_
  refine k_nc ?_
  refine k_seq ?_
  refine k_sg ?_
  refine s_run rfl rfl (rmp rfl) ?_
  refine s_run rfl rfl (r_nc rfl) ?_
  refine s_run rfl rfl (r_fa0 rfl fo76_0) ?_
  refine s_run rfl rfl (r_lo H 1 rfl rfl rfl ag74) ?_
  refine s_rm H 2 rfl rfl rfl Try.underlying74 ?_
  intro r _ H'; simp only [List.set_cons_zero, List.set_cons_succ, List.take_succ_cons, List.take_zero, List.drop_succ_cons, List.drop_zero, List.cons_append, List.nil_append, List.append_nil, List.length_cons, List.length_nil, Nat.reduceAdd] at H'; clear H; have H := H'; clear H'
  refine k_nc ?_
  refine k_b ?_
  refine k_loop (fun z f W => ∃ (lb : List (((Int × Int) × Int) × Bool)) (cur : Option ((Int × Int) × Int)) (h : Int → Int) (t : Int), z = (mleft lb).length ∧ (lb.map (·.1)).filter (inL live) = s.L.filter (inL live) ∧ (∀ x ∈ lb, x.2 = false → inL live x.1 = true) ∧ (∀ x ∈ lb, x.1 ∈ s.L) ∧ lb.length ≤ N ∧ (∀ k : Nat, k < 4 → h k = hld (lb.map (·.1)) k) ∧ t + sum2 (lb.map (·.1)) = sum2 s.L ∧ 0 ≤ t ∧ f 0 = ptrL p ∧ f 5 = .map (some bk) ∧ f 8 = .int .i64 t ∧ f 25 = ptrL r ∧ Heap w I [mp kI2 Value.bool bk K, blk p (ldC b s.q h s.pk s.tk) 76, mi kE (Value.int .i64) b r lb cur] W) _ ⟨s.L.map fun p => (p, true), none, s.h, 0, rfl, by rw [iter_all], (fun x hx h => by obtain ⟨y, _, rfl⟩ := List.mem_map.1 hx; cases h), (fun x hx => by obtain ⟨y, hy, rfl⟩ := List.mem_map.1 hx; exact hy), by rw [List.length_map]; exact hok.len, (fun k hk => by rw [iter_all]; exact hok.h k (by omega) (by omega)), by rw [iter_all]; omega, by omega, rfl, rfl, rfl, rfl, H⟩ ?_
  clear H
  rintro z f W ⟨lb, cur, h, t, rfl, hlb, hdone, hmem, hlen, hh, ht, ht0, f0, f5, f8, f25, H⟩
  have hkey := hok.key
  have hsb := sum2_bd s.L (fun x hx => ⟨(hkey x hx).2.2.1, (hkey x hx).2.2.2.1⟩)
  have hsb2 := sum2_bd (lb.map (·.1)) (fun x hx => by
   obtain ⟨y, hy, rfl⟩ := List.mem_map.1 hx
   exact ⟨(hkey _ (hmem y hy)).2.2.1, (hkey _ (hmem y hy)).2.2.2.1⟩)
  have hLl := hok.len
  obtain ⟨f, rfl⟩ := live4 f0 f5 f8 f25
  clear f0 f5 f8 f25
  by_cases hlf : mleft lb = []
  ·have e : lb.map (·.1) = s.L.filter (inL live) := by
    rw [← hlb]
    exact (List.filter_eq_self.2 fun x hx => by
     obtain ⟨y, hy, rfl⟩ := List.mem_map.1 hx
     exact hdone y hy ((mleft_nil lb).1 hlf y hy)).symm
   have hsp := sum2_split (fun x : (Int × Int) × Int => x.1.2 ∈ live) s.L
   have e2 : t = (s.sweep live).2 := by
    show t = sum2 (s.L.filter fun x => decide (¬ x.1.2 ∈ live))
    rw [e] at ht
    have ht2 : t + sum2 (s.L.filter fun x => decide (x.1.2 ∈ live)) = sum2 s.L := ht
    omega
   subst e2
   refine k_sg ?_
   refine s_nx0 H 2 (hlf) rfl rfl rfl ?_
   refine s_run rfl rfl (r_ext (v := .bool _) rfl rfl) ?_
   refine k_nc ?_
   refine k_seq ?_
   refine k_f rfl ?_
   refine k_exit ?_
   refine c_exit ?_
   refine c_exit ?_
   refine b_hit ?_
   refine c_norm ?_
   refine k_sg ?_
   refine s_run rfl rfl (rmi rfl) ?_
   refine s_run rfl rfl (rai rfl) ?_
   refine k_nc ?_
   refine k_ret ?_
   refine fin1r (v := .int _ _) rfl rfl ?_
   have H2 := H.mi_done 2 rfl
   rw [e] at H2 hh
   exact ⟨rfl, ⟨s.L.filter (inL live), s.q, h, s.pk, s.tk⟩, (H2.drop), rfl, hh, rfl, rfl, rfl⟩
  ·refine k_sg ?_
   refine s_nx1 H 2 (hlf) rfl rfl rfl ?_
   intro j q _ hq gq H'; simp only [List.set_cons_zero, List.set_cons_succ, List.take_succ_cons, List.take_zero, List.drop_succ_cons, List.drop_zero, List.cons_append, List.nil_append, List.append_nil, List.length_cons, List.length_nil, Nat.reduceAdd] at H'; clear H; have H := H'; clear H'
   refine s_run rfl rfl (r_ext (v := .bool _) rfl rfl) ?_
   refine k_nc ?_
   refine k_seq ?_
   refine k_t rfl ?_
   refine k_skip ?_
   refine c_norm ?_
   refine k_b ?_
   refine k_sg ?_
   refine s_run rfl rfl (r_en H 2 rfl rfl) ?_
   refine s_run rfl rfl (r_ext (v := .agg _) rfl rfl) ?_
   refine s_run rfl rfl (r_ext (v := .int _ _) rfl rfl) ?_
   refine s_al H rfl inf86 ?_
   intro p9 _ H'; clear H; have H := H'; clear H'
   refine s_sw H 0 rfl rfl rfl rfl rfl rfl rfl sz86 ?_
   clear H; intro _ H; simp only [jA, jB, jC, jD, jE, jF, jG, jH, jI, jJ, jK, Nat.reduceAdd] at H
   refine s_run rfl rfl (rai rfl) ?_
   refine k_nc ?_
   refine k_seq ?_
   have hfs : (lb.set j (q, false)).map (·.1) = lb.map (·.1) := mset_fstG hq
   have hml := (mleft_set lb j q hq).length_eq
   rw [List.length_cons] at hml
   have hqL := hmem _ (List.mem_of_getElem? hq)
   simp only at hqL
   obtain ⟨k0, k4, w1, w2, wa⟩ := hkey q hqL
   have gx : kI2.Gd q.1.2 := wa
   have hKx := hK q.1.2
   by_cases hin : q.1.2 ∈ live
   ·rw [if_pos hin] at hKx
    refine k_rg ?_
    refine s_run rfl rfl (r_mv (v := .map _) rfl) ?_
    refine s_run rfl rfl (r_fa0 rfl fo86_1) ?_
    refine s_run rfl rfl (r_lo H 0 rfl rfl rfl ag3) ?_
    refine s_run rfl rfl (r_lkS H 1 rfl rfl rfl (gx) (hKx) Try.underlying88 (zv_of inf4) rfl) ?_
    refine s_run rfl rfl (r_notT rfl) ?_
    refine k_nc ?_
    refine k_f rfl ?_
    refine k_skip ?_
    refine b_norm ?_
    refine c_round ?_
    refine ⟨_, _, ?_, rfl, lb.set j (q, false), some q, h, t, rfl, by rw [hfs]; exact hlb, fun x hx hx2 => ?_, fun x hx => ?_, by rw [List.length_set]; exact hlen, by rw [hfs]; exact hh, by rw [hfs]; exact ht, ht0, rfl, rfl, rfl, rfl, H.drop⟩
    ·omega
    ·rcases List.mem_or_eq_of_mem_set hx with hx | rfl
     ·exact hdone x hx hx2
     ·exact decide_eq_true hin
    ·rcases List.mem_or_eq_of_mem_set hx with hx | rfl
     ·exact hmem x hx
     ·exact hqL
   ·rw [if_neg hin] at hKx
    have hnd := H.mi_nd 3 rfl
    rw [hfs] at hnd
    have hqj : (lb.map (·.1))[j]? = some q := by rw [List.getElem?_map, hq]; rfl
    obtain ⟨kq, hkq⟩ := Int.eq_ofNat_of_zero_le k0
    have hk4 : kq < 4 := by omega
    have hhk := hh kq hk4
    have hld1 := hld_bd (lb.map (·.1)) kq (fun x hx => by
     obtain ⟨y, hy, rfl⟩ := List.mem_map.1 hx
     exact ⟨(hkey _ (hmem y hy)).2.2.1, (hkey _ (hmem y hy)).2.2.2.1⟩)
    rw [List.length_map] at hld1
    have hq2 : q.2 ≤ sum2 (lb.map (·.1)) := by
     have h1 := sum2_erase _ j q hqj
     have h2 := sum2_bd ((lb.map (·.1)).eraseIdx j) (fun x hx => by
      obtain ⟨y, hy, rfl⟩ := List.mem_map.1 (List.mem_of_mem_eraseIdx hx)
      exact ⟨(hkey _ (hmem y hy)).2.2.1, (hkey _ (hmem y hy)).2.2.2.1⟩)
     omega
    refine k_rg ?_
    refine s_run rfl rfl (r_mv (v := .map _) rfl) ?_
    refine s_run rfl rfl (r_fa0 rfl fo86_1) ?_
    refine s_run rfl rfl (r_lo H 0 rfl rfl rfl ag3) ?_
    refine s_run rfl rfl (r_lkN H 1 rfl rfl rfl (gx) (hKx) Try.underlying88 (zv_of inf4)) ?_
    refine s_run rfl rfl (r_notF rfl) ?_
    refine k_nc ?_
    refine k_t rfl ?_
    refine k_seq ?_
    refine k_qt 5 mixed (by kernel_rfl) H rfl rfl ?_
    refine q_run rfl rfl (fun _ H => r_mv (v := .pointer _) rfl) ?_
    refine q_run rfl rfl (fun _ H => r_nc rfl) ?_
    refine q_run rfl rfl (fun _ H => r_fa0 rfl fo76_0) ?_
    refine q_run rfl rfl (fun _ H => r_lo H 2 rfl rfl rfl ag74) ?_
    refine q_run rfl rfl (fun _ H => r_la H 0 rfl rfl rfl ag86 sz86) ?_
    refine q_nil ?_
    intro _ H'; clear H; have H := H'; clear H'
    refine s_di H 3 rfl rfl rfl rfl (gq) Try.underlying74 ?_
    clear H; intro _ H; simp only [jA, jB, jC, jD, jE, jF, jG, jH, jI, jJ, jK, Nat.reduceAdd] at H
    refine k_nc ?_
    refine k_seq ?_
    refine k_qt 12 mixed (by kernel_rfl) H rfl rfl ?_
    refine q_run rfl rfl (fun _ H => r_mv (v := .pointer _) rfl) ?_
    refine q_run rfl rfl (fun _ H => r_fa0 rfl fo86_0) ?_
    refine q_run rfl rfl (fun _ H => r_lo H 0 rfl rfl rfl ag3) ?_
    refine q_run rfl rfl (fun _ H => r_nc rfl) ?_
    refine q_run rfl rfl (fun _ H => r_fa0 rfl fo76_2) ?_
    refine q_run rfl rfl (fun _ H => r_ia1 (i := kq) rfl rfl (by omega) (by omega) Try.underlying29 sz3) ?_
    refine q_run rfl rfl (fun _ H => r_lo H 2 rfl rfl (gh hk4) ag3) ?_
    refine q_run rfl rfl (fun _ H => r_mv (v := .int _ _) rfl) ?_
    refine q_run rfl rfl (fun _ H => r_sub rfl rfl (wI (by omega))) ?_
    refine q_run rfl rfl (fun _ H => r_nc rfl) ?_
    refine q_run rfl rfl (fun _ H => r_fa0 rfl fo76_2) ?_
    refine q_run rfl rfl (fun _ H => r_ia1 (i := kq) rfl rfl (by omega) (by omega) Try.underlying29 sz3) ?_
    refine q_nil ?_
    intro _ H'; clear H; have H := H'; clear H'
    refine s_stC H 2 rfl rfl rfl rfl (gh hk4) (sh hk4) rfl sz3 ?_
    clear H; intro _ H; simp only [jA, jB, jC, jD, jE, jF, jG, jH, jI, jJ, jK, Nat.reduceAdd] at H
    refine k_nc ?_
    refine k_rg ?_
    refine s_run rfl rfl (rmi rfl) ?_
    refine s_run rfl rfl (rmi rfl) ?_
    refine s_run rfl rfl (r_add rfl rfl (wI (by omega))) ?_
    refine s_run rfl rfl (rai rfl) ?_
    refine k_nil ?_
    refine b_norm ?_
    refine c_round ?_
    have hml2 := mleft_filter_leG (fun x : ((Int × Int) × Int) × Bool => decide (x.1.1 ≠ q.1)) (lb.set j (q, false))
    have hnew : ((lb.set j (q, false)).filter (fun x => decide (x.1.1 ≠ q.1))).map (·.1) = (lb.map (·.1)).eraseIdx j := by rw [bdelG, hfs, filter_erase1 hnd hqj]
    refine ⟨_, _, ?_, rfl, _, none, _, _, rfl, ?_, fun x hx hx2 => ?_, fun x hx => ?_, ?_, fun k hk => ?_, ?_, ?_, rfl, rfl, rfl, rfl, H.drop⟩
    ·omega
    ·rw [hnew, erase_filter live _ j q hqj (decide_eq_false hin)]; exact hlb
    ·obtain ⟨hx, hne⟩ := List.mem_filter.1 hx
     rcases List.mem_or_eq_of_mem_set hx with hx | rfl
     ·exact hdone x hx hx2
     ·simp at hne
    ·obtain ⟨hx, hne⟩ := List.mem_filter.1 hx
     rcases List.mem_or_eq_of_mem_set hx with hx | rfl
     ·exact hmem x hx
     ·exact hqL
    ·have := List.length_filter_le (fun x : ((Int × Int) × Int) × Bool => decide (x.1.1 ≠ q.1)) (lb.set j (q, false))
     rw [List.length_set] at this; omega
    ·rw [hnew, hld_erase _ _ _ hqj]
     by_cases e : k = kq
     ·subst e; rw [upI_at, if_pos hkq, hhk]
     ·rw [upI_off _ _ (by omega), if_neg (by omega), hh k hk]; omega
    ·rw [hnew, sum2_erase _ _ _ hqj]; omega
    ·omega
end Go.Proofs.Ytpbimgopiammaaa
end

section
namespace Go.Proofs.Ytpbimgopiammaaa
def sIns : List Int → Int → List Int
 | [], x => [x]
 | y :: l, x => if y < x then y :: sIns l x else x :: y :: l
theorem sIns_at : ∀ (l : List Int) (x : Int) (n : Nat), n ≤ l.length → (∀ j y, j < n → l[j]? = some y → y < x) → (∀ y, l[n]? = some y → ¬ y < x) → sIns l x = l.take n ++ x :: l.drop n
 | [], x, n, hn, _, _ => by simp at hn; subst hn; rfl
 | y :: l, x, 0, _, _, h => by
  have := h y rfl
  rw [sIns, if_neg this]; rfl
 | y :: l, x, n + 1, hn, h1, h2 => by
  rw [sIns, if_pos (h1 0 y (by omega) rfl), sIns_at l x n (by simpa using hn) (fun j z hj hz => h1 (j + 1) z (by omega) (by simpa using hz)) (fun z hz => h2 z (by simpa using hz))]
  rfl
theorem sIns_len : ∀ (l : List Int) (x : Int), (sIns l x).length = l.length + 1
 | [], x => rfl
 | y :: l, x => by
  unfold sIns
  split
  ·simp only [List.length_cons]; rw [sIns_len l x]
  ·rfl
theorem sIns_perm : ∀ (l : List Int) (x : Int), (sIns l x).Perm (x :: l)
 | [], x => .refl _
 | y :: l, x => by
  unfold sIns
  split
  ·exact ((sIns_perm l x).cons y).trans (.swap _ _ _)
  ·exact .refl _
theorem sIns_sorted : ∀ (l : List Int) (x : Int), l.Pairwise (· ≤ ·) → (sIns l x).Pairwise (· ≤ ·)
 | [], x, _ => by simp [sIns]
 | y :: l, x, h => by
  obtain ⟨h1, h2⟩ := List.pairwise_cons.1 h
  unfold sIns
  split
  ·refine List.pairwise_cons.2 ⟨fun z hz => ?_, sIns_sorted l x h2⟩
   rcases List.mem_cons.1 ((sIns_perm l x).mem_iff.1 hz) with rfl | hz
   ·omega
   ·exact h1 z hz
  ·refine List.pairwise_cons.2 ⟨fun z hz => ?_, h⟩
   rcases List.mem_cons.1 hz with rfl | hz
   ·omega
   ·have := h1 z hz; omega
theorem sIns_fold (l : List Int) : l.foldl sIns [] = srt l := by
 have : ∀ (l s : List Int), s.Pairwise (· ≤ ·) → (l.foldl sIns s).Pairwise (· ≤ ·) ∧ (l.foldl sIns s).Perm (s ++ l) := fun l => by
  induction l with
  | nil => intro s h; exact ⟨h, by simp⟩
  | cons x l ih =>
   intro s h
   obtain ⟨h1, h2⟩ := ih (sIns s x) (sIns_sorted s x h)
   refine ⟨h1, h2.trans ?_⟩
   have h3 := (sIns_perm s x).append_right l
   refine h3.trans ?_
   rw [List.cons_append]
   exact List.perm_middle.symm
 obtain ⟨h1, h2⟩ := this l [] (by simp)
 exact sorted_eq (h2.trans (srt_perm l).symm) h1 (srt_sorted l)
end Go.Proofs.Ytpbimgopiammaaa
end

section
namespace Go.Proofs.Ytpbimgopiammaaa
open Go.RowKit
set_option maxRecDepth 100000
set_option maxHeartbeats 4000000
def enC (L : LdL) : List C1 := L.flatMap fun x => [C1.i .i64 x.1.1, C1.i .i64 x.1.2, C1.i .i64 x.2]
theorem enC_get : ∀ (l : LdL) (i : Nat) (x : (Int × Int) × Int), l[i]? = some x → (enC l)[i * 3]? = some (C1.i .i64 x.1.1) ∧ (enC l)[i * 3 + 1]? = some (C1.i .i64 x.1.2) ∧ (enC l)[i * 3 + 2]? = some (C1.i .i64 x.2)
 | [], i, e, h => by simp at h
 | x :: l, 0, e, h => by simp at h; subst h; exact ⟨rfl, rfl, rfl⟩
 | x :: l, i + 1, e, h => by
  have := enC_get l i e (by simpa using h)
  rw [show (i + 1) * 3 = i * 3 + 3 by omega]
  exact this
theorem enC_len (l : LdL) : (enC l).length = l.length * 3 := by
 induction l with
 | nil => rfl
 | cons x l ih => simp [enC] at ih ⊢; omega
theorem enC_app (a b : LdL) : enC (a ++ b) = enC a ++ enC b := by simp [enC]
theorem enC_take (l : LdL) (k : Nat) : enC (l.take k) = (enC l).take (k * 3) := by
 induction l generalizing k with
 | nil => simp [enC]
 | cons x l ih =>
  cases k with
  | zero => simp [enC]
  | succ k => rw [show (k + 1) * 3 = k * 3 + 3 by omega, List.take_succ_cons]; exact congrArg (fun z => C1.i .i64 x.1.1 :: C1.i .i64 x.1.2 :: C1.i .i64 x.2 :: z) (ih k)
theorem enC_drop (l : LdL) (k : Nat) : enC (l.drop k) = (enC l).drop (k * 3) := by
 induction l generalizing k with
 | nil => simp [enC]
 | cons x l ih =>
  cases k with
  | zero => simp [enC]
  | succ k => rw [show (k + 1) * 3 = k * 3 + 3 by omega, List.drop_succ_cons]; exact ih k
def docC (A : Option Addr) (n c : Nat) (q pk tk : Int → Int) : List Value :=
 [.slice A n c, .int .i64 (q 0), .int .i64 (q 1), .int .i64 (q 2), .int .i64 (q 3), .int .i64 (pk 0), .int .i64 (pk 1), .int .i64 (pk 2), .int .i64 (pk 3), .int .i64 (tk 0), .int .i64 (tk 1), .int .i64 (tk 2), .int .i64 (tk 3)]
section
variable {A : Option Addr} {n c : Nat} {q pk tk : Int → Int} {k : Nat} {v : Int}
theorem dgq (hk : k < 4) : (docC A n c q pk tk)[1 + k]? = some (.int .i64 (q (k : Int))) := by
 rcases (by omega : k = 0 ∨ k = 1 ∨ k = 2 ∨ k = 3) with rfl | rfl | rfl | rfl <;> rfl
theorem dgp (hk : k < 4) : (docC A n c q pk tk)[5 + k]? = some (.int .i64 (pk (k : Int))) := by
 rcases (by omega : k = 0 ∨ k = 1 ∨ k = 2 ∨ k = 3) with rfl | rfl | rfl | rfl <;> rfl
theorem dgt (hk : k < 4) : (docC A n c q pk tk)[9 + k]? = some (.int .i64 (tk (k : Int))) := by
 rcases (by omega : k = 0 ∨ k = 1 ∨ k = 2 ∨ k = 3) with rfl | rfl | rfl | rfl <;> rfl
theorem dsq (hk : k < 4) : (docC A n c q pk tk).set (1 + k) (.int .i64 v) = docC A n c (upI q k v) pk tk := by
 rcases (by omega : k = 0 ∨ k = 1 ∨ k = 2 ∨ k = 3) with rfl | rfl | rfl | rfl <;> rfl
theorem dsp (hk : k < 4) : (docC A n c q pk tk).set (5 + k) (.int .i64 v) = docC A n c q (upI pk k v) tk := by
 rcases (by omega : k = 0 ∨ k = 1 ∨ k = 2 ∨ k = 3) with rfl | rfl | rfl | rfl <;> rfl
theorem dst (hk : k < 4) : (docC A n c q pk tk).set (9 + k) (.int .i64 v) = docC A n c q pk (upI tk k v) := by
 rcases (by omega : k = 0 ∨ k = 1 ∨ k = 2 ∨ k = 3) with rfl | rfl | rfl | rfl <;> rfl
end
theorem docC_q {A : Option Addr} {n c : Nat} {q q' pk tk : Int → Int} (hq : ∀ k : Nat, k < 4 → q k = q' k) : docC A n c q pk tk = docC A n c q' pk tk := by
 have h0 := hq 0 (by omega)
 have h1 := hq 1 (by omega)
 have h2 := hq 2 (by omega)
 have h3 := hq 3 (by omega)
 unfold docC
 rw [show q 0 = q' 0 from h0, show q 1 = q' 1 from h1, show q 2 = q' 2 from h2, show q 3 = q' 3 from h3]
theorem rNew (A : Option Addr) (n c : Nat) (qs : List Int) (w : World) (hS : Sees (Value.int .i64) w [] A qs) (hl : qs.length = n) (hn : n ≤ 1000000) :
  Calls Try.prog 11 [.slice A n c].toArray w fun e w' => e = .returned (.agg (docC none 0 0 (newQ qs) (fun _ => 0) (fun _ => 0)).toArray) ∧ Only [] w w' := by
 have H := Heap.nil w
 refine k_in (N := 31) Try.func11 rfl rfl rfl ?_
 refine k_sg ?_
 refine s_al H rfl inf31 ?_
 intro p2 _ H'; clear H; have H := H'; clear H'
 refine k_nc ?_
 refine k_sg ?_
 refine s_al H rfl inf31 ?_
 intro p3 _ H'; clear H; have H := H'; clear H'
 refine k_nc ?_
 refine k_seq ?_
 refine k_sg ?_
 refine s_run rfl rfl (rai rfl) ?_
 refine k_nc ?_
 refine k_b ?_
 refine k_loop (fun z f W => ∃ (i : Nat) (q : Int → Int), i ≤ 4 ∧ z = 4 - i ∧ (∀ k : Nat, k < i → q k = newQ qs k) ∧ f 0 = .slice A n c ∧ f 2 = ptrL p2 ∧ f 3 = ptrL p3 ∧ f 4 = .int .i64 i ∧ Heap w [] [blk p3 (docC none 0 0 q (fun _ => 0) (fun _ => 0)) 31, blk p2 (docC none 0 0 (fun _ => 0) (fun _ => 0) (fun _ => 0)) 31] W) 4 ⟨0, fun _ => 0, by omega, rfl, by omega, rfl, rfl, rfl, rfl, H⟩ ?_
 clear H
 rintro z f W ⟨i, q, hi, rfl, hq, f0, f2, f3, f4, H⟩
 by_cases hlt : i < 4
 ·by_cases hin : i < n
  ·obtain ⟨x, hx⟩ : ∃ x, qs[i]? = some x := ⟨_, List.getElem?_eq_getElem (by omega)⟩
   obtain ⟨b, o, hA, _, hrd⟩ := hS (by omega)
   have hc := hrd i x hx
   have hnq : newQ qs (i : Int) = max x (-1) := by
    unfold newQ
    rw [Int.toNat_natCast, if_pos (by omega), List.getD_eq_getElem?_getD, hx]; rfl
   rw [hA] at f0
   obtain ⟨f, rfl⟩ := live4 f0 f2 f3 f4
   clear f0 f2 f3 f4
   by_cases hx0 : x ≥ 0
   ·refine k_seq ?_
    refine k_sg ?_
    refine s_run rfl rfl (rmi rfl) ?_
    refine s_run rfl rfl (r_lssT rfl rfl (by omega)) ?_
    refine k_nc ?_
    refine k_t rfl ?_
    refine k_skip ?_
    refine c_norm ?_
    refine k_seq ?_
    refine k_b ?_
    refine k_sg ?_
    refine s_run rfl rfl (rmi rfl) ?_
    refine s_run rfl rfl (r_fa0 rfl fo31_1) ?_
    refine s_run rfl rfl (r_ia1 (i := i) rfl rfl (by omega) (by omega) Try.underlying29 sz3) ?_
    refine s_stC H 0 rfl rfl rfl rfl (dgq hlt) (dsq hlt) rfl sz3 ?_
    clear H; intro _ H; simp only [jA, jB, jC, jD, jE, jF, jG, jH, jI, jJ, jK, Nat.reduceAdd] at H
    refine k_nc ?_
    refine k_sg ?_
    refine s_run rfl rfl (rmi rfl) ?_
    refine s_run rfl rfl (rms rfl) ?_
    refine s_run rfl rfl (r_len rfl Try.underlying22) ?_
    refine s_run rfl rfl (r_lssT rfl rfl (by omega)) ?_
    refine s_run rfl rfl (rmb rfl) ?_
    refine s_run rfl (g_on 16 (by kernel_rfl) rfl) (rms rfl) ?_
    refine s_run rfl (g_on 16 (by kernel_rfl) rfl) (rmi rfl) ?_
    refine s_run rfl (g_on 16 (by kernel_rfl) rfl) (r_ix1o (i := i) rfl rfl (by omega) (by omega) Try.underlying22 sz3) ?_
    refine s_run rfl (g_on 16 (by kernel_rfl) rfl) (r_lr H rfl hc (by simp) ag3) ?_
    refine s_run rfl (g_on 16 (by kernel_rfl) rfl) (r_geqT rfl rfl (by omega)) ?_
    refine s_run rfl rfl (r_pkT (v := .bool _) rfl rfl) ?_
    refine k_nc ?_
    refine k_t rfl ?_
    refine k_rg ?_
    refine s_run rfl rfl (rmi rfl) ?_
    refine s_run rfl rfl (rms rfl) ?_
    refine s_run rfl rfl (rmi rfl) ?_
    refine s_run rfl rfl (r_ix1o (i := i) rfl rfl (by omega) (by omega) Try.underlying22 sz3) ?_
    refine s_run rfl rfl (r_lr H rfl hc (by simp) ag3) ?_
    refine s_run rfl rfl (r_fa0 rfl fo31_1) ?_
    refine s_run rfl rfl (r_ia1 (i := i) rfl rfl (by omega) (by omega) Try.underlying29 sz3) ?_
    refine s_stC H 0 rfl rfl rfl rfl (dgq hlt) (dsq hlt) rfl sz3 ?_
    clear H; intro _ H; simp only [jA, jB, jC, jD, jE, jF, jG, jH, jI, jJ, jK, Nat.reduceAdd] at H
    refine k_nil ?_
    refine b_norm ?_
    refine c_norm ?_
    refine k_rg ?_
    refine s_run rfl rfl (rmi rfl) ?_
    refine s_run rfl rfl (r_add rfl rfl (wI (by omega))) ?_
    refine s_run rfl rfl (rai rfl) ?_
    refine k_nil ?_
    refine c_round ?_
    refine ⟨_, _, ?_, rfl, i + 1, _, by omega, rfl, fun k hk => ?_, by rw [hA]; rfl, rfl, rfl, rfl, H⟩
    ·omega
    ·by_cases e : k = i
     ·subst e; rw [upI_at, hnq]; omega
     ·rw [upI_off _ _ (by omega), upI_off _ _ (by omega)]; exact hq k (by omega)
   ·refine k_seq ?_
    refine k_sg ?_
    refine s_run rfl rfl (rmi rfl) ?_
    refine s_run rfl rfl (r_lssT rfl rfl (by omega)) ?_
    refine k_nc ?_
    refine k_t rfl ?_
    refine k_skip ?_
    refine c_norm ?_
    refine k_seq ?_
    refine k_b ?_
    refine k_sg ?_
    refine s_run rfl rfl (rmi rfl) ?_
    refine s_run rfl rfl (r_fa0 rfl fo31_1) ?_
    refine s_run rfl rfl (r_ia1 (i := i) rfl rfl (by omega) (by omega) Try.underlying29 sz3) ?_
    refine s_stC H 0 rfl rfl rfl rfl (dgq hlt) (dsq hlt) rfl sz3 ?_
    clear H; intro _ H; simp only [jA, jB, jC, jD, jE, jF, jG, jH, jI, jJ, jK, Nat.reduceAdd] at H
    refine k_nc ?_
    refine k_sg ?_
    refine s_run rfl rfl (rmi rfl) ?_
    refine s_run rfl rfl (rms rfl) ?_
    refine s_run rfl rfl (r_len rfl Try.underlying22) ?_
    refine s_run rfl rfl (r_lssT rfl rfl (by omega)) ?_
    refine s_run rfl rfl (rmb rfl) ?_
    refine s_run rfl (g_on 16 (by kernel_rfl) rfl) (rms rfl) ?_
    refine s_run rfl (g_on 16 (by kernel_rfl) rfl) (rmi rfl) ?_
    refine s_run rfl (g_on 16 (by kernel_rfl) rfl) (r_ix1o (i := i) rfl rfl (by omega) (by omega) Try.underlying22 sz3) ?_
    refine s_run rfl (g_on 16 (by kernel_rfl) rfl) (r_lr H rfl hc (by simp) ag3) ?_
    refine s_run rfl (g_on 16 (by kernel_rfl) rfl) (r_geqF rfl rfl (by omega)) ?_
    refine s_run rfl rfl (r_pkT (v := .bool _) rfl rfl) ?_
    refine k_nc ?_
    refine k_f rfl ?_
    refine k_skip ?_
    refine b_norm ?_
    refine c_norm ?_
    refine k_rg ?_
    refine s_run rfl rfl (rmi rfl) ?_
    refine s_run rfl rfl (r_add rfl rfl (wI (by omega))) ?_
    refine s_run rfl rfl (rai rfl) ?_
    refine k_nil ?_
    refine c_round ?_
    refine ⟨_, _, ?_, rfl, i + 1, _, by omega, rfl, fun k hk => ?_, by rw [hA]; rfl, rfl, rfl, rfl, H⟩
    ·omega
    ·by_cases e : k = i
     ·subst e; rw [upI_at, hnq]; omega
     ·rw [upI_off _ _ (by omega)]; exact hq k (by omega)
  ·have hnq : newQ qs (i : Int) = -1 := by
    unfold newQ
    rw [Int.toNat_natCast, if_neg (by omega)]
   obtain ⟨f, rfl⟩ := live4 f0 f2 f3 f4
   clear f0 f2 f3 f4
   refine k_seq ?_
   refine k_sg ?_
   refine s_run rfl rfl (rmi rfl) ?_
   refine s_run rfl rfl (r_lssT rfl rfl (by omega)) ?_
   refine k_nc ?_
   refine k_t rfl ?_
   refine k_skip ?_
   refine c_norm ?_
   refine k_seq ?_
   refine k_b ?_
   refine k_sg ?_
   refine s_run rfl rfl (rmi rfl) ?_
   refine s_run rfl rfl (r_fa0 rfl fo31_1) ?_
   refine s_run rfl rfl (r_ia1 (i := i) rfl rfl (by omega) (by omega) Try.underlying29 sz3) ?_
   refine s_stC H 0 rfl rfl rfl rfl (dgq hlt) (dsq hlt) rfl sz3 ?_
   clear H; intro _ H; simp only [jA, jB, jC, jD, jE, jF, jG, jH, jI, jJ, jK, Nat.reduceAdd] at H
   refine k_nc ?_
   refine k_sg ?_
   refine s_run rfl rfl (rmi rfl) ?_
   refine s_run rfl rfl (rms rfl) ?_
   refine s_run rfl rfl (r_len rfl Try.underlying22) ?_
   refine s_run rfl rfl (r_lssF rfl rfl (by omega)) ?_
   refine s_run rfl rfl (rmb rfl) ?_
   refine s_off rfl (g_off 16 (by kernel_rfl) rfl rfl) ?_
   refine s_off rfl (g_off 16 (by kernel_rfl) rfl rfl) ?_
   refine s_off rfl (g_off 16 (by kernel_rfl) rfl rfl) ?_
   refine s_off rfl (g_off 16 (by kernel_rfl) rfl rfl) ?_
   refine s_off rfl (g_off 16 (by kernel_rfl) rfl rfl) ?_
   refine s_run rfl rfl (r_pkF (v := .bool _) rfl rfl) ?_
   refine k_nc ?_
   refine k_f rfl ?_
   refine k_skip ?_
   refine b_norm ?_
   refine c_norm ?_
   refine k_rg ?_
   refine s_run rfl rfl (rmi rfl) ?_
   refine s_run rfl rfl (r_add rfl rfl (wI (by omega))) ?_
   refine s_run rfl rfl (rai rfl) ?_
   refine k_nil ?_
   refine c_round ?_
   refine ⟨_, _, ?_, rfl, i + 1, _, by omega, rfl, fun k hk => ?_, rfl, rfl, rfl, rfl, H⟩
   ·omega
   ·by_cases e : k = i
    ·subst e; rw [upI_at, hnq]
    ·rw [upI_off _ _ (by omega)]; exact hq k (by omega)
 ·obtain rfl : i = 4 := by omega
  obtain ⟨f, rfl⟩ := live4 f0 f2 f3 f4
  clear f0 f2 f3 f4
  rw [docC_q hq] at H
  refine k_seq ?_
  refine k_sg ?_
  refine s_run rfl rfl (rmi rfl) ?_
  refine s_run rfl rfl (r_lssF rfl rfl (by omega)) ?_
  refine k_nc ?_
  refine k_f rfl ?_
  refine k_exit ?_
  refine c_exit ?_
  refine c_exit ?_
  refine b_hit ?_
  refine c_norm ?_
  refine k_sg ?_
  refine s_run rfl rfl (r_la H 0 rfl rfl rfl ag31 sz31) ?_
  refine s_sw H 1 rfl rfl rfl rfl rfl rfl rfl sz31 ?_
  clear H; intro _ H; simp only [jA, jB, jC, jD, jE, jF, jG, jH, jI, jJ, jK, Nat.reduceAdd] at H
  refine k_nc ?_
  refine k_ret ?_
  refine fx1r rfl (rv_a H 1 rfl rfl rfl ag31 sz31) ?_
  exact ⟨rfl, H.only⟩
section
variable {A : Option Addr} {n c : Nat} {q pk tk : Int → Int} {L : LdL} {w : World}
theorem rFind (hS : Sees C1.v w [] A (enC L)) (hl : L.length = n) (hn : n ≤ 10000) (hd : (L.map Prod.fst).Nodup) (m a : Int) :
  Calls Try.prog 54 [.agg (docC A n c q pk tk).toArray, .int .i64 m, .int .i64 a].toArray w fun e w' => (∃ r, e = .returned (.int .i64 r) ∧ (mget L (m, a) = none ∧ r = -1 ∨ ∃ (j : Nat) (v : Int), L[j]? = some ((m, a), v) ∧ r = j ∧ mget L (m, a) = some v)) ∧ Only [] w w' := by
 have H := Heap.nil w
 refine k_in (N := 34) Try.func54 rfl rfl rfl ?_
 refine k_sg ?_
 refine s_box H rfl rfl ?_
 intro p3 _ H'; clear H; have H := H'; clear H'
 refine s_run rfl rfl (rai rfl) ?_
 refine k_nc ?_
 refine k_seq ?_
 refine k_sg ?_
 refine s_run rfl rfl (rai rfl) ?_
 refine k_nc ?_
 refine k_b ?_
 refine k_loop (fun z f W => ∃ (i : Nat), i ≤ n ∧ z = n - i ∧ (∀ j x, j < i → L[j]? = some x → x.1 ≠ (m, a)) ∧ f 1 = .int .i64 m ∧ f 2 = .int .i64 a ∧ f 3 = ptrL p3 ∧ f 7 = .int .i64 i ∧ Heap w [] [blk p3 (docC A n c q pk tk) 31] W) n ⟨0, by omega, rfl, by omega, rfl, rfl, rfl, rfl, H⟩ ?_
 clear H
 rintro z f W ⟨i, hi, rfl, hno, f1, f2, f3, f7, H⟩
 obtain ⟨f, rfl⟩ := live4 f1 f2 f3 f7
 clear f1 f2 f3 f7
 by_cases hlt : i < n
 ·obtain ⟨x, hx⟩ : ∃ x, L[i]? = some x := ⟨_, List.getElem?_eq_getElem (by omega)⟩
  obtain ⟨b, o, rfl, _, hrd⟩ := hS (by rw [enC_len]; omega)
  obtain ⟨g1, g2, g3⟩ := enC_get L i x hx
  have c1 := hrd _ _ g1
  have c2 := hrd _ _ g2
  have hnext : x.1 ≠ (m, a) → ∀ j y, j < i + 1 → L[j]? = some y → y.1 ≠ (m, a) := fun h j y hj hy => by
   by_cases e : j = i
   ·subst e; rw [hx] at hy; injection hy with hy; subst hy; exact h
   ·exact hno j y (by omega) hy
  by_cases h1 : x.1.1 = m
  ·by_cases h2 : x.1.2 = a
   ·have hxx : x.1 = (m, a) := by rw [← h1, ← h2]
    obtain ⟨s1, _, _⟩ := m_some L i x hx hd
    refine k_seq ?_
    refine k_sg ?_
    refine s_run rfl rfl (rmi rfl) ?_
    refine s_run rfl rfl (r_fa0 rfl fo31_0) ?_
    refine s_run rfl rfl (r_lo H 0 rfl rfl rfl ag28) ?_
    refine s_run rfl rfl (r_len rfl Try.underlying28) ?_
    refine s_run rfl rfl (r_lssT rfl rfl (by omega)) ?_
    refine k_nc ?_
    refine k_t rfl ?_
    refine k_skip ?_
    refine c_norm ?_
    refine k_seq ?_
    refine k_b ?_
    refine k_sg ?_
    refine s_run rfl rfl (r_fa0 rfl fo31_0) ?_
    refine s_run rfl rfl (r_lo H 0 rfl rfl rfl ag28) ?_
    refine s_run rfl rfl (rmi rfl) ?_
    refine s_run rfl rfl (r_ix (i := i) rfl rfl (by omega) (by omega) Try.underlying28 sz100) ?_
    refine s_run rfl rfl (r_fa rfl fo100_0) ?_
    refine s_run rfl rfl (r_lr H rfl c1 (by simp) ag3) ?_
    refine s_run rfl rfl (rmi rfl) ?_
    refine s_run rfl rfl (r_eqlT rfl rfl (by omega)) ?_
    refine s_run rfl rfl (rmb rfl) ?_
    refine s_run rfl (g_on 23 (by kernel_rfl) rfl) (r_fa0 rfl fo31_0) ?_
    refine s_run rfl (g_on 23 (by kernel_rfl) rfl) (r_lo H 0 rfl rfl rfl ag28) ?_
    refine s_run rfl (g_on 23 (by kernel_rfl) rfl) (rmi rfl) ?_
    refine s_run rfl (g_on 23 (by kernel_rfl) rfl) (r_ix (i := i) rfl rfl (by omega) (by omega) Try.underlying28 sz100) ?_
    refine s_run rfl (g_on 23 (by kernel_rfl) rfl) (r_fa rfl fo100_1) ?_
    refine s_run rfl (g_on 23 (by kernel_rfl) rfl) (r_lr H rfl c2 (by simp) ag3) ?_
    refine s_run rfl (g_on 23 (by kernel_rfl) rfl) (rmi rfl) ?_
    refine s_run rfl (g_on 23 (by kernel_rfl) rfl) (r_eqlT rfl rfl (by omega)) ?_
    refine s_run rfl rfl (r_pkT (v := .bool _) rfl rfl) ?_
    refine k_nc ?_
    refine k_t rfl ?_
    refine k_sg ?_
    refine s_run rfl rfl (rmi rfl) ?_
    refine s_run rfl rfl (rai rfl) ?_
    refine k_nc ?_
    refine k_ret ?_
    refine b_ret ?_
    refine c_ret ?_
    refine c_ret ?_
    refine b_ret ?_
    refine c_ret ?_
    refine fin1r (v := .int _ _) rfl rfl ?_
    refine ⟨⟨_, rfl, .inr ⟨i, x.2, ?_, rfl, ?_⟩⟩, H.only⟩
    ·rw [hx, ← hxx]
    ·rw [← hxx]; exact s1
   ·refine k_seq ?_
    refine k_sg ?_
    refine s_run rfl rfl (rmi rfl) ?_
    refine s_run rfl rfl (r_fa0 rfl fo31_0) ?_
    refine s_run rfl rfl (r_lo H 0 rfl rfl rfl ag28) ?_
    refine s_run rfl rfl (r_len rfl Try.underlying28) ?_
    refine s_run rfl rfl (r_lssT rfl rfl (by omega)) ?_
    refine k_nc ?_
    refine k_t rfl ?_
    refine k_skip ?_
    refine c_norm ?_
    refine k_seq ?_
    refine k_b ?_
    refine k_sg ?_
    refine s_run rfl rfl (r_fa0 rfl fo31_0) ?_
    refine s_run rfl rfl (r_lo H 0 rfl rfl rfl ag28) ?_
    refine s_run rfl rfl (rmi rfl) ?_
    refine s_run rfl rfl (r_ix (i := i) rfl rfl (by omega) (by omega) Try.underlying28 sz100) ?_
    refine s_run rfl rfl (r_fa rfl fo100_0) ?_
    refine s_run rfl rfl (r_lr H rfl c1 (by simp) ag3) ?_
    refine s_run rfl rfl (rmi rfl) ?_
    refine s_run rfl rfl (r_eqlT rfl rfl (by omega)) ?_
    refine s_run rfl rfl (rmb rfl) ?_
    refine s_run rfl (g_on 23 (by kernel_rfl) rfl) (r_fa0 rfl fo31_0) ?_
    refine s_run rfl (g_on 23 (by kernel_rfl) rfl) (r_lo H 0 rfl rfl rfl ag28) ?_
    refine s_run rfl (g_on 23 (by kernel_rfl) rfl) (rmi rfl) ?_
    refine s_run rfl (g_on 23 (by kernel_rfl) rfl) (r_ix (i := i) rfl rfl (by omega) (by omega) Try.underlying28 sz100) ?_
    refine s_run rfl (g_on 23 (by kernel_rfl) rfl) (r_fa rfl fo100_1) ?_
    refine s_run rfl (g_on 23 (by kernel_rfl) rfl) (r_lr H rfl c2 (by simp) ag3) ?_
    refine s_run rfl (g_on 23 (by kernel_rfl) rfl) (rmi rfl) ?_
    refine s_run rfl (g_on 23 (by kernel_rfl) rfl) (r_eqlF rfl rfl (by omega)) ?_
    refine s_run rfl rfl (r_pkT (v := .bool _) rfl rfl) ?_
    refine k_nc ?_
    refine k_f rfl ?_
    refine k_skip ?_
    refine b_norm ?_
    refine c_norm ?_
    refine k_rg ?_
    refine s_run rfl rfl (rmi rfl) ?_
    refine s_run rfl rfl (r_add rfl rfl (wI (by omega))) ?_
    refine s_run rfl rfl (rai rfl) ?_
    refine k_nil ?_
    refine c_round ?_
    refine ⟨_, _, ?_, rfl, i + 1, by omega, rfl, hnext (fun e => h2 (by rw [e])), rfl, rfl, rfl, rfl, H⟩
    omega
  ·refine k_seq ?_
   refine k_sg ?_
   refine s_run rfl rfl (rmi rfl) ?_
   refine s_run rfl rfl (r_fa0 rfl fo31_0) ?_
   refine s_run rfl rfl (r_lo H 0 rfl rfl rfl ag28) ?_
   refine s_run rfl rfl (r_len rfl Try.underlying28) ?_
   refine s_run rfl rfl (r_lssT rfl rfl (by omega)) ?_
   refine k_nc ?_
   refine k_t rfl ?_
   refine k_skip ?_
   refine c_norm ?_
   refine k_seq ?_
   refine k_b ?_
   refine k_sg ?_
   refine s_run rfl rfl (r_fa0 rfl fo31_0) ?_
   refine s_run rfl rfl (r_lo H 0 rfl rfl rfl ag28) ?_
   refine s_run rfl rfl (rmi rfl) ?_
   refine s_run rfl rfl (r_ix (i := i) rfl rfl (by omega) (by omega) Try.underlying28 sz100) ?_
   refine s_run rfl rfl (r_fa rfl fo100_0) ?_
   refine s_run rfl rfl (r_lr H rfl c1 (by simp) ag3) ?_
   refine s_run rfl rfl (rmi rfl) ?_
   refine s_run rfl rfl (r_eqlF rfl rfl (by omega)) ?_
   refine s_run rfl rfl (rmb rfl) ?_
   refine s_off rfl (g_off 23 (by kernel_rfl) rfl rfl) ?_
   refine s_off rfl (g_off 23 (by kernel_rfl) rfl rfl) ?_
   refine s_off rfl (g_off 23 (by kernel_rfl) rfl rfl) ?_
   refine s_off rfl (g_off 23 (by kernel_rfl) rfl rfl) ?_
   refine s_off rfl (g_off 23 (by kernel_rfl) rfl rfl) ?_
   refine s_off rfl (g_off 23 (by kernel_rfl) rfl rfl) ?_
   refine s_off rfl (g_off 23 (by kernel_rfl) rfl rfl) ?_
   refine s_off rfl (g_off 23 (by kernel_rfl) rfl rfl) ?_
   refine s_run rfl rfl (r_pkF (v := .bool _) rfl rfl) ?_
   refine k_nc ?_
   refine k_f rfl ?_
   refine k_skip ?_
   refine b_norm ?_
   refine c_norm ?_
   refine k_rg ?_
   refine s_run rfl rfl (rmi rfl) ?_
   refine s_run rfl rfl (r_add rfl rfl (wI (by omega))) ?_
   refine s_run rfl rfl (rai rfl) ?_
   refine k_nil ?_
   refine c_round ?_
   refine ⟨_, _, ?_, rfl, i + 1, by omega, rfl, hnext (fun e => h1 (by rw [e])), rfl, rfl, rfl, rfl, H⟩
   omega
 ·obtain rfl : i = n := by omega
  have hnone : mget L (m, a) = none := (mget_iff L _).2 fun x hx => by
   obtain ⟨j, hj⟩ := List.mem_iff_getElem?.1 hx
   exact hno j x (by have := (List.getElem?_eq_some_iff.1 hj).1; omega) hj
  refine k_seq ?_
  refine k_sg ?_
  refine s_run rfl rfl (rmi rfl) ?_
  refine s_run rfl rfl (r_fa0 rfl fo31_0) ?_
  refine s_run rfl rfl (r_lo H 0 rfl rfl rfl ag28) ?_
  refine s_run rfl rfl (r_len rfl Try.underlying28) ?_
  refine s_run rfl rfl (r_lssF rfl rfl (by omega)) ?_
  refine k_nc ?_
  refine k_f rfl ?_
  refine k_exit ?_
  refine c_exit ?_
  refine c_exit ?_
  refine b_hit ?_
  refine c_norm ?_
  refine k_sg ?_
  refine s_run rfl rfl (rai rfl) ?_
  refine k_nc ?_
  refine k_ret ?_
  refine fin1r (v := .int _ _) rfl rfl ?_
  exact ⟨⟨_, rfl, .inl ⟨hnone, rfl⟩⟩, H.only⟩
theorem hld_take (L : LdL) (i : Nat) (x : (Int × Int) × Int) (hx : L[i]? = some x) (m : Int) : hld (L.take (i + 1)) m = hld (L.take i) m + if x.1.1 = m then x.2 else 0 := by
 rw [← tk_snoc hx, hld_app]; simp [hld]
theorem rHeld (hS : Sees C1.v w [] A (enC L)) (hl : L.length = n) (hn : n ≤ 10000) (hk : ∀ x ∈ L, 1 ≤ x.2 ∧ x.2 ≤ 1048576) (m : Int) :
  Calls Try.prog 53 [.agg (docC A n c q pk tk).toArray, .int .i64 m].toArray w fun e w' => e = .returned (.int .i64 (hld L m)) ∧ Only [] w w' := by
 have H := Heap.nil w
 refine k_in (N := 31) Try.func53 rfl rfl rfl ?_
 refine k_sg ?_
 refine s_box H rfl rfl ?_
 intro p2 _ H'; clear H; have H := H'; clear H'
 refine s_run rfl rfl (rai rfl) ?_
 refine k_nc ?_
 refine k_sg ?_
 refine s_run rfl rfl (rai rfl) ?_
 refine k_nc ?_
 refine k_seq ?_
 refine k_sg ?_
 refine s_run rfl rfl (rai rfl) ?_
 refine k_nc ?_
 refine k_b ?_
 refine k_loop (fun z f W => ∃ (i : Nat) (t : Int), i ≤ n ∧ z = n - i ∧ t = hld (L.take i) m ∧ f 1 = .int .i64 m ∧ f 2 = ptrL p2 ∧ f 5 = .int .i64 t ∧ f 6 = .int .i64 i ∧ Heap w [] [blk p2 (docC A n c q pk tk) 31] W) n ⟨0, 0, by omega, rfl, rfl, rfl, rfl, rfl, rfl, H⟩ ?_
 clear H
 rintro z f W ⟨i, t, hi, rfl, ht, f1, f2, f5, f6, H⟩
 obtain ⟨f, rfl⟩ := live4 f1 f2 f5 f6
 clear f1 f2 f5 f6
 by_cases hlt : i < n
 ·obtain ⟨x, hx⟩ : ∃ x, L[i]? = some x := ⟨_, List.getElem?_eq_getElem (by omega)⟩
  obtain ⟨b, o, rfl, _, hrd⟩ := hS (by rw [enC_len]; omega)
  obtain ⟨g1, g2, g3⟩ := enC_get L i x hx
  have c1 := hrd _ _ g1
  have c3 := hrd _ _ g3
  have hst := hld_take L i x hx m
  rw [← ht] at hst
  have hb1 := hld_bd (L.take i) m (fun y hy => hk y (List.mem_of_mem_take hy))
  have hb2 := hk x (List.mem_of_getElem? hx)
  rw [← ht, List.length_take] at hb1
  by_cases h1 : x.1.1 = m
  ·rw [if_pos h1] at hst
   refine k_seq ?_
   refine k_sg ?_
   refine s_run rfl rfl (rmi rfl) ?_
   refine s_run rfl rfl (r_fa0 rfl fo31_0) ?_
   refine s_run rfl rfl (r_lo H 0 rfl rfl rfl ag28) ?_
   refine s_run rfl rfl (r_len rfl Try.underlying28) ?_
   refine s_run rfl rfl (r_lssT rfl rfl (by omega)) ?_
   refine k_nc ?_
   refine k_t rfl ?_
   refine k_skip ?_
   refine c_norm ?_
   refine k_seq ?_
   refine k_b ?_
   refine k_sg ?_
   refine s_run rfl rfl (r_fa0 rfl fo31_0) ?_
   refine s_run rfl rfl (r_lo H 0 rfl rfl rfl ag28) ?_
   refine s_run rfl rfl (rmi rfl) ?_
   refine s_run rfl rfl (r_ix (i := i) rfl rfl (by omega) (by omega) Try.underlying28 sz100) ?_
   refine s_run rfl rfl (r_fa rfl fo100_0) ?_
   refine s_run rfl rfl (r_lr H rfl c1 (by simp) ag3) ?_
   refine s_run rfl rfl (rmi rfl) ?_
   refine s_run rfl rfl (r_eqlT rfl rfl (by omega)) ?_
   refine k_nc ?_
   refine k_t rfl ?_
   refine k_rg ?_
   refine s_run rfl rfl (rmi rfl) ?_
   refine s_run rfl rfl (r_fa0 rfl fo31_0) ?_
   refine s_run rfl rfl (r_lo H 0 rfl rfl rfl ag28) ?_
   refine s_run rfl rfl (rmi rfl) ?_
   refine s_run rfl rfl (r_ix (i := i) rfl rfl (by omega) (by omega) Try.underlying28 sz100) ?_
   refine s_run rfl rfl (r_fa rfl fo100_2) ?_
   refine s_run rfl rfl (r_lr H rfl c3 (by simp) ag3) ?_
   refine s_run rfl rfl (r_add rfl rfl (wI (by omega))) ?_
   refine s_run rfl rfl (rai rfl) ?_
   refine k_nil ?_
   refine b_norm ?_
   refine c_norm ?_
   refine k_rg ?_
   refine s_run rfl rfl (rmi rfl) ?_
   refine s_run rfl rfl (r_add rfl rfl (wI (by omega))) ?_
   refine s_run rfl rfl (rai rfl) ?_
   refine k_nil ?_
   refine c_round ?_
   refine ⟨_, _, ?_, rfl, i + 1, _, by omega, rfl, hst.symm, rfl, rfl, rfl, rfl, H⟩
   omega
  ·rw [if_neg h1] at hst
   refine k_seq ?_
   refine k_sg ?_
   refine s_run rfl rfl (rmi rfl) ?_
   refine s_run rfl rfl (r_fa0 rfl fo31_0) ?_
   refine s_run rfl rfl (r_lo H 0 rfl rfl rfl ag28) ?_
   refine s_run rfl rfl (r_len rfl Try.underlying28) ?_
   refine s_run rfl rfl (r_lssT rfl rfl (by omega)) ?_
   refine k_nc ?_
   refine k_t rfl ?_
   refine k_skip ?_
   refine c_norm ?_
   refine k_seq ?_
   refine k_b ?_
   refine k_sg ?_
   refine s_run rfl rfl (r_fa0 rfl fo31_0) ?_
   refine s_run rfl rfl (r_lo H 0 rfl rfl rfl ag28) ?_
   refine s_run rfl rfl (rmi rfl) ?_
   refine s_run rfl rfl (r_ix (i := i) rfl rfl (by omega) (by omega) Try.underlying28 sz100) ?_
   refine s_run rfl rfl (r_fa rfl fo100_0) ?_
   refine s_run rfl rfl (r_lr H rfl c1 (by simp) ag3) ?_
   refine s_run rfl rfl (rmi rfl) ?_
   refine s_run rfl rfl (r_eqlF rfl rfl (by omega)) ?_
   refine k_nc ?_
   refine k_f rfl ?_
   refine k_skip ?_
   refine b_norm ?_
   refine c_norm ?_
   refine k_rg ?_
   refine s_run rfl rfl (rmi rfl) ?_
   refine s_run rfl rfl (r_add rfl rfl (wI (by omega))) ?_
   refine s_run rfl rfl (rai rfl) ?_
   refine k_nil ?_
   refine c_round ?_
   refine ⟨_, _, ?_, rfl, i + 1, t, by omega, rfl, by rw [hst]; omega, rfl, rfl, rfl, rfl, H⟩
   omega
 ·obtain rfl : i = n := by omega
  rw [show L.take i = L by rw [← hl]; exact List.take_length] at ht
  subst ht
  refine k_seq ?_
  refine k_sg ?_
  refine s_run rfl rfl (rmi rfl) ?_
  refine s_run rfl rfl (r_fa0 rfl fo31_0) ?_
  refine s_run rfl rfl (r_lo H 0 rfl rfl rfl ag28) ?_
  refine s_run rfl rfl (r_len rfl Try.underlying28) ?_
  refine s_run rfl rfl (r_lssF rfl rfl (by omega)) ?_
  refine k_nc ?_
  refine k_f rfl ?_
  refine k_exit ?_
  refine c_exit ?_
  refine c_exit ?_
  refine b_hit ?_
  refine c_norm ?_
  refine k_sg ?_
  refine s_run rfl rfl (rmi rfl) ?_
  refine s_run rfl rfl (rai rfl) ?_
  refine k_nc ?_
  refine k_ret ?_
  refine fin1r (v := .int _ _) rfl rfl ?_
  exact ⟨rfl, H.only⟩
end
end Go.Proofs.Ytpbimgopiammaaa
end

section
namespace Go.Proofs.Ytpbimgopiammaaa
open Go.RowKit
set_option maxRecDepth 100000
set_option maxHeartbeats 4000000
/-- the document's ledger by value -/
def docV (A : Option Addr) (n c : Nat) (s : LdS) : Value := .agg (docC A n c s.q s.pk s.tk).toArray
structure DocOk (F : List Nat) (w : World) (A : Option Addr) (n c : Nat) (s : LdS) : Prop where
 sees : Sees C1.v w F A (enC s.L)
 len : s.L.length = n
 cap : n ≤ c
theorem DocOk.later {F G : List Nat} {w W : World} {A : Option Addr} {n c : Nat} {s : LdS} (h : DocOk F w A n c s) (hO : Only G w W) (hG : ∀ i ∈ G, i ∈ F) : DocOk F W A n c s := ⟨h.sees.later hO hG, h.len, h.cap⟩
theorem own_len {size n c : Nat} {A : Option Addr} {xs : List Value} {T : TypeId} {w0 W : World} {F : List Nat} {L : List Ent} (H : Heap w0 F L W) (j : Nat) (hj : L[j]? = some (ownN size (.slice A n c) n xs T)) : xs.length = n * size := (H.own_get j hj).1
theorem rTakeR {F : List Nat} {A : Option Addr} {n c : Nat} {s : LdS} {w : World} {N : Nat} (hD : DocOk F w A n c s) (hok : LdOk N s) (hN : N ≤ 1000) (m a x : Int) :
  Calls Try.prog 34 [docV A n c s, .int .i64 m, .int .i64 a, .int .i64 x].toArray w fun e w' => ∃ A' n' c', e = .returned (.tuple [docV A' n' c' (s.take m a x).1, .int .i64 (s.take m a x).2].toArray) ∧ ((A' = A ∧ n' = n ∧ c' = c ∧ (s.take m a x).2 ≠ 0 ∧ Only [] w w') ∨ Heap w [] [ownN 3 (.slice A' n' c') n' ((enC (s.take m a x).1.L).map C1.v) 100] w') := by
 have H := Heap.nil w
 have hS := hD.sees.mono (G := []) (by simp)
 have hl := hD.len
 have hNn := hok.len
 have hk2 : ∀ x ∈ s.L, 1 ≤ x.2 ∧ x.2 ≤ 1048576 := fun x hx => ⟨(hok.key x hx).2.2.1, (hok.key x hx).2.2.2.1⟩
 have hFi := fun {W : World} (h : Only [] w W) => rFind (c := c) (q := s.q) (pk := s.pk) (tk := s.tk) (hS.later h (by simp)) hl (by omega) hok.nd m a
 have hHe := fun {W : World} (h : Only [] w W) => rHeld (c := c) (q := s.q) (pk := s.pk) (tk := s.tk) (hS.later h (by simp)) hl (by omega) hk2 m
 have hel := enC_len s.L
 unfold LdS.take
 unfold docV
 by_cases hbad : m < 0 ∨ 4 ≤ m ∨ x < 1 ∨ 1048576 < x
 ·rw [if_pos hbad]
  by_cases b1 : m < 0
  ·refine k_in (N := 81) Try.func34 rfl rfl rfl ?_
   refine k_sg ?_
   refine s_box H rfl rfl ?_
   intro p4 _ H'; clear H; have H := H'; clear H'
   refine s_al H rfl inf31 ?_
   intro p8 _ H'; clear H; have H := H'; clear H'
   refine s_run rfl rfl (rai rfl) ?_
   refine k_nc ?_
   refine k_seq ?_
   refine k_sg ?_
   refine s_run rfl rfl (rmi rfl) ?_
   refine s_run rfl rfl (r_lssT rfl rfl (by omega)) ?_
   refine s_run rfl rfl (rmb rfl) ?_
   refine s_off rfl (g_off 12 (by kernel_rfl) rfl rfl) ?_
   refine s_off rfl (g_off 12 (by kernel_rfl) rfl rfl) ?_
   refine s_run rfl rfl (r_pkT (v := .bool _) rfl rfl) ?_
   refine s_run rfl rfl (rmb rfl) ?_
   refine s_off rfl (g_off 16 (by kernel_rfl) rfl rfl) ?_
   refine s_off rfl (g_off 16 (by kernel_rfl) rfl rfl) ?_
   refine s_run rfl rfl (r_pkT (v := .bool _) rfl rfl) ?_
   refine s_run rfl rfl (rmb rfl) ?_
   refine s_off rfl (g_off 20 (by kernel_rfl) rfl rfl) ?_
   refine s_off rfl (g_off 20 (by kernel_rfl) rfl rfl) ?_
   refine s_run rfl rfl (r_pkT (v := .bool _) rfl rfl) ?_
   refine k_nc ?_
   refine k_t rfl ?_
   refine k_sg ?_
   refine s_run rfl rfl (r_la H 1 rfl rfl rfl ag31 sz31) ?_
   refine s_sw H 0 rfl rfl rfl rfl rfl rfl rfl sz31 ?_
   clear H; intro _ H; simp only [jA, jB, jC, jD, jE, jF, jG, jH, jI, jJ, jK, Nat.reduceAdd] at H
   refine s_run rfl rfl (rai rfl) ?_
   refine k_nc ?_
   refine k_ret ?_
   refine c_ret ?_
   refine fx2r rfl (rv_a H 0 rfl rfl rfl ag31 sz31) (rv_t (v := .int _ _) rfl) ?_
   exact ⟨A, n, c, rfl, .inl ⟨rfl, rfl, rfl, by simp, H.only⟩⟩
  by_cases b2 : 4 ≤ m
  ·refine k_in (N := 81) Try.func34 rfl rfl rfl ?_
   refine k_sg ?_
   refine s_box H rfl rfl ?_
   intro p4 _ H'; clear H; have H := H'; clear H'
   refine s_al H rfl inf31 ?_
   intro p8 _ H'; clear H; have H := H'; clear H'
   refine s_run rfl rfl (rai rfl) ?_
   refine k_nc ?_
   refine k_seq ?_
   refine k_sg ?_
   refine s_run rfl rfl (rmi rfl) ?_
   refine s_run rfl rfl (r_lssF rfl rfl (by omega)) ?_
   refine s_run rfl rfl (rmb rfl) ?_
   refine s_run rfl (g_on 12 (by kernel_rfl) rfl) (rmi rfl) ?_
   refine s_run rfl (g_on 12 (by kernel_rfl) rfl) (r_gtrT rfl rfl (by omega)) ?_
   refine s_run rfl rfl (r_pkF (v := .bool _) rfl rfl) ?_
   refine s_run rfl rfl (rmb rfl) ?_
   refine s_off rfl (g_off 16 (by kernel_rfl) rfl rfl) ?_
   refine s_off rfl (g_off 16 (by kernel_rfl) rfl rfl) ?_
   refine s_run rfl rfl (r_pkT (v := .bool _) rfl rfl) ?_
   refine s_run rfl rfl (rmb rfl) ?_
   refine s_off rfl (g_off 20 (by kernel_rfl) rfl rfl) ?_
   refine s_off rfl (g_off 20 (by kernel_rfl) rfl rfl) ?_
   refine s_run rfl rfl (r_pkT (v := .bool _) rfl rfl) ?_
   refine k_nc ?_
   refine k_t rfl ?_
   refine k_sg ?_
   refine s_run rfl rfl (r_la H 1 rfl rfl rfl ag31 sz31) ?_
   refine s_sw H 0 rfl rfl rfl rfl rfl rfl rfl sz31 ?_
   clear H; intro _ H; simp only [jA, jB, jC, jD, jE, jF, jG, jH, jI, jJ, jK, Nat.reduceAdd] at H
   refine s_run rfl rfl (rai rfl) ?_
   refine k_nc ?_
   refine k_ret ?_
   refine c_ret ?_
   refine fx2r rfl (rv_a H 0 rfl rfl rfl ag31 sz31) (rv_t (v := .int _ _) rfl) ?_
   exact ⟨A, n, c, rfl, .inl ⟨rfl, rfl, rfl, by simp, H.only⟩⟩
  by_cases b3 : x < 1
  ·refine k_in (N := 81) Try.func34 rfl rfl rfl ?_
   refine k_sg ?_
   refine s_box H rfl rfl ?_
   intro p4 _ H'; clear H; have H := H'; clear H'
   refine s_al H rfl inf31 ?_
   intro p8 _ H'; clear H; have H := H'; clear H'
   refine s_run rfl rfl (rai rfl) ?_
   refine k_nc ?_
   refine k_seq ?_
   refine k_sg ?_
   refine s_run rfl rfl (rmi rfl) ?_
   refine s_run rfl rfl (r_lssF rfl rfl (by omega)) ?_
   refine s_run rfl rfl (rmb rfl) ?_
   refine s_run rfl (g_on 12 (by kernel_rfl) rfl) (rmi rfl) ?_
   refine s_run rfl (g_on 12 (by kernel_rfl) rfl) (r_gtrF rfl rfl (by omega)) ?_
   refine s_run rfl rfl (r_pkF (v := .bool _) rfl rfl) ?_
   refine s_run rfl rfl (rmb rfl) ?_
   refine s_run rfl (g_on 16 (by kernel_rfl) rfl) (rmi rfl) ?_
   refine s_run rfl (g_on 16 (by kernel_rfl) rfl) (r_lssT rfl rfl (by omega)) ?_
   refine s_run rfl rfl (r_pkF (v := .bool _) rfl rfl) ?_
   refine s_run rfl rfl (rmb rfl) ?_
   refine s_off rfl (g_off 20 (by kernel_rfl) rfl rfl) ?_
   refine s_off rfl (g_off 20 (by kernel_rfl) rfl rfl) ?_
   refine s_run rfl rfl (r_pkT (v := .bool _) rfl rfl) ?_
   refine k_nc ?_
   refine k_t rfl ?_
   refine k_sg ?_
   refine s_run rfl rfl (r_la H 1 rfl rfl rfl ag31 sz31) ?_
   refine s_sw H 0 rfl rfl rfl rfl rfl rfl rfl sz31 ?_
   clear H; intro _ H; simp only [jA, jB, jC, jD, jE, jF, jG, jH, jI, jJ, jK, Nat.reduceAdd] at H
   refine s_run rfl rfl (rai rfl) ?_
   refine k_nc ?_
   refine k_ret ?_
   refine c_ret ?_
   refine fx2r rfl (rv_a H 0 rfl rfl rfl ag31 sz31) (rv_t (v := .int _ _) rfl) ?_
   exact ⟨A, n, c, rfl, .inl ⟨rfl, rfl, rfl, by simp, H.only⟩⟩
  ·refine k_in (N := 81) Try.func34 rfl rfl rfl ?_
   refine k_sg ?_
   refine s_box H rfl rfl ?_
   intro p4 _ H'; clear H; have H := H'; clear H'
   refine s_al H rfl inf31 ?_
   intro p8 _ H'; clear H; have H := H'; clear H'
   refine s_run rfl rfl (rai rfl) ?_
   refine k_nc ?_
   refine k_seq ?_
   refine k_sg ?_
   refine s_run rfl rfl (rmi rfl) ?_
   refine s_run rfl rfl (r_lssF rfl rfl (by omega)) ?_
   refine s_run rfl rfl (rmb rfl) ?_
   refine s_run rfl (g_on 12 (by kernel_rfl) rfl) (rmi rfl) ?_
   refine s_run rfl (g_on 12 (by kernel_rfl) rfl) (r_gtrF rfl rfl (by omega)) ?_
   refine s_run rfl rfl (r_pkF (v := .bool _) rfl rfl) ?_
   refine s_run rfl rfl (rmb rfl) ?_
   refine s_run rfl (g_on 16 (by kernel_rfl) rfl) (rmi rfl) ?_
   refine s_run rfl (g_on 16 (by kernel_rfl) rfl) (r_lssF rfl rfl (by omega)) ?_
   refine s_run rfl rfl (r_pkF (v := .bool _) rfl rfl) ?_
   refine s_run rfl rfl (rmb rfl) ?_
   refine s_run rfl (g_on 20 (by kernel_rfl) rfl) (rmi rfl) ?_
   refine s_run rfl (g_on 20 (by kernel_rfl) rfl) (r_gtrT rfl rfl (by omega)) ?_
   refine s_run rfl rfl (r_pkF (v := .bool _) rfl rfl) ?_
   refine k_nc ?_
   refine k_t rfl ?_
   refine k_sg ?_
   refine s_run rfl rfl (r_la H 1 rfl rfl rfl ag31 sz31) ?_
   refine s_sw H 0 rfl rfl rfl rfl rfl rfl rfl sz31 ?_
   clear H; intro _ H; simp only [jA, jB, jC, jD, jE, jF, jG, jH, jI, jJ, jK, Nat.reduceAdd] at H
   refine s_run rfl rfl (rai rfl) ?_
   refine k_nc ?_
   refine k_ret ?_
   refine c_ret ?_
   refine fx2r rfl (rv_a H 0 rfl rfl rfl ag31 sz31) (rv_t (v := .int _ _) rfl) ?_
   exact ⟨A, n, c, rfl, .inl ⟨rfl, rfl, rfl, by simp, H.only⟩⟩
 ·rw [if_neg hbad]
  cases hg : mget s.L (m, a) with
  | some v =>
   rw [if_pos (show (some v).isSome = true from rfl)]
   rw [hg] at hFi
   refine k_in (N := 81) Try.func34 rfl rfl rfl ?_
   refine k_sg ?_
   refine s_box H rfl rfl ?_
   intro p4 _ H'; clear H; have H := H'; clear H'
   refine s_al H rfl inf31 ?_
   intro p8 _ H'; clear H; have H := H'; clear H'
   refine s_run rfl rfl (rai rfl) ?_
   refine k_nc ?_
   refine k_seq ?_
   refine k_sg ?_
   refine s_run rfl rfl (rmi rfl) ?_
   refine s_run rfl rfl (r_lssF rfl rfl (by omega)) ?_
   refine s_run rfl rfl (rmb rfl) ?_
   refine s_run rfl (g_on 12 (by kernel_rfl) rfl) (rmi rfl) ?_
   refine s_run rfl (g_on 12 (by kernel_rfl) rfl) (r_gtrF rfl rfl (by omega)) ?_
   refine s_run rfl rfl (r_pkF (v := .bool _) rfl rfl) ?_
   refine s_run rfl rfl (rmb rfl) ?_
   refine s_run rfl (g_on 16 (by kernel_rfl) rfl) (rmi rfl) ?_
   refine s_run rfl (g_on 16 (by kernel_rfl) rfl) (r_lssF rfl rfl (by omega)) ?_
   refine s_run rfl rfl (r_pkF (v := .bool _) rfl rfl) ?_
   refine s_run rfl rfl (rmb rfl) ?_
   refine s_run rfl (g_on 20 (by kernel_rfl) rfl) (rmi rfl) ?_
   refine s_run rfl (g_on 20 (by kernel_rfl) rfl) (r_gtrF rfl rfl (by omega)) ?_
   refine s_run rfl rfl (r_pkF (v := .bool _) rfl rfl) ?_
   refine k_nc ?_
   refine k_f rfl ?_
   refine k_skip ?_
   refine c_norm ?_
   refine k_seq ?_
   refine k_sg ?_
   refine s_run rfl rfl (r_la H 1 rfl rfl rfl ag31 sz31) ?_
   refine s_run rfl rfl (rmi rfl) ?_
   refine s_run rfl rfl (rmi rfl) ?_
   refine s_call rfl (hFi H.only) (ca54 rfl) ?_
   rintro e W1 ⟨⟨r, rfl, hr⟩, H'⟩
   refine ⟨_, rfl, ?_⟩
   have H := H.same H'; clear H'; obtain ⟨j, v2, hj, rfl, hm2⟩ : ∃ (j : Nat) (v2 : Int), s.L[j]? = some ((m, a), v2) ∧ r = j ∧ some v = some v2 := hr.elim (fun h => by cases h.1) id
   refine s_run rfl rfl (r_geqT rfl rfl (by omega)) ?_
   refine k_nc ?_
   refine k_t rfl ?_
   refine k_sg ?_
   refine s_run rfl rfl (r_la H 1 rfl rfl rfl ag31 sz31) ?_
   refine s_sw H 0 rfl rfl rfl rfl rfl rfl rfl sz31 ?_
   clear H; intro _ H; simp only [jA, jB, jC, jD, jE, jF, jG, jH, jI, jJ, jK, Nat.reduceAdd] at H
   refine s_run rfl rfl (rai rfl) ?_
   refine k_nc ?_
   refine k_ret ?_
   refine c_ret ?_
   refine fx2r rfl (rv_a H 0 rfl rfl rfl ag31 sz31) (rv_t (v := .int _ _) rfl) ?_
   exact ⟨A, n, c, rfl, .inl ⟨rfl, rfl, rfl, by simp, H.only⟩⟩
  | none =>
   rw [if_neg (show ¬ (none : Option Int).isSome = true by simp)]
   rw [hg] at hFi
   have hhm := hok.h m (by omega) (by omega)
   have hbm := hok.bd m (by omega) (by omega)
   have htk := hok.tk m (by omega) (by omega)
   rw [← hhm] at hHe
   obtain ⟨k, rfl⟩ := Int.eq_ofNat_of_zero_le (show 0 ≤ m by omega)
   have hk : k < 4 := by omega
   by_cases hsp : s.q k ≥ 0 ∧ x > s.q k - s.h k
   ·rw [if_pos hsp]
    obtain ⟨hs1, hs2⟩ := hsp
    refine k_in (N := 81) Try.func34 rfl rfl rfl ?_
    refine k_sg ?_
    refine s_box H rfl rfl ?_
    intro p4 _ H'; clear H; have H := H'; clear H'
    refine s_al H rfl inf31 ?_
    intro p8 _ H'; clear H; have H := H'; clear H'
    refine s_run rfl rfl (rai rfl) ?_
    refine k_nc ?_
    refine k_seq ?_
    refine k_sg ?_
    refine s_run rfl rfl (rmi rfl) ?_
    refine s_run rfl rfl (r_lssF rfl rfl (by omega)) ?_
    refine s_run rfl rfl (rmb rfl) ?_
    refine s_run rfl (g_on 12 (by kernel_rfl) rfl) (rmi rfl) ?_
    refine s_run rfl (g_on 12 (by kernel_rfl) rfl) (r_gtrF rfl rfl (by omega)) ?_
    refine s_run rfl rfl (r_pkF (v := .bool _) rfl rfl) ?_
    refine s_run rfl rfl (rmb rfl) ?_
    refine s_run rfl (g_on 16 (by kernel_rfl) rfl) (rmi rfl) ?_
    refine s_run rfl (g_on 16 (by kernel_rfl) rfl) (r_lssF rfl rfl (by omega)) ?_
    refine s_run rfl rfl (r_pkF (v := .bool _) rfl rfl) ?_
    refine s_run rfl rfl (rmb rfl) ?_
    refine s_run rfl (g_on 20 (by kernel_rfl) rfl) (rmi rfl) ?_
    refine s_run rfl (g_on 20 (by kernel_rfl) rfl) (r_gtrF rfl rfl (by omega)) ?_
    refine s_run rfl rfl (r_pkF (v := .bool _) rfl rfl) ?_
    refine k_nc ?_
    refine k_f rfl ?_
    refine k_skip ?_
    refine c_norm ?_
    refine k_seq ?_
    refine k_sg ?_
    refine s_run rfl rfl (r_la H 1 rfl rfl rfl ag31 sz31) ?_
    refine s_run rfl rfl (rmi rfl) ?_
    refine s_run rfl rfl (rmi rfl) ?_
    refine s_call rfl (hFi H.only) (ca54 rfl) ?_
    rintro e W1 ⟨⟨r, rfl, hr⟩, H'⟩
    refine ⟨_, rfl, ?_⟩
    have H := H.same H'; clear H'; obtain rfl : r = -1 := hr.elim (fun h => h.2) (fun ⟨_, _, _, _, h⟩ => by cases h)
    refine s_run rfl rfl (r_geqF rfl rfl (by omega)) ?_
    refine k_nc ?_
    refine k_f rfl ?_
    refine k_skip ?_
    refine c_norm ?_
    refine k_seq ?_
    refine k_seq ?_
    refine k_q mixed (by kernel_rfl) H ?_
    refine q_run rfl rfl (fun _ H => r_mv (v := .int _ _) rfl) ?_
    refine q_run rfl rfl (fun _ H => r_fa0 rfl fo31_1) ?_
    refine q_run rfl rfl (fun _ H => r_ia1 (i := k) rfl rfl (by omega) (by omega) Try.underlying29 sz3) ?_
    refine q_run rfl rfl (fun _ H => r_lo H 1 rfl rfl (dgq hk) ag3) ?_
    refine q_run rfl rfl (fun _ H => r_geqT rfl rfl (by omega)) ?_
    refine q_run rfl rfl (fun _ H => r_mv (v := .bool _) rfl) ?_
    refine q_run rfl (g_on 36 (by kernel_rfl) rfl) (fun _ H => r_la H 1 rfl rfl rfl ag31 sz31) ?_
    refine q_run rfl (g_on 36 (by kernel_rfl) rfl) (fun _ H => r_mv (v := .int _ _) rfl) ?_
    refine q_call rfl (g_on 36 (by kernel_rfl) rfl) (fun _ H => hHe H.only) (ca53 rfl) ?_
    refine q_run rfl (g_on 36 (by kernel_rfl) rfl) (fun _ H => r_mv (v := .int _ _) rfl) ?_
    refine q_run rfl (g_on 36 (by kernel_rfl) rfl) (fun _ H => r_add rfl rfl (wI (by omega))) ?_
    refine q_run rfl (g_on 36 (by kernel_rfl) rfl) (fun _ H => r_mv (v := .int _ _) rfl) ?_
    refine q_run rfl (g_on 36 (by kernel_rfl) rfl) (fun _ H => r_fa0 rfl fo31_1) ?_
    refine q_run rfl (g_on 36 (by kernel_rfl) rfl) (fun _ H => r_ia1 (i := k) rfl rfl (by omega) (by omega) Try.underlying29 sz3) ?_
    refine q_run rfl (g_on 36 (by kernel_rfl) rfl) (fun _ H => r_lo H 1 rfl rfl (dgq hk) ag3) ?_
    refine q_run rfl (g_on 36 (by kernel_rfl) rfl) (fun _ H => r_gtrT rfl rfl (by omega)) ?_
    refine q_run rfl rfl (fun _ H => r_pkT (v := .bool _) rfl rfl) ?_
    refine q_nil ?_
    intro _ H'; clear H; have H := H'; clear H'
    refine c_norm ?_
    refine k_t rfl ?_
    refine k_sg ?_
    refine s_run rfl rfl (r_la H 1 rfl rfl rfl ag31 sz31) ?_
    refine s_sw H 0 rfl rfl rfl rfl rfl rfl rfl sz31 ?_
    clear H; intro _ H; simp only [jA, jB, jC, jD, jE, jF, jG, jH, jI, jJ, jK, Nat.reduceAdd] at H
    refine s_run rfl rfl (rai rfl) ?_
    refine k_nc ?_
    refine k_ret ?_
    refine c_ret ?_
    refine fx2r rfl (rv_a H 0 rfl rfl rfl ag31 sz31) (rv_t (v := .int _ _) rfl) ?_
    exact ⟨A, n, c, rfl, .inl ⟨rfl, rfl, rfl, by simp, H.only⟩⟩
   ·rw [if_neg hsp]
    have hq : s.q k ≥ 0 → ¬ s.h k + x > s.q k := fun h1 h2 => hsp ⟨h1, by omega⟩
    have hL2 : enC s.L ++ [C1.i .i64 (k : Int), C1.i .i64 a, C1.i .i64 x] = enC (s.L ++ [(((k : Int), a), x)]) := by rw [enC_app]; rfl
    have hh2 : hld (s.L ++ [(((k : Int), a), x)]) k = s.h k + x := by rw [hld_app, ← hhm]; simp [hld]
    have hHe2 := fun {B c2 pk tk} {W : World} h => rHeld (A := B) (n := 0 + n + 1) (c := c2) (q := s.q) (pk := pk) (tk := tk) (L := s.L ++ [(((k : Int), a), x)]) (w := W) h (by rw [List.length_append, hl]; simp) (by omega) (fun y hy => by
     rcases List.mem_append.1 hy with hy | hy
     ·exact hk2 y hy
     ·rw [List.mem_singleton.1 hy]; exact ⟨by show 1 ≤ x; omega, by show x ≤ _; omega⟩) (k : Int)
    rw [hh2] at hHe2
    by_cases hs1 : s.q k ≥ 0
    ·have hq := hq hs1
     refine k_in (N := 81) Try.func34 rfl rfl rfl ?_
     refine k_sg ?_
     refine s_box H rfl rfl ?_
     intro p4 _ H'; clear H; have H := H'; clear H'
     refine s_al H rfl inf31 ?_
     intro p8 _ H'; clear H; have H := H'; clear H'
     refine s_run rfl rfl (rai rfl) ?_
     refine k_nc ?_
     refine k_seq ?_
     refine k_sg ?_
     refine s_run rfl rfl (rmi rfl) ?_
     refine s_run rfl rfl (r_lssF rfl rfl (by omega)) ?_
     refine s_run rfl rfl (rmb rfl) ?_
     refine s_run rfl (g_on 12 (by kernel_rfl) rfl) (rmi rfl) ?_
     refine s_run rfl (g_on 12 (by kernel_rfl) rfl) (r_gtrF rfl rfl (by omega)) ?_
     refine s_run rfl rfl (r_pkF (v := .bool _) rfl rfl) ?_
     refine s_run rfl rfl (rmb rfl) ?_
     refine s_run rfl (g_on 16 (by kernel_rfl) rfl) (rmi rfl) ?_
     refine s_run rfl (g_on 16 (by kernel_rfl) rfl) (r_lssF rfl rfl (by omega)) ?_
     refine s_run rfl rfl (r_pkF (v := .bool _) rfl rfl) ?_
     refine s_run rfl rfl (rmb rfl) ?_
     refine s_run rfl (g_on 20 (by kernel_rfl) rfl) (rmi rfl) ?_
     refine s_run rfl (g_on 20 (by kernel_rfl) rfl) (r_gtrF rfl rfl (by omega)) ?_
     refine s_run rfl rfl (r_pkF (v := .bool _) rfl rfl) ?_
     refine k_nc ?_
     refine k_f rfl ?_
     refine k_skip ?_
     refine c_norm ?_
     refine k_seq ?_
     refine k_sg ?_
     refine s_run rfl rfl (r_la H 1 rfl rfl rfl ag31 sz31) ?_
     refine s_run rfl rfl (rmi rfl) ?_
     refine s_run rfl rfl (rmi rfl) ?_
     refine s_call rfl (hFi H.only) (ca54 rfl) ?_
     rintro e W1 ⟨⟨r, rfl, hr⟩, H'⟩
     refine ⟨_, rfl, ?_⟩
     have H := H.same H'; clear H'; obtain rfl : r = -1 := hr.elim (fun h => h.2) (fun ⟨_, _, _, _, h⟩ => by cases h)
     refine s_run rfl rfl (r_geqF rfl rfl (by omega)) ?_
     refine k_nc ?_
     refine k_f rfl ?_
     refine k_skip ?_
     refine c_norm ?_
     refine k_seq ?_
     refine k_seq ?_
     refine k_q mixed (by kernel_rfl) H ?_
     refine q_run rfl rfl (fun _ H => r_mv (v := .int _ _) rfl) ?_
     refine q_run rfl rfl (fun _ H => r_fa0 rfl fo31_1) ?_
     refine q_run rfl rfl (fun _ H => r_ia1 (i := k) rfl rfl (by omega) (by omega) Try.underlying29 sz3) ?_
     refine q_run rfl rfl (fun _ H => r_lo H 1 rfl rfl (dgq hk) ag3) ?_
     refine q_run rfl rfl (fun _ H => r_geqT rfl rfl (by omega)) ?_
     refine q_run rfl rfl (fun _ H => r_mv (v := .bool _) rfl) ?_
     refine q_run rfl (g_on 36 (by kernel_rfl) rfl) (fun _ H => r_la H 1 rfl rfl rfl ag31 sz31) ?_
     refine q_run rfl (g_on 36 (by kernel_rfl) rfl) (fun _ H => r_mv (v := .int _ _) rfl) ?_
     refine q_call rfl (g_on 36 (by kernel_rfl) rfl) (fun _ H => hHe H.only) (ca53 rfl) ?_
     refine q_run rfl (g_on 36 (by kernel_rfl) rfl) (fun _ H => r_mv (v := .int _ _) rfl) ?_
     refine q_run rfl (g_on 36 (by kernel_rfl) rfl) (fun _ H => r_add rfl rfl (wI (by omega))) ?_
     refine q_run rfl (g_on 36 (by kernel_rfl) rfl) (fun _ H => r_mv (v := .int _ _) rfl) ?_
     refine q_run rfl (g_on 36 (by kernel_rfl) rfl) (fun _ H => r_fa0 rfl fo31_1) ?_
     refine q_run rfl (g_on 36 (by kernel_rfl) rfl) (fun _ H => r_ia1 (i := k) rfl rfl (by omega) (by omega) Try.underlying29 sz3) ?_
     refine q_run rfl (g_on 36 (by kernel_rfl) rfl) (fun _ H => r_lo H 1 rfl rfl (dgq hk) ag3) ?_
     refine q_run rfl (g_on 36 (by kernel_rfl) rfl) (fun _ H => r_gtrF rfl rfl (by omega)) ?_
     refine q_run rfl rfl (fun _ H => r_pkT (v := .bool _) rfl rfl) ?_
     refine q_nil ?_
     intro _ H'; clear H; have H := H'; clear H'
     refine c_norm ?_
     refine k_f rfl ?_
     refine k_skip ?_
     refine c_norm ?_
     refine k_sg ?_
     refine s_bs0 3 (by omega) H rfl Try.underlying28 inf100 ?_
     intro _ _ H'; clear H; have H := H'; clear H'
     refine s_run rfl rfl (r_fa0 rfl fo31_0) ?_
     refine s_run rfl rfl (r_lo H 2 rfl rfl rfl ag28) ?_
     refine s_apsN (enc := C1.v) (size := 3) (xs := []) H 0 rfl rfl rfl rfl (hS) ((by rw [hel, hl])) C1.one (by omega) (by omega) Try.underlying28 inf100 rfl ?_
     intro B1 d1 _ H'; simp only [List.set_cons_zero, List.set_cons_succ, List.take_succ_cons, List.take_zero, List.drop_succ_cons, List.drop_zero, List.cons_append, List.nil_append, List.append_nil, List.length_cons, List.length_nil, Nat.reduceAdd] at H'; clear H; have H := H'; clear H'
     refine s_run rfl rfl (rmi rfl) ?_
     refine s_run rfl rfl (rmi rfl) ?_
     refine s_run rfl rfl (rmi rfl) ?_
     refine s_run rfl rfl (r_bd (bd100_0_1_2 _ _ _) rfl) ?_
     refine s_appN (enc := C1.v) (zs := [C1.i .i64 (k : Int), C1.i .i64 a, C1.i .i64 x]) H 0 rfl rfl rfl rfl C1.one (by omega) (by kernel_rfl) rfl rfl rfl (by omega) Try.underlying28 inf100 rfl ?_
     intro _ B2 d2 _ H'; simp only [List.set_cons_zero, List.set_cons_succ, List.take_succ_cons, List.take_zero, List.drop_succ_cons, List.drop_zero, List.cons_append, List.nil_append, List.append_nil, List.length_cons, List.length_nil, Nat.reduceAdd] at H'; clear H; have H := H'; clear H'
     refine s_run rfl rfl (r_fa0 rfl fo31_0) ?_
     refine s_st (u := .slice _ _ _) H 2 rfl rfl rfl rfl rfl rfl sz28 ?_
     clear H; intro _ H; simp only [jA, jB, jC, jD, jE, jF, jG, jH, jI, jJ, jK, Nat.reduceAdd] at H
     refine k_nc ?_
     refine k_seq ?_
     rw [hL2] at H
     refine k_rg ?_
     refine s_run rfl rfl (rmi rfl) ?_
     refine s_run rfl rfl (rmi rfl) ?_
     refine s_run rfl rfl (r_fa0 rfl fo31_3) ?_
     refine s_run rfl rfl (r_ia1 (i := k) rfl rfl (by omega) (by omega) Try.underlying29 sz3) ?_
     refine s_run rfl rfl (r_lo H 2 rfl rfl (dgt hk) ag3) ?_
     refine s_run rfl rfl (rmi rfl) ?_
     refine s_run rfl rfl (r_add rfl rfl (wI (by omega))) ?_
     refine s_run rfl rfl (r_fa0 rfl fo31_3) ?_
     refine s_run rfl rfl (r_ia1 (i := k) rfl rfl (by omega) (by omega) Try.underlying29 sz3) ?_
     refine s_stC H 2 rfl rfl rfl rfl (dgt hk) (dst hk) rfl sz3 ?_
     clear H; intro _ H; simp only [jA, jB, jC, jD, jE, jF, jG, jH, jI, jJ, jK, Nat.reduceAdd] at H
     refine k_nc ?_
     refine k_seq ?_
     refine k_qt 11 mixed (by kernel_rfl) H rfl rfl ?_
     refine q_run rfl rfl (fun _ H => r_mv (v := .int _ _) rfl) ?_
     refine q_run rfl rfl (fun _ H => r_mv (v := .int _ _) rfl) ?_
     refine q_run rfl rfl (fun _ H => r_fa0 rfl fo31_2) ?_
     refine q_run rfl rfl (fun _ H => r_ia1 (i := k) rfl rfl (by omega) (by omega) Try.underlying29 sz3) ?_
     refine q_run rfl rfl (fun _ H => r_lo H 2 rfl rfl (dgp hk) ag3) ?_
     refine q_run rfl rfl (fun _ H => r_la H 2 rfl rfl rfl ag31 sz31) ?_
     refine q_run rfl rfl (fun _ H => r_mv (v := .int _ _) rfl) ?_
     refine q_call rfl rfl (fun _ H => hHe2 (own_seesC H 0 rfl)) (ca53 rfl) ?_
     refine q_run rfl rfl (fun _ H => r_max rfl rfl (imax _ _)) ?_
     refine q_run rfl rfl (fun _ H => r_fa0 rfl fo31_2) ?_
     refine q_run rfl rfl (fun _ H => r_ia1 (i := k) rfl rfl (by omega) (by omega) Try.underlying29 sz3) ?_
     refine q_nil ?_
     intro _ H'; clear H; have H := H'; clear H'
     refine s_stC H 2 rfl rfl rfl rfl (dgp hk) (dsp hk) rfl sz3 ?_
     clear H; intro _ H; simp only [jA, jB, jC, jD, jE, jF, jG, jH, jI, jJ, jK, Nat.reduceAdd] at H
     refine k_nc ?_
     refine k_sg ?_
     refine s_run rfl rfl (r_la H 2 rfl rfl rfl ag31 sz31) ?_
     refine s_sw H 1 rfl rfl rfl rfl rfl rfl rfl sz31 ?_
     clear H; intro _ H; simp only [jA, jB, jC, jD, jE, jF, jG, jH, jI, jJ, jK, Nat.reduceAdd] at H
     refine s_run rfl rfl (rai rfl) ?_
     refine k_nc ?_
     refine k_ret ?_
     refine fx2r rfl (rv_a H 1 rfl rfl rfl ag31 sz31) (rv_t (v := .int _ _) rfl) ?_
     exact ⟨_, _, _, rfl, .inr (Heap.drops (A := [_]) H)⟩
    ·refine k_in (N := 81) Try.func34 rfl rfl rfl ?_
     refine k_sg ?_
     refine s_box H rfl rfl ?_
     intro p4 _ H'; clear H; have H := H'; clear H'
     refine s_al H rfl inf31 ?_
     intro p8 _ H'; clear H; have H := H'; clear H'
     refine s_run rfl rfl (rai rfl) ?_
     refine k_nc ?_
     refine k_seq ?_
     refine k_sg ?_
     refine s_run rfl rfl (rmi rfl) ?_
     refine s_run rfl rfl (r_lssF rfl rfl (by omega)) ?_
     refine s_run rfl rfl (rmb rfl) ?_
     refine s_run rfl (g_on 12 (by kernel_rfl) rfl) (rmi rfl) ?_
     refine s_run rfl (g_on 12 (by kernel_rfl) rfl) (r_gtrF rfl rfl (by omega)) ?_
     refine s_run rfl rfl (r_pkF (v := .bool _) rfl rfl) ?_
     refine s_run rfl rfl (rmb rfl) ?_
     refine s_run rfl (g_on 16 (by kernel_rfl) rfl) (rmi rfl) ?_
     refine s_run rfl (g_on 16 (by kernel_rfl) rfl) (r_lssF rfl rfl (by omega)) ?_
     refine s_run rfl rfl (r_pkF (v := .bool _) rfl rfl) ?_
     refine s_run rfl rfl (rmb rfl) ?_
     refine s_run rfl (g_on 20 (by kernel_rfl) rfl) (rmi rfl) ?_
     refine s_run rfl (g_on 20 (by kernel_rfl) rfl) (r_gtrF rfl rfl (by omega)) ?_
     refine s_run rfl rfl (r_pkF (v := .bool _) rfl rfl) ?_
     refine k_nc ?_
     refine k_f rfl ?_
     refine k_skip ?_
     refine c_norm ?_
     refine k_seq ?_
     refine k_sg ?_
     refine s_run rfl rfl (r_la H 1 rfl rfl rfl ag31 sz31) ?_
     refine s_run rfl rfl (rmi rfl) ?_
     refine s_run rfl rfl (rmi rfl) ?_
     refine s_call rfl (hFi H.only) (ca54 rfl) ?_
     rintro e W1 ⟨⟨r, rfl, hr⟩, H'⟩
     refine ⟨_, rfl, ?_⟩
     have H := H.same H'; clear H'; obtain rfl : r = -1 := hr.elim (fun h => h.2) (fun ⟨_, _, _, _, h⟩ => by cases h)
     refine s_run rfl rfl (r_geqF rfl rfl (by omega)) ?_
     refine k_nc ?_
     refine k_f rfl ?_
     refine k_skip ?_
     refine c_norm ?_
     refine k_seq ?_
     refine k_seq ?_
     refine k_q mixed (by kernel_rfl) H ?_
     refine q_run rfl rfl (fun _ H => r_mv (v := .int _ _) rfl) ?_
     refine q_run rfl rfl (fun _ H => r_fa0 rfl fo31_1) ?_
     refine q_run rfl rfl (fun _ H => r_ia1 (i := k) rfl rfl (by omega) (by omega) Try.underlying29 sz3) ?_
     refine q_run rfl rfl (fun _ H => r_lo H 1 rfl rfl (dgq hk) ag3) ?_
     refine q_run rfl rfl (fun _ H => r_geqF rfl rfl (by omega)) ?_
     refine q_run rfl rfl (fun _ H => r_mv (v := .bool _) rfl) ?_
     refine q_off rfl (g_off 36 (by kernel_rfl) rfl rfl) ?_
     refine q_off rfl (g_off 36 (by kernel_rfl) rfl rfl) ?_
     refine q_off rfl (g_off 36 (by kernel_rfl) rfl rfl) ?_
     refine q_off rfl (g_off 36 (by kernel_rfl) rfl rfl) ?_
     refine q_off rfl (g_off 36 (by kernel_rfl) rfl rfl) ?_
     refine q_off rfl (g_off 36 (by kernel_rfl) rfl rfl) ?_
     refine q_off rfl (g_off 36 (by kernel_rfl) rfl rfl) ?_
     refine q_off rfl (g_off 36 (by kernel_rfl) rfl rfl) ?_
     refine q_off rfl (g_off 36 (by kernel_rfl) rfl rfl) ?_
     refine q_off rfl (g_off 36 (by kernel_rfl) rfl rfl) ?_
     refine q_run rfl rfl (fun _ H => r_pkF (v := .bool _) rfl rfl) ?_
     refine q_nil ?_
     intro _ H'; clear H; have H := H'; clear H'
     refine c_norm ?_
     refine k_f rfl ?_
     refine k_skip ?_
     refine c_norm ?_
     refine k_sg ?_
     refine s_bs0 3 (by omega) H rfl Try.underlying28 inf100 ?_
     intro _ _ H'; clear H; have H := H'; clear H'
     refine s_run rfl rfl (r_fa0 rfl fo31_0) ?_
     refine s_run rfl rfl (r_lo H 2 rfl rfl rfl ag28) ?_
     refine s_apsN (enc := C1.v) (size := 3) (xs := []) H 0 rfl rfl rfl rfl (hS) ((by rw [hel, hl])) C1.one (by omega) (by omega) Try.underlying28 inf100 rfl ?_
     intro B1 d1 _ H'; simp only [List.set_cons_zero, List.set_cons_succ, List.take_succ_cons, List.take_zero, List.drop_succ_cons, List.drop_zero, List.cons_append, List.nil_append, List.append_nil, List.length_cons, List.length_nil, Nat.reduceAdd] at H'; clear H; have H := H'; clear H'
     refine s_run rfl rfl (rmi rfl) ?_
     refine s_run rfl rfl (rmi rfl) ?_
     refine s_run rfl rfl (rmi rfl) ?_
     refine s_run rfl rfl (r_bd (bd100_0_1_2 _ _ _) rfl) ?_
     refine s_appN (enc := C1.v) (zs := [C1.i .i64 (k : Int), C1.i .i64 a, C1.i .i64 x]) H 0 rfl rfl rfl rfl C1.one (by omega) (by kernel_rfl) rfl rfl rfl (by omega) Try.underlying28 inf100 rfl ?_
     intro _ B2 d2 _ H'; simp only [List.set_cons_zero, List.set_cons_succ, List.take_succ_cons, List.take_zero, List.drop_succ_cons, List.drop_zero, List.cons_append, List.nil_append, List.append_nil, List.length_cons, List.length_nil, Nat.reduceAdd] at H'; clear H; have H := H'; clear H'
     refine s_run rfl rfl (r_fa0 rfl fo31_0) ?_
     refine s_st (u := .slice _ _ _) H 2 rfl rfl rfl rfl rfl rfl sz28 ?_
     clear H; intro _ H; simp only [jA, jB, jC, jD, jE, jF, jG, jH, jI, jJ, jK, Nat.reduceAdd] at H
     refine k_nc ?_
     refine k_seq ?_
     rw [hL2] at H
     refine k_rg ?_
     refine s_run rfl rfl (rmi rfl) ?_
     refine s_run rfl rfl (rmi rfl) ?_
     refine s_run rfl rfl (r_fa0 rfl fo31_3) ?_
     refine s_run rfl rfl (r_ia1 (i := k) rfl rfl (by omega) (by omega) Try.underlying29 sz3) ?_
     refine s_run rfl rfl (r_lo H 2 rfl rfl (dgt hk) ag3) ?_
     refine s_run rfl rfl (rmi rfl) ?_
     refine s_run rfl rfl (r_add rfl rfl (wI (by omega))) ?_
     refine s_run rfl rfl (r_fa0 rfl fo31_3) ?_
     refine s_run rfl rfl (r_ia1 (i := k) rfl rfl (by omega) (by omega) Try.underlying29 sz3) ?_
     refine s_stC H 2 rfl rfl rfl rfl (dgt hk) (dst hk) rfl sz3 ?_
     clear H; intro _ H; simp only [jA, jB, jC, jD, jE, jF, jG, jH, jI, jJ, jK, Nat.reduceAdd] at H
     refine k_nc ?_
     refine k_seq ?_
     refine k_qt 11 mixed (by kernel_rfl) H rfl rfl ?_
     refine q_run rfl rfl (fun _ H => r_mv (v := .int _ _) rfl) ?_
     refine q_run rfl rfl (fun _ H => r_mv (v := .int _ _) rfl) ?_
     refine q_run rfl rfl (fun _ H => r_fa0 rfl fo31_2) ?_
     refine q_run rfl rfl (fun _ H => r_ia1 (i := k) rfl rfl (by omega) (by omega) Try.underlying29 sz3) ?_
     refine q_run rfl rfl (fun _ H => r_lo H 2 rfl rfl (dgp hk) ag3) ?_
     refine q_run rfl rfl (fun _ H => r_la H 2 rfl rfl rfl ag31 sz31) ?_
     refine q_run rfl rfl (fun _ H => r_mv (v := .int _ _) rfl) ?_
     refine q_call rfl rfl (fun _ H => hHe2 (own_seesC H 0 rfl)) (ca53 rfl) ?_
     refine q_run rfl rfl (fun _ H => r_max rfl rfl (imax _ _)) ?_
     refine q_run rfl rfl (fun _ H => r_fa0 rfl fo31_2) ?_
     refine q_run rfl rfl (fun _ H => r_ia1 (i := k) rfl rfl (by omega) (by omega) Try.underlying29 sz3) ?_
     refine q_nil ?_
     intro _ H'; clear H; have H := H'; clear H'
     refine s_stC H 2 rfl rfl rfl rfl (dgp hk) (dsp hk) rfl sz3 ?_
     clear H; intro _ H; simp only [jA, jB, jC, jD, jE, jF, jG, jH, jI, jJ, jK, Nat.reduceAdd] at H
     refine k_nc ?_
     refine k_sg ?_
     refine s_run rfl rfl (r_la H 2 rfl rfl rfl ag31 sz31) ?_
     refine s_sw H 1 rfl rfl rfl rfl rfl rfl rfl sz31 ?_
     clear H; intro _ H; simp only [jA, jB, jC, jD, jE, jF, jG, jH, jI, jJ, jK, Nat.reduceAdd] at H
     refine s_run rfl rfl (rai rfl) ?_
     refine k_nc ?_
     refine k_ret ?_
     refine fx2r rfl (rv_a H 1 rfl rfl rfl ag31 sz31) (rv_t (v := .int _ _) rfl) ?_
     exact ⟨_, _, _, rfl, .inr (Heap.drops (A := [_]) H)⟩
theorem take_same {s : LdS} {m a x : Int} (hc : (s.take m a x).2 ≠ 0) : (s.take m a x).1 = s := by
 unfold LdS.take at hc ⊢
 split
 ·rfl
 ·rename_i h1
  rw [if_neg h1] at hc
  split
  ·rfl
  ·rename_i h2
   rw [if_neg h2] at hc
   split
   ·rfl
   ·rename_i h3
    rw [if_neg h3] at hc
    simp at hc
theorem row_doc {F : List Nat} {w w' : World} {L : List Ent} {A : Option Addr} {n c : Nat} {s : LdS} {T : TypeId} (H : Heap w [] L w') (j : Nat) (hj : L[j]? = some (ownN 3 (.slice A n c) n ((enC s.L).map C1.v) T)) (hF : ∀ i ∈ F, i < w.heap.size) : DocOk F w' A n c s := by
 have h := own_len H j hj
 rw [List.length_map, enC_len] at h
 exact ⟨H.own_fresh j hj hF, by omega, own_cap H j hj⟩
theorem rTake {F : List Nat} {A : Option Addr} {n c : Nat} {s : LdS} {w : World} {N : Nat} (hD : DocOk F w A n c s) (hF : ∀ i ∈ F, i < w.heap.size) (hok : LdOk N s) (hN : N ≤ 1000) (m a x : Int) :
  Calls Try.prog 34 [docV A n c s, .int .i64 m, .int .i64 a, .int .i64 x].toArray w fun e w' => ∃ A' n' c', e = .returned (.tuple [docV A' n' c' (s.take m a x).1, .int .i64 (s.take m a x).2].toArray) ∧ DocOk F w' A' n' c' (s.take m a x).1 ∧ Only [] w w' :=
 (rTakeR hD hok hN m a x).mono fun e w' ⟨A', n', c', he, h⟩ => ⟨A', n', c', he, by
  rcases h with ⟨rfl, rfl, rfl, hc, hO⟩ | H
  ·rw [take_same hc]; exact ⟨hD.later hO (by simp), hO⟩
  ·exact ⟨row_doc H 0 rfl hF, H.only⟩⟩
end Go.Proofs.Ytpbimgopiammaaa
end
