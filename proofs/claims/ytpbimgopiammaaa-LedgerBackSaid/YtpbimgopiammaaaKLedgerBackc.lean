/- Parts of the proof, one behind the other. -/
import Derived.Test.YtpbimgopiammaaaKLedgerBackb
set_option linter.unusedSimpArgs false
set_option linter.unusedVariables false
set_option linter.unusedSectionVars false
section
namespace Go.Proofs.Ytpbimgopiammaaa
open Go.RowKit
set_option maxRecDepth 100000
set_option maxHeartbeats 4000000
def enC (L : LdL) : List C1 := L.flatMap fun x => [C1.i .i64 x.1.1, C1.i .i64 x.1.2, C1.i .i64 x.2]
theorem enC_get : ∀ (l : LdL) (i : Nat) (x : (Int × Int) × Int), l[i]? = some x → (enC l)[i * 3]? = some (C1.i .i64 x.1.1) ∧ (enC l)[i * 3 + 1]? = some (C1.i .i64 x.1.2) ∧ (enC l)[i * 3 + 2]? = some (C1.i .i64 x.2)
 | [], i, e, h => by simp at h
 | x :: l, 0, e, h => by simp at h; subst h; exact ⟨rfl, rfl, rfl⟩
 | x :: l, i + 1, e, h => by
  have := enC_get l i e (by simpa using h)
  rw [show (i + 1) * 3 = i * 3 + 3 by omega]
  exact this
theorem enC_len (l : LdL) : (enC l).length = l.length * 3 := by
 induction l with
 | nil => rfl
 | cons x l ih => simp [enC] at ih ⊢; omega
theorem enC_app (a b : LdL) : enC (a ++ b) = enC a ++ enC b := by simp [enC]
theorem enC_take (l : LdL) (k : Nat) : enC (l.take k) = (enC l).take (k * 3) := by
 induction l generalizing k with
 | nil => simp [enC]
 | cons x l ih =>
  cases k with
  | zero => simp [enC]
  | succ k => rw [show (k + 1) * 3 = k * 3 + 3 by omega, List.take_succ_cons]; exact congrArg (fun z => C1.i .i64 x.1.1 :: C1.i .i64 x.1.2 :: C1.i .i64 x.2 :: z) (ih k)
theorem enC_drop (l : LdL) (k : Nat) : enC (l.drop k) = (enC l).drop (k * 3) := by
 induction l generalizing k with
 | nil => simp [enC]
 | cons x l ih =>
  cases k with
  | zero => simp [enC]
  | succ k => rw [show (k + 1) * 3 = k * 3 + 3 by omega, List.drop_succ_cons]; exact ih k
def docC (A : Option Addr) (n c : Nat) (q pk tk : Int → Int) : List Value :=
 [.slice A n c, .int .i64 (q 0), .int .i64 (q 1), .int .i64 (q 2), .int .i64 (q 3), .int .i64 (pk 0), .int .i64 (pk 1), .int .i64 (pk 2), .int .i64 (pk 3), .int .i64 (tk 0), .int .i64 (tk 1), .int .i64 (tk 2), .int .i64 (tk 3)]
section
variable {A : Option Addr} {n c : Nat} {q pk tk : Int → Int} {k : Nat} {v : Int}
theorem dgq (hk : k < 4) : (docC A n c q pk tk)[1 + k]? = some (.int .i64 (q (k : Int))) := by
 rcases (by omega : k = 0 ∨ k = 1 ∨ k = 2 ∨ k = 3) with rfl | rfl | rfl | rfl <;> rfl
theorem dgp (hk : k < 4) : (docC A n c q pk tk)[5 + k]? = some (.int .i64 (pk (k : Int))) := by
 rcases (by omega : k = 0 ∨ k = 1 ∨ k = 2 ∨ k = 3) with rfl | rfl | rfl | rfl <;> rfl
theorem dgt (hk : k < 4) : (docC A n c q pk tk)[9 + k]? = some (.int .i64 (tk (k : Int))) := by
 rcases (by omega : k = 0 ∨ k = 1 ∨ k = 2 ∨ k = 3) with rfl | rfl | rfl | rfl <;> rfl
theorem dsq (hk : k < 4) : (docC A n c q pk tk).set (1 + k) (.int .i64 v) = docC A n c (upI q k v) pk tk := by
 rcases (by omega : k = 0 ∨ k = 1 ∨ k = 2 ∨ k = 3) with rfl | rfl | rfl | rfl <;> rfl
theorem dsp (hk : k < 4) : (docC A n c q pk tk).set (5 + k) (.int .i64 v) = docC A n c q (upI pk k v) tk := by
 rcases (by omega : k = 0 ∨ k = 1 ∨ k = 2 ∨ k = 3) with rfl | rfl | rfl | rfl <;> rfl
theorem dst (hk : k < 4) : (docC A n c q pk tk).set (9 + k) (.int .i64 v) = docC A n c q pk (upI tk k v) := by
 rcases (by omega : k = 0 ∨ k = 1 ∨ k = 2 ∨ k = 3) with rfl | rfl | rfl | rfl <;> rfl
end
theorem docC_q {A : Option Addr} {n c : Nat} {q q' pk tk : Int → Int} (hq : ∀ k : Nat, k < 4 → q k = q' k) : docC A n c q pk tk = docC A n c q' pk tk := by
 have h0 := hq 0 (by omega)
 have h1 := hq 1 (by omega)
 have h2 := hq 2 (by omega)
 have h3 := hq 3 (by omega)
 unfold docC
 rw [show q 0 = q' 0 from h0, show q 1 = q' 1 from h1, show q 2 = q' 2 from h2, show q 3 = q' 3 from h3]
theorem rNew (A : Option Addr) (n c : Nat) (qs : List Int) (w : World) (hS : Sees (Value.int .i64) w [] A qs) (hl : qs.length = n) (hn : n ≤ 1000000) :
  Calls Try.prog 11 [.slice A n c].toArray w fun e w' => e = .returned (.agg (docC none 0 0 (newQ qs) (fun _ => 0) (fun _ => 0)).toArray) ∧ Only [] w w' := by
 have H := Heap.nil w
 refine k_in (N := 31) Try.func11 rfl rfl rfl ?_
 refine k_sg ?_
 refine s_al H rfl inf31 ?_
 intro p2 _ H'; clear H; have H := H'; clear H'
 refine k_nc ?_
 refine k_sg ?_
 refine s_al H rfl inf31 ?_
 intro p3 _ H'; clear H; have H := H'; clear H'
 refine k_nc ?_
 refine k_seq ?_
 refine k_sg ?_
 refine s_run rfl rfl (rai rfl) ?_
 refine k_nc ?_
 refine k_b ?_
 refine k_loop (fun z f W => ∃ (i : Nat) (q : Int → Int), i ≤ 4 ∧ z = 4 - i ∧ (∀ k : Nat, k < i → q k = newQ qs k) ∧ f 0 = .slice A n c ∧ f 2 = ptrL p2 ∧ f 3 = ptrL p3 ∧ f 4 = .int .i64 i ∧ Heap w [] [blk p3 (docC none 0 0 q (fun _ => 0) (fun _ => 0)) 31, blk p2 (docC none 0 0 (fun _ => 0) (fun _ => 0) (fun _ => 0)) 31] W) 4 ⟨0, fun _ => 0, by omega, rfl, by omega, rfl, rfl, rfl, rfl, H⟩ ?_
 clear H
 rintro z f W ⟨i, q, hi, rfl, hq, f0, f2, f3, f4, H⟩
 by_cases hlt : i < 4
 ·by_cases hin : i < n
  ·obtain ⟨x, hx⟩ : ∃ x, qs[i]? = some x := ⟨_, List.getElem?_eq_getElem (by omega)⟩
   obtain ⟨b, o, hA, _, hrd⟩ := hS (by omega)
   have hc := hrd i x hx
   have hnq : newQ qs (i : Int) = max x (-1) := by
    unfold newQ
    rw [Int.toNat_natCast, if_pos (by omega), List.getD_eq_getElem?_getD, hx]; rfl
   rw [hA] at f0
   obtain ⟨f, rfl⟩ := live4 f0 f2 f3 f4
   clear f0 f2 f3 f4
   by_cases hx0 : x ≥ 0
   ·refine k_seq ?_
    refine k_sg ?_
    refine s_run rfl rfl (rmi rfl) ?_
    refine s_run rfl rfl (r_lssT rfl rfl (by omega)) ?_
    refine k_nc ?_
    refine k_t rfl ?_
    refine k_skip ?_
    refine c_norm ?_
    refine k_seq ?_
    refine k_b ?_
    refine k_sg ?_
    refine s_run rfl rfl (rmi rfl) ?_
    refine s_run rfl rfl (r_fa0 rfl fo31_1) ?_
    refine s_run rfl rfl (r_ia1 (i := i) rfl rfl (by omega) (by omega) Try.underlying29 sz3) ?_
    refine s_stC H 0 rfl rfl rfl rfl (dgq hlt) (dsq hlt) rfl sz3 ?_
    clear H; intro _ H; simp only [jA, jB, jC, jD, jE, jF, jG, jH, jI, jJ, jK, Nat.reduceAdd] at H
    refine k_nc ?_
    refine k_sg ?_
    refine s_run rfl rfl (rmi rfl) ?_
    refine s_run rfl rfl (rms rfl) ?_
    refine s_run rfl rfl (r_len rfl Try.underlying22) ?_
    refine s_run rfl rfl (r_lssT rfl rfl (by omega)) ?_
    refine s_run rfl rfl (rmb rfl) ?_
    refine s_run rfl (g_on 16 (by kernel_rfl) rfl) (rms rfl) ?_
    refine s_run rfl (g_on 16 (by kernel_rfl) rfl) (rmi rfl) ?_
    refine s_run rfl (g_on 16 (by kernel_rfl) rfl) (r_ix1o (i := i) rfl rfl (by omega) (by omega) Try.underlying22 sz3) ?_
    refine s_run rfl (g_on 16 (by kernel_rfl) rfl) (r_lr H rfl hc (by simp) ag3) ?_
    refine s_run rfl (g_on 16 (by kernel_rfl) rfl) (r_geqT rfl rfl (by omega)) ?_
    refine s_run rfl rfl (r_pkT (v := .bool _) rfl rfl) ?_
    refine k_nc ?_
    refine k_t rfl ?_
    refine k_rg ?_
    refine s_run rfl rfl (rmi rfl) ?_
    refine s_run rfl rfl (rms rfl) ?_
    refine s_run rfl rfl (rmi rfl) ?_
    refine s_run rfl rfl (r_ix1o (i := i) rfl rfl (by omega) (by omega) Try.underlying22 sz3) ?_
    refine s_run rfl rfl (r_lr H rfl hc (by simp) ag3) ?_
    refine s_run rfl rfl (r_fa0 rfl fo31_1) ?_
    refine s_run rfl rfl (r_ia1 (i := i) rfl rfl (by omega) (by omega) Try.underlying29 sz3) ?_
    refine s_stC H 0 rfl rfl rfl rfl (dgq hlt) (dsq hlt) rfl sz3 ?_
    clear H; intro _ H; simp only [jA, jB, jC, jD, jE, jF, jG, jH, jI, jJ, jK, Nat.reduceAdd] at H
    refine k_nil ?_
    refine b_norm ?_
    refine c_norm ?_
    refine k_rg ?_
    refine s_run rfl rfl (rmi rfl) ?_
    refine s_run rfl rfl (r_add rfl rfl (wI (by omega))) ?_
    refine s_run rfl rfl (rai rfl) ?_
    refine k_nil ?_
    refine c_round ?_
    refine ⟨_, _, ?_, rfl, i + 1, _, by omega, rfl, fun k hk => ?_, by rw [hA]; rfl, rfl, rfl, rfl, H⟩
    ·omega
    ·by_cases e : k = i
     ·subst e; rw [upI_at, hnq]; omega
     ·rw [upI_off _ _ (by omega), upI_off _ _ (by omega)]; exact hq k (by omega)
   ·refine k_seq ?_
    refine k_sg ?_
    refine s_run rfl rfl (rmi rfl) ?_
    refine s_run rfl rfl (r_lssT rfl rfl (by omega)) ?_
    refine k_nc ?_
    refine k_t rfl ?_
    refine k_skip ?_
    refine c_norm ?_
    refine k_seq ?_
    refine k_b ?_
    refine k_sg ?_
    refine s_run rfl rfl (rmi rfl) ?_
    refine s_run rfl rfl (r_fa0 rfl fo31_1) ?_
    refine s_run rfl rfl (r_ia1 (i := i) rfl rfl (by omega) (by omega) Try.underlying29 sz3) ?_
    refine s_stC H 0 rfl rfl rfl rfl (dgq hlt) (dsq hlt) rfl sz3 ?_
    clear H; intro _ H; simp only [jA, jB, jC, jD, jE, jF, jG, jH, jI, jJ, jK, Nat.reduceAdd] at H
    refine k_nc ?_
    refine k_sg ?_
    refine s_run rfl rfl (rmi rfl) ?_
    refine s_run rfl rfl (rms rfl) ?_
    refine s_run rfl rfl (r_len rfl Try.underlying22) ?_
    refine s_run rfl rfl (r_lssT rfl rfl (by omega)) ?_
    refine s_run rfl rfl (rmb rfl) ?_
    refine s_run rfl (g_on 16 (by kernel_rfl) rfl) (rms rfl) ?_
    refine s_run rfl (g_on 16 (by kernel_rfl) rfl) (rmi rfl) ?_
    refine s_run rfl (g_on 16 (by kernel_rfl) rfl) (r_ix1o (i := i) rfl rfl (by omega) (by omega) Try.underlying22 sz3) ?_
    refine s_run rfl (g_on 16 (by kernel_rfl) rfl) (r_lr H rfl hc (by simp) ag3) ?_
    refine s_run rfl (g_on 16 (by kernel_rfl) rfl) (r_geqF rfl rfl (by omega)) ?_
    refine s_run rfl rfl (r_pkT (v := .bool _) rfl rfl) ?_
    refine k_nc ?_
    refine k_f rfl ?_
    refine k_skip ?_
    refine b_norm ?_
    refine c_norm ?_
    refine k_rg ?_
    refine s_run rfl rfl (rmi rfl) ?_
    refine s_run rfl rfl (r_add rfl rfl (wI (by omega))) ?_
    refine s_run rfl rfl (rai rfl) ?_
    refine k_nil ?_
    refine c_round ?_
    refine ⟨_, _, ?_, rfl, i + 1, _, by omega, rfl, fun k hk => ?_, by rw [hA]; rfl, rfl, rfl, rfl, H⟩
    ·omega
    ·by_cases e : k = i
     ·subst e; rw [upI_at, hnq]; omega
     ·rw [upI_off _ _ (by omega)]; exact hq k (by omega)
  ·have hnq : newQ qs (i : Int) = -1 := by
    unfold newQ
    rw [Int.toNat_natCast, if_neg (by omega)]
   obtain ⟨f, rfl⟩ := live4 f0 f2 f3 f4
   clear f0 f2 f3 f4
   refine k_seq ?_
   refine k_sg ?_
   refine s_run rfl rfl (rmi rfl) ?_
   refine s_run rfl rfl (r_lssT rfl rfl (by omega)) ?_
   refine k_nc ?_
   refine k_t rfl ?_
   refine k_skip ?_
   refine c_norm ?_
   refine k_seq ?_
   refine k_b ?_
   refine k_sg ?_
   refine s_run rfl rfl (rmi rfl) ?_
   refine s_run rfl rfl (r_fa0 rfl fo31_1) ?_
   refine s_run rfl rfl (r_ia1 (i := i) rfl rfl (by omega) (by omega) Try.underlying29 sz3) ?_
   refine s_stC H 0 rfl rfl rfl rfl (dgq hlt) (dsq hlt) rfl sz3 ?_
   clear H; intro _ H; simp only [jA, jB, jC, jD, jE, jF, jG, jH, jI, jJ, jK, Nat.reduceAdd] at H
   refine k_nc ?_
   refine k_sg ?_
   refine s_run rfl rfl (rmi rfl) ?_
   refine s_run rfl rfl (rms rfl) ?_
   refine s_run rfl rfl (r_len rfl Try.underlying22) ?_
   refine s_run rfl rfl (r_lssF rfl rfl (by omega)) ?_
   refine s_run rfl rfl (rmb rfl) ?_
   refine s_off rfl (g_off 16 (by kernel_rfl) rfl rfl) ?_
   refine s_off rfl (g_off 16 (by kernel_rfl) rfl rfl) ?_
   refine s_off rfl (g_off 16 (by kernel_rfl) rfl rfl) ?_
   refine s_off rfl (g_off 16 (by kernel_rfl) rfl rfl) ?_
   refine s_off rfl (g_off 16 (by kernel_rfl) rfl rfl) ?_
   refine s_run rfl rfl (r_pkF (v := .bool _) rfl rfl) ?_
   refine k_nc ?_
   refine k_f rfl ?_
   refine k_skip ?_
   refine b_norm ?_
   refine c_norm ?_
   refine k_rg ?_
   refine s_run rfl rfl (rmi rfl) ?_
   refine s_run rfl rfl (r_add rfl rfl (wI (by omega))) ?_
   refine s_run rfl rfl (rai rfl) ?_
   refine k_nil ?_
   refine c_round ?_
   refine ⟨_, _, ?_, rfl, i + 1, _, by omega, rfl, fun k hk => ?_, rfl, rfl, rfl, rfl, H⟩
   ·omega
   ·by_cases e : k = i
    ·subst e; rw [upI_at, hnq]
    ·rw [upI_off _ _ (by omega)]; exact hq k (by omega)
 ·obtain rfl : i = 4 := by omega
  obtain ⟨f, rfl⟩ := live4 f0 f2 f3 f4
  clear f0 f2 f3 f4
  rw [docC_q hq] at H
  refine k_seq ?_
  refine k_sg ?_
  refine s_run rfl rfl (rmi rfl) ?_
  refine s_run rfl rfl (r_lssF rfl rfl (by omega)) ?_
  refine k_nc ?_
  refine k_f rfl ?_
  refine k_exit ?_
  refine c_exit ?_
  refine c_exit ?_
  refine b_hit ?_
  refine c_norm ?_
  refine k_sg ?_
  refine s_run rfl rfl (r_la H 0 rfl rfl rfl ag31 sz31) ?_
  refine s_sw H 1 rfl rfl rfl rfl rfl rfl rfl sz31 ?_
  clear H; intro _ H; simp only [jA, jB, jC, jD, jE, jF, jG, jH, jI, jJ, jK, Nat.reduceAdd] at H
  refine k_nc ?_
  refine k_ret ?_
  refine fx1r rfl (rv_a H 1 rfl rfl rfl ag31 sz31) ?_
  exact ⟨rfl, H.only⟩
section
variable {A : Option Addr} {n c : Nat} {q pk tk : Int → Int} {L : LdL} {w : World}
theorem rFind (hS : Sees C1.v w [] A (enC L)) (hl : L.length = n) (hn : n ≤ 10000) (hd : (L.map Prod.fst).Nodup) (m a : Int) :
  Calls Try.prog 54 [.agg (docC A n c q pk tk).toArray, .int .i64 m, .int .i64 a].toArray w fun e w' => (∃ r, e = .returned (.int .i64 r) ∧ (mget L (m, a) = none ∧ r = -1 ∨ ∃ (j : Nat) (v : Int), L[j]? = some ((m, a), v) ∧ r = j ∧ mget L (m, a) = some v)) ∧ Only [] w w' := by
 have H := Heap.nil w
 refine k_in (N := 34) Try.func54 rfl rfl rfl ?_
 refine k_sg ?_
 refine s_box H rfl rfl ?_
 intro p3 _ H'; clear H; have H := H'; clear H'
 refine s_run rfl rfl (rai rfl) ?_
 refine k_nc ?_
 refine k_seq ?_
 refine k_sg ?_
 refine s_run rfl rfl (rai rfl) ?_
 refine k_nc ?_
 refine k_b ?_
 refine k_loop (fun z f W => ∃ (i : Nat), i ≤ n ∧ z = n - i ∧ (∀ j x, j < i → L[j]? = some x → x.1 ≠ (m, a)) ∧ f 1 = .int .i64 m ∧ f 2 = .int .i64 a ∧ f 3 = ptrL p3 ∧ f 7 = .int .i64 i ∧ Heap w [] [blk p3 (docC A n c q pk tk) 31] W) n ⟨0, by omega, rfl, by omega, rfl, rfl, rfl, rfl, H⟩ ?_
 clear H
 rintro z f W ⟨i, hi, rfl, hno, f1, f2, f3, f7, H⟩
 obtain ⟨f, rfl⟩ := live4 f1 f2 f3 f7
 clear f1 f2 f3 f7
 by_cases hlt : i < n
 ·obtain ⟨x, hx⟩ : ∃ x, L[i]? = some x := ⟨_, List.getElem?_eq_getElem (by omega)⟩
  obtain ⟨b, o, rfl, _, hrd⟩ := hS (by rw [enC_len]; omega)
  obtain ⟨g1, g2, g3⟩ := enC_get L i x hx
  have c1 := hrd _ _ g1
  have c2 := hrd _ _ g2
  have hnext : x.1 ≠ (m, a) → ∀ j y, j < i + 1 → L[j]? = some y → y.1 ≠ (m, a) := fun h j y hj hy => by
   by_cases e : j = i
   ·subst e; rw [hx] at hy; injection hy with hy; subst hy; exact h
   ·exact hno j y (by omega) hy
  by_cases h1 : x.1.1 = m
  ·by_cases h2 : x.1.2 = a
   ·have hxx : x.1 = (m, a) := by rw [← h1, ← h2]
    obtain ⟨s1, _, _⟩ := m_some L i x hx hd
    refine k_seq ?_
    refine k_sg ?_
    refine s_run rfl rfl (rmi rfl) ?_
    refine s_run rfl rfl (r_fa0 rfl fo31_0) ?_
    refine s_run rfl rfl (r_lo H 0 rfl rfl rfl ag28) ?_
    refine s_run rfl rfl (r_len rfl Try.underlying28) ?_
    refine s_run rfl rfl (r_lssT rfl rfl (by omega)) ?_
    refine k_nc ?_
    refine k_t rfl ?_
    refine k_skip ?_
    refine c_norm ?_
    refine k_seq ?_
    refine k_b ?_
    refine k_sg ?_
    refine s_run rfl rfl (r_fa0 rfl fo31_0) ?_
    refine s_run rfl rfl (r_lo H 0 rfl rfl rfl ag28) ?_
    refine s_run rfl rfl (rmi rfl) ?_
    refine s_run rfl rfl (r_ix (i := i) rfl rfl (by omega) (by omega) Try.underlying28 sz100) ?_
    refine s_run rfl rfl (r_fa rfl fo100_0) ?_
    refine s_run rfl rfl (r_lr H rfl c1 (by simp) ag3) ?_
    refine s_run rfl rfl (rmi rfl) ?_
    refine s_run rfl rfl (r_eqlT rfl rfl (by omega)) ?_
    refine s_run rfl rfl (rmb rfl) ?_
    refine s_run rfl (g_on 23 (by kernel_rfl) rfl) (r_fa0 rfl fo31_0) ?_
    refine s_run rfl (g_on 23 (by kernel_rfl) rfl) (r_lo H 0 rfl rfl rfl ag28) ?_
    refine s_run rfl (g_on 23 (by kernel_rfl) rfl) (rmi rfl) ?_
    refine s_run rfl (g_on 23 (by kernel_rfl) rfl) (r_ix (i := i) rfl rfl (by omega) (by omega) Try.underlying28 sz100) ?_
    refine s_run rfl (g_on 23 (by kernel_rfl) rfl) (r_fa rfl fo100_1) ?_
    refine s_run rfl (g_on 23 (by kernel_rfl) rfl) (r_lr H rfl c2 (by simp) ag3) ?_
    refine s_run rfl (g_on 23 (by kernel_rfl) rfl) (rmi rfl) ?_
    refine s_run rfl (g_on 23 (by kernel_rfl) rfl) (r_eqlT rfl rfl (by omega)) ?_
    refine s_run rfl rfl (r_pkT (v := .bool _) rfl rfl) ?_
    refine k_nc ?_
    refine k_t rfl ?_
    refine k_sg ?_
    refine s_run rfl rfl (rmi rfl) ?_
    refine s_run rfl rfl (rai rfl) ?_
    refine k_nc ?_
    refine k_ret ?_
    refine b_ret ?_
    refine c_ret ?_
    refine c_ret ?_
    refine b_ret ?_
    refine c_ret ?_
    refine fin1r (v := .int _ _) rfl rfl ?_
    refine ⟨⟨_, rfl, .inr ⟨i, x.2, ?_, rfl, ?_⟩⟩, H.only⟩
    ·rw [hx, ← hxx]
    ·rw [← hxx]; exact s1
   ·refine k_seq ?_
    refine k_sg ?_
    refine s_run rfl rfl (rmi rfl) ?_
    refine s_run rfl rfl (r_fa0 rfl fo31_0) ?_
    refine s_run rfl rfl (r_lo H 0 rfl rfl rfl ag28) ?_
    refine s_run rfl rfl (r_len rfl Try.underlying28) ?_
    refine s_run rfl rfl (r_lssT rfl rfl (by omega)) ?_
    refine k_nc ?_
    refine k_t rfl ?_
    refine k_skip ?_
    refine c_norm ?_
    refine k_seq ?_
    refine k_b ?_
    refine k_sg ?_
    refine s_run rfl rfl (r_fa0 rfl fo31_0) ?_
    refine s_run rfl rfl (r_lo H 0 rfl rfl rfl ag28) ?_
    refine s_run rfl rfl (rmi rfl) ?_
    refine s_run rfl rfl (r_ix (i := i) rfl rfl (by omega) (by omega) Try.underlying28 sz100) ?_
    refine s_run rfl rfl (r_fa rfl fo100_0) ?_
    refine s_run rfl rfl (r_lr H rfl c1 (by simp) ag3) ?_
    refine s_run rfl rfl (rmi rfl) ?_
    refine s_run rfl rfl (r_eqlT rfl rfl (by omega)) ?_
    refine s_run rfl rfl (rmb rfl) ?_
    refine s_run rfl (g_on 23 (by kernel_rfl) rfl) (r_fa0 rfl fo31_0) ?_
    refine s_run rfl (g_on 23 (by kernel_rfl) rfl) (r_lo H 0 rfl rfl rfl ag28) ?_
    refine s_run rfl (g_on 23 (by kernel_rfl) rfl) (rmi rfl) ?_
    refine s_run rfl (g_on 23 (by kernel_rfl) rfl) (r_ix (i := i) rfl rfl (by omega) (by omega) Try.underlying28 sz100) ?_
    refine s_run rfl (g_on 23 (by kernel_rfl) rfl) (r_fa rfl fo100_1) ?_
    refine s_run rfl (g_on 23 (by kernel_rfl) rfl) (r_lr H rfl c2 (by simp) ag3) ?_
    refine s_run rfl (g_on 23 (by kernel_rfl) rfl) (rmi rfl) ?_
    refine s_run rfl (g_on 23 (by kernel_rfl) rfl) (r_eqlF rfl rfl (by omega)) ?_
    refine s_run rfl rfl (r_pkT (v := .bool _) rfl rfl) ?_
    refine k_nc ?_
    refine k_f rfl ?_
    refine k_skip ?_
    refine b_norm ?_
    refine c_norm ?_
    refine k_rg ?_
    refine s_run rfl rfl (rmi rfl) ?_
    refine s_run rfl rfl (r_add rfl rfl (wI (by omega))) ?_
    refine s_run rfl rfl (rai rfl) ?_
    refine k_nil ?_
    refine c_round ?_
    refine ⟨_, _, ?_, rfl, i + 1, by omega, rfl, hnext (fun e => h2 (by rw [e])), rfl, rfl, rfl, rfl, H⟩
    omega
  ·refine k_seq ?_
   refine k_sg ?_
   refine s_run rfl rfl (rmi rfl) ?_
   refine s_run rfl rfl (r_fa0 rfl fo31_0) ?_
   refine s_run rfl rfl (r_lo H 0 rfl rfl rfl ag28) ?_
   refine s_run rfl rfl (r_len rfl Try.underlying28) ?_
   refine s_run rfl rfl (r_lssT rfl rfl (by omega)) ?_
   refine k_nc ?_
   refine k_t rfl ?_
   refine k_skip ?_
   refine c_norm ?_
   refine k_seq ?_
   refine k_b ?_
   refine k_sg ?_
   refine s_run rfl rfl (r_fa0 rfl fo31_0) ?_
   refine s_run rfl rfl (r_lo H 0 rfl rfl rfl ag28) ?_
   refine s_run rfl rfl (rmi rfl) ?_
   refine s_run rfl rfl (r_ix (i := i) rfl rfl (by omega) (by omega) Try.underlying28 sz100) ?_
   refine s_run rfl rfl (r_fa rfl fo100_0) ?_
   refine s_run rfl rfl (r_lr H rfl c1 (by simp) ag3) ?_
   refine s_run rfl rfl (rmi rfl) ?_
   refine s_run rfl rfl (r_eqlF rfl rfl (by omega)) ?_
   refine s_run rfl rfl (rmb rfl) ?_
   refine s_off rfl (g_off 23 (by kernel_rfl) rfl rfl) ?_
   refine s_off rfl (g_off 23 (by kernel_rfl) rfl rfl) ?_
   refine s_off rfl (g_off 23 (by kernel_rfl) rfl rfl) ?_
   refine s_off rfl (g_off 23 (by kernel_rfl) rfl rfl) ?_
   refine s_off rfl (g_off 23 (by kernel_rfl) rfl rfl) ?_
   refine s_off rfl (g_off 23 (by kernel_rfl) rfl rfl) ?_
   refine s_off rfl (g_off 23 (by kernel_rfl) rfl rfl) ?_
   refine s_off rfl (g_off 23 (by kernel_rfl) rfl rfl) ?_
   refine s_run rfl rfl (r_pkF (v := .bool _) rfl rfl) ?_
   refine k_nc ?_
   refine k_f rfl ?_
   refine k_skip ?_
   refine b_norm ?_
   refine c_norm ?_
   refine k_rg ?_
   refine s_run rfl rfl (rmi rfl) ?_
   refine s_run rfl rfl (r_add rfl rfl (wI (by omega))) ?_
   refine s_run rfl rfl (rai rfl) ?_
   refine k_nil ?_
   refine c_round ?_
   refine ⟨_, _, ?_, rfl, i + 1, by omega, rfl, hnext (fun e => h1 (by rw [e])), rfl, rfl, rfl, rfl, H⟩
   omega
 ·obtain rfl : i = n := by omega
  have hnone : mget L (m, a) = none := (mget_iff L _).2 fun x hx => by
   obtain ⟨j, hj⟩ := List.mem_iff_getElem?.1 hx
   exact hno j x (by have := (List.getElem?_eq_some_iff.1 hj).1; omega) hj
  refine k_seq ?_
  refine k_sg ?_
  refine s_run rfl rfl (rmi rfl) ?_
  refine s_run rfl rfl (r_fa0 rfl fo31_0) ?_
  refine s_run rfl rfl (r_lo H 0 rfl rfl rfl ag28) ?_
  refine s_run rfl rfl (r_len rfl Try.underlying28) ?_
  refine s_run rfl rfl (r_lssF rfl rfl (by omega)) ?_
  refine k_nc ?_
  refine k_f rfl ?_
  refine k_exit ?_
  refine c_exit ?_
  refine c_exit ?_
  refine b_hit ?_
  refine c_norm ?_
  refine k_sg ?_
  refine s_run rfl rfl (rai rfl) ?_
  refine k_nc ?_
  refine k_ret ?_
  refine fin1r (v := .int _ _) rfl rfl ?_
  exact ⟨⟨_, rfl, .inl ⟨hnone, rfl⟩⟩, H.only⟩
theorem hld_take (L : LdL) (i : Nat) (x : (Int × Int) × Int) (hx : L[i]? = some x) (m : Int) : hld (L.take (i + 1)) m = hld (L.take i) m + if x.1.1 = m then x.2 else 0 := by
 rw [← tk_snoc hx, hld_app]; simp [hld]
theorem rHeld (hS : Sees C1.v w [] A (enC L)) (hl : L.length = n) (hn : n ≤ 10000) (hk : ∀ x ∈ L, 1 ≤ x.2 ∧ x.2 ≤ 1048576) (m : Int) :
  Calls Try.prog 53 [.agg (docC A n c q pk tk).toArray, .int .i64 m].toArray w fun e w' => e = .returned (.int .i64 (hld L m)) ∧ Only [] w w' := by
 have H := Heap.nil w
 refine k_in (N := 31) Try.func53 rfl rfl rfl ?_
 refine k_sg ?_
 refine s_box H rfl rfl ?_
 intro p2 _ H'; clear H; have H := H'; clear H'
 refine s_run rfl rfl (rai rfl) ?_
 refine k_nc ?_
 refine k_sg ?_
 refine s_run rfl rfl (rai rfl) ?_
 refine k_nc ?_
 refine k_seq ?_
 refine k_sg ?_
 refine s_run rfl rfl (rai rfl) ?_
 refine k_nc ?_
 refine k_b ?_
 refine k_loop (fun z f W => ∃ (i : Nat) (t : Int), i ≤ n ∧ z = n - i ∧ t = hld (L.take i) m ∧ f 1 = .int .i64 m ∧ f 2 = ptrL p2 ∧ f 5 = .int .i64 t ∧ f 6 = .int .i64 i ∧ Heap w [] [blk p2 (docC A n c q pk tk) 31] W) n ⟨0, 0, by omega, rfl, rfl, rfl, rfl, rfl, rfl, H⟩ ?_
 clear H
 rintro z f W ⟨i, t, hi, rfl, ht, f1, f2, f5, f6, H⟩
 obtain ⟨f, rfl⟩ := live4 f1 f2 f5 f6
 clear f1 f2 f5 f6
 by_cases hlt : i < n
 ·obtain ⟨x, hx⟩ : ∃ x, L[i]? = some x := ⟨_, List.getElem?_eq_getElem (by omega)⟩
  obtain ⟨b, o, rfl, _, hrd⟩ := hS (by rw [enC_len]; omega)
  obtain ⟨g1, g2, g3⟩ := enC_get L i x hx
  have c1 := hrd _ _ g1
  have c3 := hrd _ _ g3
  have hst := hld_take L i x hx m
  rw [← ht] at hst
  have hb1 := hld_bd (L.take i) m (fun y hy => hk y (List.mem_of_mem_take hy))
  have hb2 := hk x (List.mem_of_getElem? hx)
  rw [← ht, List.length_take] at hb1
  by_cases h1 : x.1.1 = m
  ·rw [if_pos h1] at hst
   refine k_seq ?_
   refine k_sg ?_
   refine s_run rfl rfl (rmi rfl) ?_
   refine s_run rfl rfl (r_fa0 rfl fo31_0) ?_
   refine s_run rfl rfl (r_lo H 0 rfl rfl rfl ag28) ?_
   refine s_run rfl rfl (r_len rfl Try.underlying28) ?_
   refine s_run rfl rfl (r_lssT rfl rfl (by omega)) ?_
   refine k_nc ?_
   refine k_t rfl ?_
   refine k_skip ?_
   refine c_norm ?_
   refine k_seq ?_
   refine k_b ?_
   refine k_sg ?_
   refine s_run rfl rfl (r_fa0 rfl fo31_0) ?_
   refine s_run rfl rfl (r_lo H 0 rfl rfl rfl ag28) ?_
   refine s_run rfl rfl (rmi rfl) ?_
   refine s_run rfl rfl (r_ix (i := i) rfl rfl (by omega) (by omega) Try.underlying28 sz100) ?_
   refine s_run rfl rfl (r_fa rfl fo100_0) ?_
   refine s_run rfl rfl (r_lr H rfl c1 (by simp) ag3) ?_
   refine s_run rfl rfl (rmi rfl) ?_
   refine s_run rfl rfl (r_eqlT rfl rfl (by omega)) ?_
   refine k_nc ?_
   refine k_t rfl ?_
   refine k_rg ?_
   refine s_run rfl rfl (rmi rfl) ?_
   refine s_run rfl rfl (r_fa0 rfl fo31_0) ?_
   refine s_run rfl rfl (r_lo H 0 rfl rfl rfl ag28) ?_
   refine s_run rfl rfl (rmi rfl) ?_
   refine s_run rfl rfl (r_ix (i := i) rfl rfl (by omega) (by omega) Try.underlying28 sz100) ?_
   refine s_run rfl rfl (r_fa rfl fo100_2) ?_
   refine s_run rfl rfl (r_lr H rfl c3 (by simp) ag3) ?_
   refine s_run rfl rfl (r_add rfl rfl (wI (by omega))) ?_
   refine s_run rfl rfl (rai rfl) ?_
   refine k_nil ?_
   refine b_norm ?_
   refine c_norm ?_
   refine k_rg ?_
   refine s_run rfl rfl (rmi rfl) ?_
   refine s_run rfl rfl (r_add rfl rfl (wI (by omega))) ?_
   refine s_run rfl rfl (rai rfl) ?_
   refine k_nil ?_
   refine c_round ?_
   refine ⟨_, _, ?_, rfl, i + 1, _, by omega, rfl, hst.symm, rfl, rfl, rfl, rfl, H⟩
   omega
  ·rw [if_neg h1] at hst
   refine k_seq ?_
   refine k_sg ?_
   refine s_run rfl rfl (rmi rfl) ?_
   refine s_run rfl rfl (r_fa0 rfl fo31_0) ?_
   refine s_run rfl rfl (r_lo H 0 rfl rfl rfl ag28) ?_
   refine s_run rfl rfl (r_len rfl Try.underlying28) ?_
   refine s_run rfl rfl (r_lssT rfl rfl (by omega)) ?_
   refine k_nc ?_
   refine k_t rfl ?_
   refine k_skip ?_
   refine c_norm ?_
   refine k_seq ?_
   refine k_b ?_
   refine k_sg ?_
   refine s_run rfl rfl (r_fa0 rfl fo31_0) ?_
   refine s_run rfl rfl (r_lo H 0 rfl rfl rfl ag28) ?_
   refine s_run rfl rfl (rmi rfl) ?_
   refine s_run rfl rfl (r_ix (i := i) rfl rfl (by omega) (by omega) Try.underlying28 sz100) ?_
   refine s_run rfl rfl (r_fa rfl fo100_0) ?_
   refine s_run rfl rfl (r_lr H rfl c1 (by simp) ag3) ?_
   refine s_run rfl rfl (rmi rfl) ?_
   refine s_run rfl rfl (r_eqlF rfl rfl (by omega)) ?_
   refine k_nc ?_
   refine k_f rfl ?_
   refine k_skip ?_
   refine b_norm ?_
   refine c_norm ?_
   refine k_rg ?_
   refine s_run rfl rfl (rmi rfl) ?_
   refine s_run rfl rfl (r_add rfl rfl (wI (by omega))) ?_
   refine s_run rfl rfl (rai rfl) ?_
   refine k_nil ?_
   refine c_round ?_
   refine ⟨_, _, ?_, rfl, i + 1, t, by omega, rfl, by rw [hst]; omega, rfl, rfl, rfl, rfl, H⟩
   omega
 ·obtain rfl : i = n := by omega
  rw [show L.take i = L by rw [← hl]; exact List.take_length] at ht
  subst ht
  refine k_seq ?_
  refine k_sg ?_
  refine s_run rfl rfl (rmi rfl) ?_
  refine s_run rfl rfl (r_fa0 rfl fo31_0) ?_
  refine s_run rfl rfl (r_lo H 0 rfl rfl rfl ag28) ?_
  refine s_run rfl rfl (r_len rfl Try.underlying28) ?_
  refine s_run rfl rfl (r_lssF rfl rfl (by omega)) ?_
  refine k_nc ?_
  refine k_f rfl ?_
  refine k_exit ?_
  refine c_exit ?_
  refine c_exit ?_
  refine b_hit ?_
  refine c_norm ?_
  refine k_sg ?_
  refine s_run rfl rfl (rmi rfl) ?_
  refine s_run rfl rfl (rai rfl) ?_
  refine k_nc ?_
  refine k_ret ?_
  refine fin1r (v := .int _ _) rfl rfl ?_
  exact ⟨rfl, H.only⟩
end
end Go.Proofs.Ytpbimgopiammaaa
end

section
namespace Go.Proofs.Ytpbimgopiammaaa
open Go.RowKit
set_option maxRecDepth 100000
set_option maxHeartbeats 4000000
/-- the document's ledger by value -/
def docV (A : Option Addr) (n c : Nat) (s : LdS) : Value := .agg (docC A n c s.q s.pk s.tk).toArray
structure DocOk (F : List Nat) (w : World) (A : Option Addr) (n c : Nat) (s : LdS) : Prop where
 sees : Sees C1.v w F A (enC s.L)
 len : s.L.length = n
 cap : n ≤ c
theorem DocOk.later {F G : List Nat} {w W : World} {A : Option Addr} {n c : Nat} {s : LdS} (h : DocOk F w A n c s) (hO : Only G w W) (hG : ∀ i ∈ G, i ∈ F) : DocOk F W A n c s := ⟨h.sees.later hO hG, h.len, h.cap⟩
theorem own_len {size n c : Nat} {A : Option Addr} {xs : List Value} {T : TypeId} {w0 W : World} {F : List Nat} {L : List Ent} (H : Heap w0 F L W) (j : Nat) (hj : L[j]? = some (ownN size (.slice A n c) n xs T)) : xs.length = n * size := (H.own_get j hj).1
theorem rTakeR {F : List Nat} {A : Option Addr} {n c : Nat} {s : LdS} {w : World} {N : Nat} (hD : DocOk F w A n c s) (hok : LdOk N s) (hN : N ≤ 1000) (m a x : Int) :
  Calls Try.prog 34 [docV A n c s, .int .i64 m, .int .i64 a, .int .i64 x].toArray w fun e w' => ∃ A' n' c', e = .returned (.tuple [docV A' n' c' (s.take m a x).1, .int .i64 (s.take m a x).2].toArray) ∧ ((A' = A ∧ n' = n ∧ c' = c ∧ (s.take m a x).2 ≠ 0 ∧ Only [] w w') ∨ Heap w [] [ownN 3 (.slice A' n' c') n' ((enC (s.take m a x).1.L).map C1.v) 100] w') := by
 have H := Heap.nil w
 have hS := hD.sees.mono (G := []) (by simp)
 have hl := hD.len
 have hNn := hok.len
 have hk2 : ∀ x ∈ s.L, 1 ≤ x.2 ∧ x.2 ≤ 1048576 := fun x hx => ⟨(hok.key x hx).2.2.1, (hok.key x hx).2.2.2.1⟩
 have hFi := fun {W : World} (h : Only [] w W) => rFind (c := c) (q := s.q) (pk := s.pk) (tk := s.tk) (hS.later h (by simp)) hl (by omega) hok.nd m a
 have hHe := fun {W : World} (h : Only [] w W) => rHeld (c := c) (q := s.q) (pk := s.pk) (tk := s.tk) (hS.later h (by simp)) hl (by omega) hk2 m
 have hel := enC_len s.L
 unfold LdS.take
 unfold docV
 by_cases hbad : m < 0 ∨ 4 ≤ m ∨ x < 1 ∨ 1048576 < x
 ·rw [if_pos hbad]
  by_cases b1 : m < 0
  ·refine k_in (N := 81) Try.func34 rfl rfl rfl ?_
   refine k_sg ?_
   refine s_box H rfl rfl ?_
   intro p4 _ H'; clear H; have H := H'; clear H'
   refine s_al H rfl inf31 ?_
   intro p8 _ H'; clear H; have H := H'; clear H'
   refine s_run rfl rfl (rai rfl) ?_
   refine k_nc ?_
   refine k_seq ?_
   refine k_sg ?_
   refine s_run rfl rfl (rmi rfl) ?_
   refine s_run rfl rfl (r_lssT rfl rfl (by omega)) ?_
   refine s_run rfl rfl (rmb rfl) ?_
   refine s_off rfl (g_off 12 (by kernel_rfl) rfl rfl) ?_
   refine s_off rfl (g_off 12 (by kernel_rfl) rfl rfl) ?_
   refine s_run rfl rfl (r_pkT (v := .bool _) rfl rfl) ?_
   refine s_run rfl rfl (rmb rfl) ?_
   refine s_off rfl (g_off 16 (by kernel_rfl) rfl rfl) ?_
   refine s_off rfl (g_off 16 (by kernel_rfl) rfl rfl) ?_
   refine s_run rfl rfl (r_pkT (v := .bool _) rfl rfl) ?_
   refine s_run rfl rfl (rmb rfl) ?_
   refine s_off rfl (g_off 20 (by kernel_rfl) rfl rfl) ?_
   refine s_off rfl (g_off 20 (by kernel_rfl) rfl rfl) ?_
   refine s_run rfl rfl (r_pkT (v := .bool _) rfl rfl) ?_
   refine k_nc ?_
   refine k_t rfl ?_
   refine k_sg ?_
   refine s_run rfl rfl (r_la H 1 rfl rfl rfl ag31 sz31) ?_
   refine s_sw H 0 rfl rfl rfl rfl rfl rfl rfl sz31 ?_
   clear H; intro _ H; simp only [jA, jB, jC, jD, jE, jF, jG, jH, jI, jJ, jK, Nat.reduceAdd] at H
   refine s_run rfl rfl (rai rfl) ?_
   refine k_nc ?_
   refine k_ret ?_
   refine c_ret ?_
   refine fx2r rfl (rv_a H 0 rfl rfl rfl ag31 sz31) (rv_t (v := .int _ _) rfl) ?_
   exact ⟨A, n, c, rfl, .inl ⟨rfl, rfl, rfl, by simp, H.only⟩⟩
  by_cases b2 : 4 ≤ m
  ·refine k_in (N := 81) Try.func34 rfl rfl rfl ?_
   refine k_sg ?_
   refine s_box H rfl rfl ?_
   intro p4 _ H'; clear H; have H := H'; clear H'
   refine s_al H rfl inf31 ?_
   intro p8 _ H'; clear H; have H := H'; clear H'
   refine s_run rfl rfl (rai rfl) ?_
   refine k_nc ?_
   refine k_seq ?_
   refine k_sg ?_
   refine s_run rfl rfl (rmi rfl) ?_
   refine s_run rfl rfl (r_lssF rfl rfl (by omega)) ?_
   refine s_run rfl rfl (rmb rfl) ?_
   refine s_run rfl (g_on 12 (by kernel_rfl) rfl) (rmi rfl) ?_
   refine s_run rfl (g_on 12 (by kernel_rfl) rfl) (r_gtrT rfl rfl (by omega)) ?_
   refine s_run rfl rfl (r_pkF (v := .bool _) rfl rfl) ?_
   refine s_run rfl rfl (rmb rfl) ?_
   refine s_off rfl (g_off 16 (by kernel_rfl) rfl rfl) ?_
   refine s_off rfl (g_off 16 (by kernel_rfl) rfl rfl) ?_
   refine s_run rfl rfl (r_pkT (v := .bool _) rfl rfl) ?_
   refine s_run rfl rfl (rmb rfl) ?_
   refine s_off rfl (g_off 20 (by kernel_rfl) rfl rfl) ?_
   refine s_off rfl (g_off 20 (by kernel_rfl) rfl rfl) ?_
   refine s_run rfl rfl (r_pkT (v := .bool _) rfl rfl) ?_
   refine k_nc ?_
   refine k_t rfl ?_
   refine k_sg ?_
   refine s_run rfl rfl (r_la H 1 rfl rfl rfl ag31 sz31) ?_
   refine s_sw H 0 rfl rfl rfl rfl rfl rfl rfl sz31 ?_
   clear H; intro _ H; simp only [jA, jB, jC, jD, jE, jF, jG, jH, jI, jJ, jK, Nat.reduceAdd] at H
   refine s_run rfl rfl (rai rfl) ?_
   refine k_nc ?_
   refine k_ret ?_
   refine c_ret ?_
   refine fx2r rfl (rv_a H 0 rfl rfl rfl ag31 sz31) (rv_t (v := .int _ _) rfl) ?_
   exact ⟨A, n, c, rfl, .inl ⟨rfl, rfl, rfl, by simp, H.only⟩⟩
  by_cases b3 : x < 1
  ·refine k_in (N := 81) Try.func34 rfl rfl rfl ?_
   refine k_sg ?_
   refine s_box H rfl rfl ?_
   intro p4 _ H'; clear H; have H := H'; clear H'
   refine s_al H rfl inf31 ?_
   intro p8 _ H'; clear H; have H := H'; clear H'
   refine s_run rfl rfl (rai rfl) ?_
   refine k_nc ?_
   refine k_seq ?_
   refine k_sg ?_
   refine s_run rfl rfl (rmi rfl) ?_
   refine s_run rfl rfl (r_lssF rfl rfl (by omega)) ?_
   refine s_run rfl rfl (rmb rfl) ?_
   refine s_run rfl (g_on 12 (by kernel_rfl) rfl) (rmi rfl) ?_
   refine s_run rfl (g_on 12 (by kernel_rfl) rfl) (r_gtrF rfl rfl (by omega)) ?_
   refine s_run rfl rfl (r_pkF (v := .bool _) rfl rfl) ?_
   refine s_run rfl rfl (rmb rfl) ?_
   refine s_run rfl (g_on 16 (by kernel_rfl) rfl) (rmi rfl) ?_
   refine s_run rfl (g_on 16 (by kernel_rfl) rfl) (r_lssT rfl rfl (by omega)) ?_
   refine s_run rfl rfl (r_pkF (v := .bool _) rfl rfl) ?_
   refine s_run rfl rfl (rmb rfl) ?_
   refine s_off rfl (g_off 20 (by kernel_rfl) rfl rfl) ?_
   refine s_off rfl (g_off 20 (by kernel_rfl) rfl rfl) ?_
   refine s_run rfl rfl (r_pkT (v := .bool _) rfl rfl) ?_
   refine k_nc ?_
   refine k_t rfl ?_
   refine k_sg ?_
   refine s_run rfl rfl (r_la H 1 rfl rfl rfl ag31 sz31) ?_
   refine s_sw H 0 rfl rfl rfl rfl rfl rfl rfl sz31 ?_
   clear H; intro _ H; simp only [jA, jB, jC, jD, jE, jF, jG, jH, jI, jJ, jK, Nat.reduceAdd] at H
   refine s_run rfl rfl (rai rfl) ?_
   refine k_nc ?_
   refine k_ret ?_
   refine c_ret ?_
   refine fx2r rfl (rv_a H 0 rfl rfl rfl ag31 sz31) (rv_t (v := .int _ _) rfl) ?_
   exact ⟨A, n, c, rfl, .inl ⟨rfl, rfl, rfl, by simp, H.only⟩⟩
  ·refine k_in (N := 81) Try.func34 rfl rfl rfl ?_
   refine k_sg ?_
   refine s_box H rfl rfl ?_
   intro p4 _ H'; clear H; have H := H'; clear H'
   refine s_al H rfl inf31 ?_
   intro p8 _ H'; clear H; have H := H'; clear H'
   refine s_run rfl rfl (rai rfl) ?_
   refine k_nc ?_
   refine k_seq ?_
   refine k_sg ?_
   refine s_run rfl rfl (rmi rfl) ?_
   refine s_run rfl rfl (r_lssF rfl rfl (by omega)) ?_
   refine s_run rfl rfl (rmb rfl) ?_
   refine s_run rfl (g_on 12 (by kernel_rfl) rfl) (rmi rfl) ?_
   refine s_run rfl (g_on 12 (by kernel_rfl) rfl) (r_gtrF rfl rfl (by omega)) ?_
   refine s_run rfl rfl (r_pkF (v := .bool _) rfl rfl) ?_
   refine s_run rfl rfl (rmb rfl) ?_
   refine s_run rfl (g_on 16 (by kernel_rfl) rfl) (rmi rfl) ?_
   refine s_run rfl (g_on 16 (by kernel_rfl) rfl) (r_lssF rfl rfl (by omega)) ?_
   refine s_run rfl rfl (r_pkF (v := .bool _) rfl rfl) ?_
   refine s_run rfl rfl (rmb rfl) ?_
   refine s_run rfl (g_on 20 (by kernel_rfl) rfl) (rmi rfl) ?_
   refine s_run rfl (g_on 20 (by kernel_rfl) rfl) (r_gtrT rfl rfl (by omega)) ?_
   refine s_run rfl rfl (r_pkF (v := .bool _) rfl rfl) ?_
   refine k_nc ?_
   refine k_t rfl ?_
   refine k_sg ?_
   refine s_run rfl rfl (r_la H 1 rfl rfl rfl ag31 sz31) ?_
   refine s_sw H 0 rfl rfl rfl rfl rfl rfl rfl sz31 ?_
   clear H; intro _ H; simp only [jA, jB, jC, jD, jE, jF, jG, jH, jI, jJ, jK, Nat.reduceAdd] at H
   refine s_run rfl rfl (rai rfl) ?_
   refine k_nc ?_
   refine k_ret ?_
   refine c_ret ?_
   refine fx2r rfl (rv_a H 0 rfl rfl rfl ag31 sz31) (rv_t (v := .int _ _) rfl) ?_
   exact ⟨A, n, c, rfl, .inl ⟨rfl, rfl, rfl, by simp, H.only⟩⟩
 ·rw [if_neg hbad]
  cases hg : mget s.L (m, a) with
  | some v =>
   rw [if_pos (show (some v).isSome = true from rfl)]
   rw [hg] at hFi
   refine k_in (N := 81) Try.func34 rfl rfl rfl ?_
   refine k_sg ?_
   refine s_box H rfl rfl ?_
   intro p4 _ H'; clear H; have H := H'; clear H'
   refine s_al H rfl inf31 ?_
   intro p8 _ H'; clear H; have H := H'; clear H'
   refine s_run rfl rfl (rai rfl) ?_
   refine k_nc ?_
   refine k_seq ?_
   refine k_sg ?_
   refine s_run rfl rfl (rmi rfl) ?_
   refine s_run rfl rfl (r_lssF rfl rfl (by omega)) ?_
   refine s_run rfl rfl (rmb rfl) ?_
   refine s_run rfl (g_on 12 (by kernel_rfl) rfl) (rmi rfl) ?_
   refine s_run rfl (g_on 12 (by kernel_rfl) rfl) (r_gtrF rfl rfl (by omega)) ?_
   refine s_run rfl rfl (r_pkF (v := .bool _) rfl rfl) ?_
   refine s_run rfl rfl (rmb rfl) ?_
   refine s_run rfl (g_on 16 (by kernel_rfl) rfl) (rmi rfl) ?_
   refine s_run rfl (g_on 16 (by kernel_rfl) rfl) (r_lssF rfl rfl (by omega)) ?_
   refine s_run rfl rfl (r_pkF (v := .bool _) rfl rfl) ?_
   refine s_run rfl rfl (rmb rfl) ?_
   refine s_run rfl (g_on 20 (by kernel_rfl) rfl) (rmi rfl) ?_
   refine s_run rfl (g_on 20 (by kernel_rfl) rfl) (r_gtrF rfl rfl (by omega)) ?_
   refine s_run rfl rfl (r_pkF (v := .bool _) rfl rfl) ?_
   refine k_nc ?_
   refine k_f rfl ?_
   refine k_skip ?_
   refine c_norm ?_
   refine k_seq ?_
   refine k_sg ?_
   refine s_run rfl rfl (r_la H 1 rfl rfl rfl ag31 sz31) ?_
   refine s_run rfl rfl (rmi rfl) ?_
   refine s_run rfl rfl (rmi rfl) ?_
   refine s_call rfl (hFi H.only) (ca54 rfl) ?_
   rintro e W1 ⟨⟨r, rfl, hr⟩, H'⟩
   refine ⟨_, rfl, ?_⟩
   have H := H.same H'; clear H'; obtain ⟨j, v2, hj, rfl, hm2⟩ : ∃ (j : Nat) (v2 : Int), s.L[j]? = some ((m, a), v2) ∧ r = j ∧ some v = some v2 := hr.elim (fun h => by cases h.1) id
   refine s_run rfl rfl (r_geqT rfl rfl (by omega)) ?_
   refine k_nc ?_
   refine k_t rfl ?_
   refine k_sg ?_
   refine s_run rfl rfl (r_la H 1 rfl rfl rfl ag31 sz31) ?_
   refine s_sw H 0 rfl rfl rfl rfl rfl rfl rfl sz31 ?_
   clear H; intro _ H; simp only [jA, jB, jC, jD, jE, jF, jG, jH, jI, jJ, jK, Nat.reduceAdd] at H
   refine s_run rfl rfl (rai rfl) ?_
   refine k_nc ?_
   refine k_ret ?_
   refine c_ret ?_
   refine fx2r rfl (rv_a H 0 rfl rfl rfl ag31 sz31) (rv_t (v := .int _ _) rfl) ?_
   exact ⟨A, n, c, rfl, .inl ⟨rfl, rfl, rfl, by simp, H.only⟩⟩
  | none =>
   rw [if_neg (show ¬ (none : Option Int).isSome = true by simp)]
   rw [hg] at hFi
   have hhm := hok.h m (by omega) (by omega)
   have hbm := hok.bd m (by omega) (by omega)
   have htk := hok.tk m (by omega) (by omega)
   rw [← hhm] at hHe
   obtain ⟨k, rfl⟩ := Int.eq_ofNat_of_zero_le (show 0 ≤ m by omega)
   have hk : k < 4 := by omega
   by_cases hsp : s.q k ≥ 0 ∧ x > s.q k - s.h k
   ·rw [if_pos hsp]
    obtain ⟨hs1, hs2⟩ := hsp
    refine k_in (N := 81) Try.func34 rfl rfl rfl ?_
    refine k_sg ?_
    refine s_box H rfl rfl ?_
    intro p4 _ H'; clear H; have H := H'; clear H'
    refine s_al H rfl inf31 ?_
    intro p8 _ H'; clear H; have H := H'; clear H'
    refine s_run rfl rfl (rai rfl) ?_
    refine k_nc ?_
    refine k_seq ?_
    refine k_sg ?_
    refine s_run rfl rfl (rmi rfl) ?_
    refine s_run rfl rfl (r_lssF rfl rfl (by omega)) ?_
    refine s_run rfl rfl (rmb rfl) ?_
    refine s_run rfl (g_on 12 (by kernel_rfl) rfl) (rmi rfl) ?_
    refine s_run rfl (g_on 12 (by kernel_rfl) rfl) (r_gtrF rfl rfl (by omega)) ?_
    refine s_run rfl rfl (r_pkF (v := .bool _) rfl rfl) ?_
    refine s_run rfl rfl (rmb rfl) ?_
    refine s_run rfl (g_on 16 (by kernel_rfl) rfl) (rmi rfl) ?_
    refine s_run rfl (g_on 16 (by kernel_rfl) rfl) (r_lssF rfl rfl (by omega)) ?_
    refine s_run rfl rfl (r_pkF (v := .bool _) rfl rfl) ?_
    refine s_run rfl rfl (rmb rfl) ?_
    refine s_run rfl (g_on 20 (by kernel_rfl) rfl) (rmi rfl) ?_
    refine s_run rfl (g_on 20 (by kernel_rfl) rfl) (r_gtrF rfl rfl (by omega)) ?_
    refine s_run rfl rfl (r_pkF (v := .bool _) rfl rfl) ?_
    refine k_nc ?_
    refine k_f rfl ?_
    refine k_skip ?_
    refine c_norm ?_
    refine k_seq ?_
    refine k_sg ?_
    refine s_run rfl rfl (r_la H 1 rfl rfl rfl ag31 sz31) ?_
    refine s_run rfl rfl (rmi rfl) ?_
    refine s_run rfl rfl (rmi rfl) ?_
    refine s_call rfl (hFi H.only) (ca54 rfl) ?_
    rintro e W1 ⟨⟨r, rfl, hr⟩, H'⟩
    refine ⟨_, rfl, ?_⟩
    have H := H.same H'; clear H'; obtain rfl : r = -1 := hr.elim (fun h => h.2) (fun ⟨_, _, _, _, h⟩ => by cases h)
    refine s_run rfl rfl (r_geqF rfl rfl (by omega)) ?_
    refine k_nc ?_
    refine k_f rfl ?_
    refine k_skip ?_
    refine c_norm ?_
    refine k_seq ?_
    refine k_seq ?_
    refine k_q mixed (by kernel_rfl) H ?_
    refine q_run rfl rfl (fun _ H => r_mv (v := .int _ _) rfl) ?_
    refine q_run rfl rfl (fun _ H => r_fa0 rfl fo31_1) ?_
    refine q_run rfl rfl (fun _ H => r_ia1 (i := k) rfl rfl (by omega) (by omega) Try.underlying29 sz3) ?_
    refine q_run rfl rfl (fun _ H => r_lo H 1 rfl rfl (dgq hk) ag3) ?_
    refine q_run rfl rfl (fun _ H => r_geqT rfl rfl (by omega)) ?_
    refine q_run rfl rfl (fun _ H => r_mv (v := .bool _) rfl) ?_
    refine q_run rfl (g_on 36 (by kernel_rfl) rfl) (fun _ H => r_la H 1 rfl rfl rfl ag31 sz31) ?_
    refine q_run rfl (g_on 36 (by kernel_rfl) rfl) (fun _ H => r_mv (v := .int _ _) rfl) ?_
    refine q_call rfl (g_on 36 (by kernel_rfl) rfl) (fun _ H => hHe H.only) (ca53 rfl) ?_
    refine q_run rfl (g_on 36 (by kernel_rfl) rfl) (fun _ H => r_mv (v := .int _ _) rfl) ?_
    refine q_run rfl (g_on 36 (by kernel_rfl) rfl) (fun _ H => r_add rfl rfl (wI (by omega))) ?_
    refine q_run rfl (g_on 36 (by kernel_rfl) rfl) (fun _ H => r_mv (v := .int _ _) rfl) ?_
    refine q_run rfl (g_on 36 (by kernel_rfl) rfl) (fun _ H => r_fa0 rfl fo31_1) ?_
    refine q_run rfl (g_on 36 (by kernel_rfl) rfl) (fun _ H => r_ia1 (i := k) rfl rfl (by omega) (by omega) Try.underlying29 sz3) ?_
    refine q_run rfl (g_on 36 (by kernel_rfl) rfl) (fun _ H => r_lo H 1 rfl rfl (dgq hk) ag3) ?_
    refine q_run rfl (g_on 36 (by kernel_rfl) rfl) (fun _ H => r_gtrT rfl rfl (by omega)) ?_
    refine q_run rfl rfl (fun _ H => r_pkT (v := .bool _) rfl rfl) ?_
    refine q_nil ?_
    intro _ H'; clear H; have H := H'; clear H'
    refine c_norm ?_
    refine k_t rfl ?_
    refine k_sg ?_
    refine s_run rfl rfl (r_la H 1 rfl rfl rfl ag31 sz31) ?_
    refine s_sw H 0 rfl rfl rfl rfl rfl rfl rfl sz31 ?_
    clear H; intro _ H; simp only [jA, jB, jC, jD, jE, jF, jG, jH, jI, jJ, jK, Nat.reduceAdd] at H
    refine s_run rfl rfl (rai rfl) ?_
    refine k_nc ?_
    refine k_ret ?_
    refine c_ret ?_
    refine fx2r rfl (rv_a H 0 rfl rfl rfl ag31 sz31) (rv_t (v := .int _ _) rfl) ?_
    exact ⟨A, n, c, rfl, .inl ⟨rfl, rfl, rfl, by simp, H.only⟩⟩
   ·rw [if_neg hsp]
    have hq : s.q k ≥ 0 → ¬ s.h k + x > s.q k := fun h1 h2 => hsp ⟨h1, by omega⟩
    have hL2 : enC s.L ++ [C1.i .i64 (k : Int), C1.i .i64 a, C1.i .i64 x] = enC (s.L ++ [(((k : Int), a), x)]) := by rw [enC_app]; rfl
    have hh2 : hld (s.L ++ [(((k : Int), a), x)]) k = s.h k + x := by rw [hld_app, ← hhm]; simp [hld]
    have hHe2 := fun {B c2 pk tk} {W : World} h => rHeld (A := B) (n := 0 + n + 1) (c := c2) (q := s.q) (pk := pk) (tk := tk) (L := s.L ++ [(((k : Int), a), x)]) (w := W) h (by rw [List.length_append, hl]; simp) (by omega) (fun y hy => by
     rcases List.mem_append.1 hy with hy | hy
     ·exact hk2 y hy
     ·rw [List.mem_singleton.1 hy]; exact ⟨by show 1 ≤ x; omega, by show x ≤ _; omega⟩) (k : Int)
    rw [hh2] at hHe2
    by_cases hs1 : s.q k ≥ 0
    ·have hq := hq hs1
     refine k_in (N := 81) Try.func34 rfl rfl rfl ?_
     refine k_sg ?_
     refine s_box H rfl rfl ?_
     intro p4 _ H'; clear H; have H := H'; clear H'
     refine s_al H rfl inf31 ?_
     intro p8 _ H'; clear H; have H := H'; clear H'
     refine s_run rfl rfl (rai rfl) ?_
     refine k_nc ?_
     refine k_seq ?_
     refine k_sg ?_
     refine s_run rfl rfl (rmi rfl) ?_
     refine s_run rfl rfl (r_lssF rfl rfl (by omega)) ?_
     refine s_run rfl rfl (rmb rfl) ?_
     refine s_run rfl (g_on 12 (by kernel_rfl) rfl) (rmi rfl) ?_
     refine s_run rfl (g_on 12 (by kernel_rfl) rfl) (r_gtrF rfl rfl (by omega)) ?_
     refine s_run rfl rfl (r_pkF (v := .bool _) rfl rfl) ?_
     refine s_run rfl rfl (rmb rfl) ?_
     refine s_run rfl (g_on 16 (by kernel_rfl) rfl) (rmi rfl) ?_
     refine s_run rfl (g_on 16 (by kernel_rfl) rfl) (r_lssF rfl rfl (by omega)) ?_
     refine s_run rfl rfl (r_pkF (v := .bool _) rfl rfl) ?_
     refine s_run rfl rfl (rmb rfl) ?_
     refine s_run rfl (g_on 20 (by kernel_rfl) rfl) (rmi rfl) ?_
     refine s_run rfl (g_on 20 (by kernel_rfl) rfl) (r_gtrF rfl rfl (by omega)) ?_
     refine s_run rfl rfl (r_pkF (v := .bool _) rfl rfl) ?_
     refine k_nc ?_
     refine k_f rfl ?_
     refine k_skip ?_
     refine c_norm ?_
     refine k_seq ?_
     refine k_sg ?_
     refine s_run rfl rfl (r_la H 1 rfl rfl rfl ag31 sz31) ?_
     refine s_run rfl rfl (rmi rfl) ?_
     refine s_run rfl rfl (rmi rfl) ?_
     refine s_call rfl (hFi H.only) (ca54 rfl) ?_
     rintro e W1 ⟨⟨r, rfl, hr⟩, H'⟩
     refine ⟨_, rfl, ?_⟩
     have H := H.same H'; clear H'; obtain rfl : r = -1 := hr.elim (fun h => h.2) (fun ⟨_, _, _, _, h⟩ => by cases h)
     refine s_run rfl rfl (r_geqF rfl rfl (by omega)) ?_
     refine k_nc ?_
     refine k_f rfl ?_
     refine k_skip ?_
     refine c_norm ?_
     refine k_seq ?_
     refine k_seq ?_
     refine k_q mixed (by kernel_rfl) H ?_
     refine q_run rfl rfl (fun _ H => r_mv (v := .int _ _) rfl) ?_
     refine q_run rfl rfl (fun _ H => r_fa0 rfl fo31_1) ?_
     refine q_run rfl rfl (fun _ H => r_ia1 (i := k) rfl rfl (by omega) (by omega) Try.underlying29 sz3) ?_
     refine q_run rfl rfl (fun _ H => r_lo H 1 rfl rfl (dgq hk) ag3) ?_
     refine q_run rfl rfl (fun _ H => r_geqT rfl rfl (by omega)) ?_
     refine q_run rfl rfl (fun _ H => r_mv (v := .bool _) rfl) ?_
     refine q_run rfl (g_on 36 (by kernel_rfl) rfl) (fun _ H => r_la H 1 rfl rfl rfl ag31 sz31) ?_
     refine q_run rfl (g_on 36 (by kernel_rfl) rfl) (fun _ H => r_mv (v := .int _ _) rfl) ?_
     refine q_call rfl (g_on 36 (by kernel_rfl) rfl) (fun _ H => hHe H.only) (ca53 rfl) ?_
     refine q_run rfl (g_on 36 (by kernel_rfl) rfl) (fun _ H => r_mv (v := .int _ _) rfl) ?_
     refine q_run rfl (g_on 36 (by kernel_rfl) rfl) (fun _ H => r_add rfl rfl (wI (by omega))) ?_
     refine q_run rfl (g_on 36 (by kernel_rfl) rfl) (fun _ H => r_mv (v := .int _ _) rfl) ?_
     refine q_run rfl (g_on 36 (by kernel_rfl) rfl) (fun _ H => r_fa0 rfl fo31_1) ?_
     refine q_run rfl (g_on 36 (by kernel_rfl) rfl) (fun _ H => r_ia1 (i := k) rfl rfl (by omega) (by omega) Try.underlying29 sz3) ?_
     refine q_run rfl (g_on 36 (by kernel_rfl) rfl) (fun _ H => r_lo H 1 rfl rfl (dgq hk) ag3) ?_
     refine q_run rfl (g_on 36 (by kernel_rfl) rfl) (fun _ H => r_gtrF rfl rfl (by omega)) ?_
     refine q_run rfl rfl (fun _ H => r_pkT (v := .bool _) rfl rfl) ?_
     refine q_nil ?_
     intro _ H'; clear H; have H := H'; clear H'
     refine c_norm ?_
     refine k_f rfl ?_
     refine k_skip ?_
     refine c_norm ?_
     refine k_sg ?_
     refine s_bs0 3 (by omega) H rfl Try.underlying28 inf100 ?_
     intro _ _ H'; clear H; have H := H'; clear H'
     refine s_run rfl rfl (r_fa0 rfl fo31_0) ?_
     refine s_run rfl rfl (r_lo H 2 rfl rfl rfl ag28) ?_
     refine s_apsN (enc := C1.v) (size := 3) (xs := []) H 0 rfl rfl rfl rfl (hS) ((by rw [hel, hl])) C1.one (by omega) (by omega) Try.underlying28 inf100 rfl ?_
     intro B1 d1 _ H'; simp only [List.set_cons_zero, List.set_cons_succ, List.take_succ_cons, List.take_zero, List.drop_succ_cons, List.drop_zero, List.cons_append, List.nil_append, List.append_nil, List.length_cons, List.length_nil, Nat.reduceAdd] at H'; clear H; have H := H'; clear H'
     refine s_run rfl rfl (rmi rfl) ?_
     refine s_run rfl rfl (rmi rfl) ?_
     refine s_run rfl rfl (rmi rfl) ?_
     refine s_run rfl rfl (r_bd (bd100_0_1_2 _ _ _) rfl) ?_
     refine s_appN (enc := C1.v) (zs := [C1.i .i64 (k : Int), C1.i .i64 a, C1.i .i64 x]) H 0 rfl rfl rfl rfl C1.one (by omega) (by kernel_rfl) rfl rfl rfl (by omega) Try.underlying28 inf100 rfl ?_
     intro _ B2 d2 _ H'; simp only [List.set_cons_zero, List.set_cons_succ, List.take_succ_cons, List.take_zero, List.drop_succ_cons, List.drop_zero, List.cons_append, List.nil_append, List.append_nil, List.length_cons, List.length_nil, Nat.reduceAdd] at H'; clear H; have H := H'; clear H'
     refine s_run rfl rfl (r_fa0 rfl fo31_0) ?_
     refine s_st (u := .slice _ _ _) H 2 rfl rfl rfl rfl rfl rfl sz28 ?_
     clear H; intro _ H; simp only [jA, jB, jC, jD, jE, jF, jG, jH, jI, jJ, jK, Nat.reduceAdd] at H
     refine k_nc ?_
     refine k_seq ?_
     rw [hL2] at H
     refine k_rg ?_
     refine s_run rfl rfl (rmi rfl) ?_
     refine s_run rfl rfl (rmi rfl) ?_
     refine s_run rfl rfl (r_fa0 rfl fo31_3) ?_
     refine s_run rfl rfl (r_ia1 (i := k) rfl rfl (by omega) (by omega) Try.underlying29 sz3) ?_
     refine s_run rfl rfl (r_lo H 2 rfl rfl (dgt hk) ag3) ?_
     refine s_run rfl rfl (rmi rfl) ?_
     refine s_run rfl rfl (r_add rfl rfl (wI (by omega))) ?_
     refine s_run rfl rfl (r_fa0 rfl fo31_3) ?_
     refine s_run rfl rfl (r_ia1 (i := k) rfl rfl (by omega) (by omega) Try.underlying29 sz3) ?_
     refine s_stC H 2 rfl rfl rfl rfl (dgt hk) (dst hk) rfl sz3 ?_
     clear H; intro _ H; simp only [jA, jB, jC, jD, jE, jF, jG, jH, jI, jJ, jK, Nat.reduceAdd] at H
     refine k_nc ?_
     refine k_seq ?_
     refine k_qt 11 mixed (by kernel_rfl) H rfl rfl ?_
     refine q_run rfl rfl (fun _ H => r_mv (v := .int _ _) rfl) ?_
     refine q_run rfl rfl (fun _ H => r_mv (v := .int _ _) rfl) ?_
     refine q_run rfl rfl (fun _ H => r_fa0 rfl fo31_2) ?_
     refine q_run rfl rfl (fun _ H => r_ia1 (i := k) rfl rfl (by omega) (by omega) Try.underlying29 sz3) ?_
     refine q_run rfl rfl (fun _ H => r_lo H 2 rfl rfl (dgp hk) ag3) ?_
     refine q_run rfl rfl (fun _ H => r_la H 2 rfl rfl rfl ag31 sz31) ?_
     refine q_run rfl rfl (fun _ H => r_mv (v := .int _ _) rfl) ?_
     refine q_call rfl rfl (fun _ H => hHe2 (own_seesC H 0 rfl)) (ca53 rfl) ?_
     refine q_run rfl rfl (fun _ H => r_max rfl rfl (imax _ _)) ?_
     refine q_run rfl rfl (fun _ H => r_fa0 rfl fo31_2) ?_
     refine q_run rfl rfl (fun _ H => r_ia1 (i := k) rfl rfl (by omega) (by omega) Try.underlying29 sz3) ?_
     refine q_nil ?_
     intro _ H'; clear H; have H := H'; clear H'
     refine s_stC H 2 rfl rfl rfl rfl (dgp hk) (dsp hk) rfl sz3 ?_
     clear H; intro _ H; simp only [jA, jB, jC, jD, jE, jF, jG, jH, jI, jJ, jK, Nat.reduceAdd] at H
     refine k_nc ?_
     refine k_sg ?_
     refine s_run rfl rfl (r_la H 2 rfl rfl rfl ag31 sz31) ?_
     refine s_sw H 1 rfl rfl rfl rfl rfl rfl rfl sz31 ?_
     clear H; intro _ H; simp only [jA, jB, jC, jD, jE, jF, jG, jH, jI, jJ, jK, Nat.reduceAdd] at H
     refine s_run rfl rfl (rai rfl) ?_
     refine k_nc ?_
     refine k_ret ?_
     refine fx2r rfl (rv_a H 1 rfl rfl rfl ag31 sz31) (rv_t (v := .int _ _) rfl) ?_
     exact ⟨_, _, _, rfl, .inr (Heap.drops (A := [_]) H)⟩
    ·refine k_in (N := 81) Try.func34 rfl rfl rfl ?_
     refine k_sg ?_
     refine s_box H rfl rfl ?_
     intro p4 _ H'; clear H; have H := H'; clear H'
     refine s_al H rfl inf31 ?_
     intro p8 _ H'; clear H; have H := H'; clear H'
     refine s_run rfl rfl (rai rfl) ?_
     refine k_nc ?_
     refine k_seq ?_
     refine k_sg ?_
     refine s_run rfl rfl (rmi rfl) ?_
     refine s_run rfl rfl (r_lssF rfl rfl (by omega)) ?_
     refine s_run rfl rfl (rmb rfl) ?_
     refine s_run rfl (g_on 12 (by kernel_rfl) rfl) (rmi rfl) ?_
     refine s_run rfl (g_on 12 (by kernel_rfl) rfl) (r_gtrF rfl rfl (by omega)) ?_
     refine s_run rfl rfl (r_pkF (v := .bool _) rfl rfl) ?_
     refine s_run rfl rfl (rmb rfl) ?_
     refine s_run rfl (g_on 16 (by kernel_rfl) rfl) (rmi rfl) ?_
     refine s_run rfl (g_on 16 (by kernel_rfl) rfl) (r_lssF rfl rfl (by omega)) ?_
     refine s_run rfl rfl (r_pkF (v := .bool _) rfl rfl) ?_
     refine s_run rfl rfl (rmb rfl) ?_
     refine s_run rfl (g_on 20 (by kernel_rfl) rfl) (rmi rfl) ?_
     refine s_run rfl (g_on 20 (by kernel_rfl) rfl) (r_gtrF rfl rfl (by omega)) ?_
     refine s_run rfl rfl (r_pkF (v := .bool _) rfl rfl) ?_
     refine k_nc ?_
     refine k_f rfl ?_
     refine k_skip ?_
     refine c_norm ?_
     refine k_seq ?_
     refine k_sg ?_
     refine s_run rfl rfl (r_la H 1 rfl rfl rfl ag31 sz31) ?_
     refine s_run rfl rfl (rmi rfl) ?_
     refine s_run rfl rfl (rmi rfl) ?_
     refine s_call rfl (hFi H.only) (ca54 rfl) ?_
     rintro e W1 ⟨⟨r, rfl, hr⟩, H'⟩
     refine ⟨_, rfl, ?_⟩
     have H := H.same H'; clear H'; obtain rfl : r = -1 := hr.elim (fun h => h.2) (fun ⟨_, _, _, _, h⟩ => by cases h)
     refine s_run rfl rfl (r_geqF rfl rfl (by omega)) ?_
     refine k_nc ?_
     refine k_f rfl ?_
     refine k_skip ?_
     refine c_norm ?_
     refine k_seq ?_
     refine k_seq ?_
     refine k_q mixed (by kernel_rfl) H ?_
     refine q_run rfl rfl (fun _ H => r_mv (v := .int _ _) rfl) ?_
     refine q_run rfl rfl (fun _ H => r_fa0 rfl fo31_1) ?_
     refine q_run rfl rfl (fun _ H => r_ia1 (i := k) rfl rfl (by omega) (by omega) Try.underlying29 sz3) ?_
     refine q_run rfl rfl (fun _ H => r_lo H 1 rfl rfl (dgq hk) ag3) ?_
     refine q_run rfl rfl (fun _ H => r_geqF rfl rfl (by omega)) ?_
     refine q_run rfl rfl (fun _ H => r_mv (v := .bool _) rfl) ?_
     refine q_off rfl (g_off 36 (by kernel_rfl) rfl rfl) ?_
     refine q_off rfl (g_off 36 (by kernel_rfl) rfl rfl) ?_
     refine q_off rfl (g_off 36 (by kernel_rfl) rfl rfl) ?_
     refine q_off rfl (g_off 36 (by kernel_rfl) rfl rfl) ?_
     refine q_off rfl (g_off 36 (by kernel_rfl) rfl rfl) ?_
     refine q_off rfl (g_off 36 (by kernel_rfl) rfl rfl) ?_
     refine q_off rfl (g_off 36 (by kernel_rfl) rfl rfl) ?_
     refine q_off rfl (g_off 36 (by kernel_rfl) rfl rfl) ?_
     refine q_off rfl (g_off 36 (by kernel_rfl) rfl rfl) ?_
     refine q_off rfl (g_off 36 (by kernel_rfl) rfl rfl) ?_
     refine q_run rfl rfl (fun _ H => r_pkF (v := .bool _) rfl rfl) ?_
     refine q_nil ?_
     intro _ H'; clear H; have H := H'; clear H'
     refine c_norm ?_
     refine k_f rfl ?_
     refine k_skip ?_
     refine c_norm ?_
     refine k_sg ?_
     refine s_bs0 3 (by omega) H rfl Try.underlying28 inf100 ?_
     intro _ _ H'; clear H; have H := H'; clear H'
     refine s_run rfl rfl (r_fa0 rfl fo31_0) ?_
     refine s_run rfl rfl (r_lo H 2 rfl rfl rfl ag28) ?_
     refine s_apsN (enc := C1.v) (size := 3) (xs := []) H 0 rfl rfl rfl rfl (hS) ((by rw [hel, hl])) C1.one (by omega) (by omega) Try.underlying28 inf100 rfl ?_
     intro B1 d1 _ H'; simp only [List.set_cons_zero, List.set_cons_succ, List.take_succ_cons, List.take_zero, List.drop_succ_cons, List.drop_zero, List.cons_append, List.nil_append, List.append_nil, List.length_cons, List.length_nil, Nat.reduceAdd] at H'; clear H; have H := H'; clear H'
     refine s_run rfl rfl (rmi rfl) ?_
     refine s_run rfl rfl (rmi rfl) ?_
     refine s_run rfl rfl (rmi rfl) ?_
     refine s_run rfl rfl (r_bd (bd100_0_1_2 _ _ _) rfl) ?_
     refine s_appN (enc := C1.v) (zs := [C1.i .i64 (k : Int), C1.i .i64 a, C1.i .i64 x]) H 0 rfl rfl rfl rfl C1.one (by omega) (by kernel_rfl) rfl rfl rfl (by omega) Try.underlying28 inf100 rfl ?_
     intro _ B2 d2 _ H'; simp only [List.set_cons_zero, List.set_cons_succ, List.take_succ_cons, List.take_zero, List.drop_succ_cons, List.drop_zero, List.cons_append, List.nil_append, List.append_nil, List.length_cons, List.length_nil, Nat.reduceAdd] at H'; clear H; have H := H'; clear H'
     refine s_run rfl rfl (r_fa0 rfl fo31_0) ?_
     refine s_st (u := .slice _ _ _) H 2 rfl rfl rfl rfl rfl rfl sz28 ?_
     clear H; intro _ H; simp only [jA, jB, jC, jD, jE, jF, jG, jH, jI, jJ, jK, Nat.reduceAdd] at H
     refine k_nc ?_
     refine k_seq ?_
     rw [hL2] at H
     refine k_rg ?_
     refine s_run rfl rfl (rmi rfl) ?_
     refine s_run rfl rfl (rmi rfl) ?_
     refine s_run rfl rfl (r_fa0 rfl fo31_3) ?_
     refine s_run rfl rfl (r_ia1 (i := k) rfl rfl (by omega) (by omega) Try.underlying29 sz3) ?_
     refine s_run rfl rfl (r_lo H 2 rfl rfl (dgt hk) ag3) ?_
     refine s_run rfl rfl (rmi rfl) ?_
     refine s_run rfl rfl (r_add rfl rfl (wI (by omega))) ?_
     refine s_run rfl rfl (r_fa0 rfl fo31_3) ?_
     refine s_run rfl rfl (r_ia1 (i := k) rfl rfl (by omega) (by omega) Try.underlying29 sz3) ?_
     refine s_stC H 2 rfl rfl rfl rfl (dgt hk) (dst hk) rfl sz3 ?_
     clear H; intro _ H; simp only [jA, jB, jC, jD, jE, jF, jG, jH, jI, jJ, jK, Nat.reduceAdd] at H
     refine k_nc ?_
     refine k_seq ?_
     refine k_qt 11 mixed (by kernel_rfl) H rfl rfl ?_
     refine q_run rfl rfl (fun _ H => r_mv (v := .int _ _) rfl) ?_
     refine q_run rfl rfl (fun _ H => r_mv (v := .int _ _) rfl) ?_
     refine q_run rfl rfl (fun _ H => r_fa0 rfl fo31_2) ?_
     refine q_run rfl rfl (fun _ H => r_ia1 (i := k) rfl rfl (by omega) (by omega) Try.underlying29 sz3) ?_
     refine q_run rfl rfl (fun _ H => r_lo H 2 rfl rfl (dgp hk) ag3) ?_
     refine q_run rfl rfl (fun _ H => r_la H 2 rfl rfl rfl ag31 sz31) ?_
     refine q_run rfl rfl (fun _ H => r_mv (v := .int _ _) rfl) ?_
     refine q_call rfl rfl (fun _ H => hHe2 (own_seesC H 0 rfl)) (ca53 rfl) ?_
     refine q_run rfl rfl (fun _ H => r_max rfl rfl (imax _ _)) ?_
     refine q_run rfl rfl (fun _ H => r_fa0 rfl fo31_2) ?_
     refine q_run rfl rfl (fun _ H => r_ia1 (i := k) rfl rfl (by omega) (by omega) Try.underlying29 sz3) ?_
     refine q_nil ?_
     intro _ H'; clear H; have H := H'; clear H'
     refine s_stC H 2 rfl rfl rfl rfl (dgp hk) (dsp hk) rfl sz3 ?_
     clear H; intro _ H; simp only [jA, jB, jC, jD, jE, jF, jG, jH, jI, jJ, jK, Nat.reduceAdd] at H
     refine k_nc ?_
     refine k_sg ?_
     refine s_run rfl rfl (r_la H 2 rfl rfl rfl ag31 sz31) ?_
     refine s_sw H 1 rfl rfl rfl rfl rfl rfl rfl sz31 ?_
     clear H; intro _ H; simp only [jA, jB, jC, jD, jE, jF, jG, jH, jI, jJ, jK, Nat.reduceAdd] at H
     refine s_run rfl rfl (rai rfl) ?_
     refine k_nc ?_
     refine k_ret ?_
     refine fx2r rfl (rv_a H 1 rfl rfl rfl ag31 sz31) (rv_t (v := .int _ _) rfl) ?_
     exact ⟨_, _, _, rfl, .inr (Heap.drops (A := [_]) H)⟩
theorem take_same {s : LdS} {m a x : Int} (hc : (s.take m a x).2 ≠ 0) : (s.take m a x).1 = s := by
 unfold LdS.take at hc ⊢
 split
 ·rfl
 ·rename_i h1
  rw [if_neg h1] at hc
  split
  ·rfl
  ·rename_i h2
   rw [if_neg h2] at hc
   split
   ·rfl
   ·rename_i h3
    rw [if_neg h3] at hc
    simp at hc
theorem row_doc {F : List Nat} {w w' : World} {L : List Ent} {A : Option Addr} {n c : Nat} {s : LdS} {T : TypeId} (H : Heap w [] L w') (j : Nat) (hj : L[j]? = some (ownN 3 (.slice A n c) n ((enC s.L).map C1.v) T)) (hF : ∀ i ∈ F, i < w.heap.size) : DocOk F w' A n c s := by
 have h := own_len H j hj
 rw [List.length_map, enC_len] at h
 exact ⟨H.own_fresh j hj hF, by omega, own_cap H j hj⟩
theorem rTake {F : List Nat} {A : Option Addr} {n c : Nat} {s : LdS} {w : World} {N : Nat} (hD : DocOk F w A n c s) (hF : ∀ i ∈ F, i < w.heap.size) (hok : LdOk N s) (hN : N ≤ 1000) (m a x : Int) :
  Calls Try.prog 34 [docV A n c s, .int .i64 m, .int .i64 a, .int .i64 x].toArray w fun e w' => ∃ A' n' c', e = .returned (.tuple [docV A' n' c' (s.take m a x).1, .int .i64 (s.take m a x).2].toArray) ∧ DocOk F w' A' n' c' (s.take m a x).1 ∧ Only [] w w' :=
 (rTakeR hD hok hN m a x).mono fun e w' ⟨A', n', c', he, h⟩ => ⟨A', n', c', he, by
  rcases h with ⟨rfl, rfl, rfl, hc, hO⟩ | H
  ·rw [take_same hc]; exact ⟨hD.later hO (by simp), hO⟩
  ·exact ⟨row_doc H 0 rfl hF, H.only⟩⟩
end Go.Proofs.Ytpbimgopiammaaa
end

section
namespace Go.Proofs.Ytpbimgopiammaaa
open Go.RowKit
set_option maxRecDepth 100000
set_option maxHeartbeats 4000000
theorem rGiveR {F : List Nat} {A : Option Addr} {n c : Nat} {s : LdS} {w : World} {N : Nat} (hD : DocOk F w A n c s) (hok : LdOk N s) (hN : N ≤ 1000) (m a : Int) :
  Calls Try.prog 35 [docV A n c s, .int .i64 m, .int .i64 a].toArray w fun e w' => ∃ A' n' c', e = .returned (.tuple [docV A' n' c' (s.give m a).1, .int .i64 (s.give m a).2.1, .int .i64 (s.give m a).2.2].toArray) ∧ ((A' = A ∧ n' = n ∧ c' = c ∧ (s.give m a).2.2 ≠ 0 ∧ Only [] w w') ∨ Heap w [] [ownN 3 (.slice A' n' c') n' ((enC (s.give m a).1.L).map C1.v) 100] w') := by
 have H := Heap.nil w
 have hS := hD.sees.mono (G := []) (by simp)
 have hl := hD.len
 have hcap := hD.cap
 have hNn := hok.len
 have hFi := fun {W : World} (h : Only [] w W) => rFind (c := c) (q := s.q) (pk := s.pk) (tk := s.tk) (hS.later h (by simp)) hl (by omega) hok.nd m a
 have hel := enC_len s.L
 unfold LdS.give
 unfold docV
 by_cases hbad : m < 0 ∨ 4 ≤ m
 ·rw [if_pos hbad]
  by_cases b1 : m < 0
  ·refine k_in (N := 46) Try.func35 rfl rfl rfl ?_
   refine k_sg ?_
   refine s_box H rfl rfl ?_
   intro p3 _ H'; clear H; have H := H'; clear H'
   refine s_al H rfl inf31 ?_
   intro p6 _ H'; clear H; have H := H'; clear H'
   refine s_run rfl rfl (rai rfl) ?_
   refine s_run rfl rfl (rai rfl) ?_
   refine k_nc ?_
   refine k_seq ?_
   refine k_sg ?_
   refine s_run rfl rfl (rmi rfl) ?_
   refine s_run rfl rfl (r_lssT rfl rfl (by omega)) ?_
   refine s_run rfl rfl (rmb rfl) ?_
   refine s_off rfl (g_off 13 (by kernel_rfl) rfl rfl) ?_
   refine s_off rfl (g_off 13 (by kernel_rfl) rfl rfl) ?_
   refine s_run rfl rfl (r_pkT (v := .bool _) rfl rfl) ?_
   refine k_nc ?_
   refine k_t rfl ?_
   refine k_sg ?_
   refine s_run rfl rfl (r_la H 1 rfl rfl rfl ag31 sz31) ?_
   refine s_sw H 0 rfl rfl rfl rfl rfl rfl rfl sz31 ?_
   clear H; intro _ H; simp only [jA, jB, jC, jD, jE, jF, jG, jH, jI, jJ, jK, Nat.reduceAdd] at H
   refine s_run rfl rfl (rai rfl) ?_
   refine s_run rfl rfl (rai rfl) ?_
   refine k_nc ?_
   refine k_ret ?_
   refine c_ret ?_
   refine fx3r rfl (rv_a H 0 rfl rfl rfl ag31 sz31) (rv_t (v := .int _ _) rfl) (rv_t (v := .int _ _) rfl) ?_
   exact ⟨A, n, c, rfl, .inl ⟨rfl, rfl, rfl, by simp, H.only⟩⟩
  ·refine k_in (N := 46) Try.func35 rfl rfl rfl ?_
   refine k_sg ?_
   refine s_box H rfl rfl ?_
   intro p3 _ H'; clear H; have H := H'; clear H'
   refine s_al H rfl inf31 ?_
   intro p6 _ H'; clear H; have H := H'; clear H'
   refine s_run rfl rfl (rai rfl) ?_
   refine s_run rfl rfl (rai rfl) ?_
   refine k_nc ?_
   refine k_seq ?_
   refine k_sg ?_
   refine s_run rfl rfl (rmi rfl) ?_
   refine s_run rfl rfl (r_lssF rfl rfl (by omega)) ?_
   refine s_run rfl rfl (rmb rfl) ?_
   refine s_run rfl (g_on 13 (by kernel_rfl) rfl) (rmi rfl) ?_
   refine s_run rfl (g_on 13 (by kernel_rfl) rfl) (r_gtrT rfl rfl (by omega)) ?_
   refine s_run rfl rfl (r_pkF (v := .bool _) rfl rfl) ?_
   refine k_nc ?_
   refine k_t rfl ?_
   refine k_sg ?_
   refine s_run rfl rfl (r_la H 1 rfl rfl rfl ag31 sz31) ?_
   refine s_sw H 0 rfl rfl rfl rfl rfl rfl rfl sz31 ?_
   clear H; intro _ H; simp only [jA, jB, jC, jD, jE, jF, jG, jH, jI, jJ, jK, Nat.reduceAdd] at H
   refine s_run rfl rfl (rai rfl) ?_
   refine s_run rfl rfl (rai rfl) ?_
   refine k_nc ?_
   refine k_ret ?_
   refine c_ret ?_
   refine fx3r rfl (rv_a H 0 rfl rfl rfl ag31 sz31) (rv_t (v := .int _ _) rfl) (rv_t (v := .int _ _) rfl) ?_
   exact ⟨A, n, c, rfl, .inl ⟨rfl, rfl, rfl, by simp, H.only⟩⟩
 ·rw [if_neg hbad]
  cases hg : mget s.L (m, a) with
  | none =>
   rw [hg] at hFi
   refine k_in (N := 46) Try.func35 rfl rfl rfl ?_
   refine k_sg ?_
   refine s_box H rfl rfl ?_
   intro p3 _ H'; clear H; have H := H'; clear H'
   refine s_al H rfl inf31 ?_
   intro p6 _ H'; clear H; have H := H'; clear H'
   refine s_run rfl rfl (rai rfl) ?_
   refine s_run rfl rfl (rai rfl) ?_
   refine k_nc ?_
   refine k_seq ?_
   refine k_sg ?_
   refine s_run rfl rfl (rmi rfl) ?_
   refine s_run rfl rfl (r_lssF rfl rfl (by omega)) ?_
   refine s_run rfl rfl (rmb rfl) ?_
   refine s_run rfl (g_on 13 (by kernel_rfl) rfl) (rmi rfl) ?_
   refine s_run rfl (g_on 13 (by kernel_rfl) rfl) (r_gtrF rfl rfl (by omega)) ?_
   refine s_run rfl rfl (r_pkF (v := .bool _) rfl rfl) ?_
   refine k_nc ?_
   refine k_f rfl ?_
   refine k_skip ?_
   refine c_norm ?_
   refine k_sg ?_
   refine s_run rfl rfl (r_la H 1 rfl rfl rfl ag31 sz31) ?_
   refine s_run rfl rfl (rmi rfl) ?_
   refine s_run rfl rfl (rmi rfl) ?_
   refine s_call rfl (hFi H.only) (ca54 rfl) ?_
   rintro e W1 ⟨⟨r, rfl, hr⟩, H'⟩
   refine ⟨_, rfl, ?_⟩
   have H := H.same H'; clear H'; obtain rfl : r = -1 := hr.elim (fun h => h.2) (fun ⟨_, _, _, _, h⟩ => by cases h)
   refine s_run rfl rfl (rai rfl) ?_
   refine k_nc ?_
   refine k_seq ?_
   refine k_sg ?_
   refine s_run rfl rfl (rmi rfl) ?_
   refine s_run rfl rfl (r_lssT rfl rfl (by omega)) ?_
   refine k_nc ?_
   refine k_t rfl ?_
   refine k_sg ?_
   refine s_run rfl rfl (r_la H 1 rfl rfl rfl ag31 sz31) ?_
   refine s_sw H 0 rfl rfl rfl rfl rfl rfl rfl sz31 ?_
   clear H; intro _ H; simp only [jA, jB, jC, jD, jE, jF, jG, jH, jI, jJ, jK, Nat.reduceAdd] at H
   refine s_run rfl rfl (rai rfl) ?_
   refine s_run rfl rfl (rai rfl) ?_
   refine k_nc ?_
   refine k_ret ?_
   refine c_ret ?_
   refine fx3r rfl (rv_a H 0 rfl rfl rfl ag31 sz31) (rv_t (v := .int _ _) rfl) (rv_t (v := .int _ _) rfl) ?_
   exact ⟨A, n, c, rfl, .inl ⟨rfl, rfl, rfl, by simp, H.only⟩⟩
  | some v =>
   simp only
   rw [hg] at hFi
   refine k_in (N := 46) Try.func35 rfl rfl rfl ?_
   refine k_sg ?_
   refine s_box H rfl rfl ?_
   intro p3 _ H'; clear H; have H := H'; clear H'
   refine s_al H rfl inf31 ?_
   intro p6 _ H'; clear H; have H := H'; clear H'
   refine s_run rfl rfl (rai rfl) ?_
   refine s_run rfl rfl (rai rfl) ?_
   refine k_nc ?_
   refine k_seq ?_
   refine k_sg ?_
   refine s_run rfl rfl (rmi rfl) ?_
   refine s_run rfl rfl (r_lssF rfl rfl (by omega)) ?_
   refine s_run rfl rfl (rmb rfl) ?_
   refine s_run rfl (g_on 13 (by kernel_rfl) rfl) (rmi rfl) ?_
   refine s_run rfl (g_on 13 (by kernel_rfl) rfl) (r_gtrF rfl rfl (by omega)) ?_
   refine s_run rfl rfl (r_pkF (v := .bool _) rfl rfl) ?_
   refine k_nc ?_
   refine k_f rfl ?_
   refine k_skip ?_
   refine c_norm ?_
   refine k_sg ?_
   refine s_run rfl rfl (r_la H 1 rfl rfl rfl ag31 sz31) ?_
   refine s_run rfl rfl (rmi rfl) ?_
   refine s_run rfl rfl (rmi rfl) ?_
   refine s_call rfl (hFi H.only) (ca54 rfl) ?_
   rintro e W1 ⟨⟨r, rfl, hr⟩, H'⟩
   refine ⟨_, rfl, ?_⟩
   have H := H.same H'; clear H'; obtain ⟨j, v2, hj, rfl, hm2⟩ : ∃ (j : Nat) (v2 : Int), s.L[j]? = some ((m, a), v2) ∧ r = j ∧ some v = some v2 := hr.elim (fun h => by cases h.1) id
   refine s_run rfl rfl (rai rfl) ?_
   refine k_nc ?_
   refine k_seq ?_
   refine k_sg ?_
   refine s_run rfl rfl (rmi rfl) ?_
   refine s_run rfl rfl (r_lssF rfl rfl (by omega)) ?_
   refine k_nc ?_
   refine k_f rfl ?_
   refine k_skip ?_
   refine c_norm ?_
   refine k_seq ?_
   injection hm2 with hm2
   subst hm2
   have hjl : j < n := by have := (List.getElem?_eq_some_iff.1 hj).1; omega
   obtain ⟨b, o, rfl, _, hrd⟩ := hS (by rw [hel]; omega)
   obtain ⟨g1, g2, g3⟩ := enC_get s.L j _ hj
   have c3 := hrd _ _ g3
   have hS1 := hS.head (j * 3)
   have hS2 := hS.sloN (c := c) 3 (j + 1) (by rw [hel]; omega)
   have e1 : ((enC s.L).take (j * 3)).length = j * 3 := by rw [List.length_take, hel]; omega
   have e2 : ((enC s.L).drop ((j + 1) * 3)).length = (n - (j + 1)) * 3 := by rw [List.length_drop, hel]; omega
   have e3 : (enC s.L).take (j * 3) ++ (enC s.L).drop ((j + 1) * 3) = enC (mdel s.L (m, a)) := by
    rw [(m_some s.L j _ hj hok.nd).2.2, List.eraseIdx_eq_take_drop_succ, enC_app, enC_take, enC_drop]
   have e4 : (mdel s.L (m, a)).length = 0 + j + (n - (j + 1)) := by
    rw [(m_some s.L j _ hj hok.nd).2.2, List.length_eraseIdx_of_lt (by omega), hl]; omega
   refine k_rg ?_
   refine s_run rfl rfl (r_fa0 rfl fo31_0) ?_
   refine s_run rfl rfl (r_lo H 1 rfl rfl rfl ag28) ?_
   refine s_run rfl rfl (rmi rfl) ?_
   refine s_run rfl rfl (r_ix (i := j) rfl rfl (by omega) (by omega) Try.underlying28 sz100) ?_
   refine s_run rfl rfl (r_fa rfl fo100_2) ?_
   refine s_run rfl rfl (r_lr H rfl c3 (by simp) ag3) ?_
   refine s_run rfl rfl (rai rfl) ?_
   refine k_nc ?_
   refine k_seq ?_
   refine k_trF mixed ?_; have H' := H.drew; clear H; have H := H'; clear H'
   refine tqh 1 rfl rfl rfl (fun _ hS => r_fa0 rfl fo31_0) trivial ?_
   refine tqh 3 rfl rfl rfl (fun _ hS => r_mv (v := .int _ _) rfl) trivial ?_
   refine tqh 6 rfl rfl rfl (fun _ hS => r_fa0 rfl fo31_0) trivial ?_
   refine tqh 8 rfl rfl rfl (fun _ hS => r_mv (v := .int _ _) rfl) trivial ?_
   refine tqh 9 rfl rfl rfl (fun _ hS => r_add rfl rfl (wI (by omega))) trivial ?_
   refine t_up3 0 2 7 (by kernel_rfl) ?_ ?_ ?_
   ·refine up_mk rfl ?_
    refine s_bs0 3 (by omega) H rfl Try.underlying28 inf100 ?_
    intro _ _ H'; clear H; have H := H'; clear H'
    refine k_nil ?_
    refine t_on trivial ?_
    refine t_up2 2 7 (by kernel_rfl) ?_ ?_
    ·refine up_mk rfl ?_
     refine s_run rfl rfl (r_lo H 2 rfl rfl rfl ag28) ?_
     refine k_nil ?_
     refine t_on trivial ?_
     refine tqh 4 rfl rfl rfl (fun _ hS => r_shiA (j := j) rfl rfl rfl (by omega) Try.underlying28 sz100) trivial ?_
     refine t_up2 5 7 (by kernel_rfl) ?_ ?_
     ·refine up_mk rfl ?_
      refine s_apsN (enc := C1.v) (size := 3) (xs := []) H 0 rfl rfl rfl rfl (hS1) (e1) C1.one (by omega) (by omega) Try.underlying28 inf100 rfl ?_
      intro B1 d1 _ H'; simp only [List.set_cons_zero, List.set_cons_succ, List.take_succ_cons, List.take_zero, List.drop_succ_cons, List.drop_zero, List.cons_append, List.nil_append, List.append_nil, List.length_cons, List.length_nil, Nat.reduceAdd] at H'; clear H; have H := H'; clear H'
      refine k_nil ?_
      refine t_on trivial ?_
      refine t_up1 7 (by kernel_rfl) ?_
      refine up_mk rfl ?_
      refine s_run rfl rfl (r_lo H 2 rfl rfl rfl ag28) ?_
      refine k_nil ?_
      refine t_on trivial ?_
      refine tqh 10 rfl rfl rfl (fun _ hS => r_sloA (i := j + 1) rfl rfl (by omega) (by omega) Try.underlying28 sz100) trivial ?_
      refine t_up1 11 (by kernel_rfl) ?_
      refine up_mk rfl ?_
      refine s_apsN (enc := C1.v) (size := 3)  H 0 rfl rfl rfl rfl (hS2) (e2) C1.one (by omega) (by omega) Try.underlying28 inf100 rfl ?_
      intro B2 d2 _ H'; simp only [List.set_cons_zero, List.set_cons_succ, List.take_succ_cons, List.take_zero, List.drop_succ_cons, List.drop_zero, List.cons_append, List.nil_append, List.append_nil, List.length_cons, List.length_nil, Nat.reduceAdd] at H'; clear H; have H := H'; clear H'
      refine k_nil ?_
      refine t_on trivial ?_
      refine tqh 12 rfl rfl rfl (fun _ hS => r_fa0 rfl fo31_0) trivial ?_
      refine t_up1 13 (by kernel_rfl) ?_
      refine up_mk rfl ?_
      refine s_st (u := .slice _ _ _) H 2 rfl rfl rfl rfl rfl rfl sz28 ?_
      clear H; intro _ H; simp only [jA, jB, jC, jD, jE, jF, jG, jH, jI, jJ, jK, Nat.reduceAdd] at H
      refine k_nil ?_
      refine t_on trivial ?_
      refine t_done (by kernel_rfl) ?_
      refine c_norm ?_
      refine k_sg ?_
      refine s_run rfl rfl (r_la H 2 rfl rfl rfl ag31 sz31) ?_
      refine s_run rfl rfl (rmi rfl) ?_
      refine s_sw H 1 rfl rfl rfl rfl rfl rfl rfl sz31 ?_
      clear H; intro _ H; simp only [jA, jB, jC, jD, jE, jF, jG, jH, jI, jJ, jK, Nat.reduceAdd] at H
      refine s_run rfl rfl (rai rfl) ?_
      refine s_run rfl rfl (rai rfl) ?_
      refine k_nc ?_
      refine k_ret ?_
      refine fx3r rfl (rv_a H 1 rfl rfl rfl ag31 sz31) (rv_t (v := .int _ _) rfl) (rv_t (v := .int _ _) rfl) ?_
      rw [e3] at H; exact ⟨_, _, _, rfl, .inr (Heap.drops (A := [_]) H)⟩
     ·refine up_mk rfl ?_
      refine s_run rfl rfl (r_lo H 2 rfl rfl rfl ag28) ?_
      refine k_nil ?_
      refine t_on trivial ?_
      refine tqh 10 rfl rfl rfl (fun _ hS => r_sloA (i := j + 1) rfl rfl (by omega) (by omega) Try.underlying28 sz100) trivial ?_
      refine t_up1 5 (by kernel_rfl) ?_
      refine up_mk rfl ?_
      refine s_apsN (enc := C1.v) (size := 3) (xs := []) H 0 rfl rfl rfl rfl (hS1) (e1) C1.one (by omega) (by omega) Try.underlying28 inf100 rfl ?_
      intro B1 d1 _ H'; simp only [List.set_cons_zero, List.set_cons_succ, List.take_succ_cons, List.take_zero, List.drop_succ_cons, List.drop_zero, List.cons_append, List.nil_append, List.append_nil, List.length_cons, List.length_nil, Nat.reduceAdd] at H'; clear H; have H := H'; clear H'
      refine k_nil ?_
      refine t_on trivial ?_
      refine t_up1 11 (by kernel_rfl) ?_
      refine up_mk rfl ?_
      refine s_apsN (enc := C1.v) (size := 3)  H 0 rfl rfl rfl rfl (hS2) (e2) C1.one (by omega) (by omega) Try.underlying28 inf100 rfl ?_
      intro B2 d2 _ H'; simp only [List.set_cons_zero, List.set_cons_succ, List.take_succ_cons, List.take_zero, List.drop_succ_cons, List.drop_zero, List.cons_append, List.nil_append, List.append_nil, List.length_cons, List.length_nil, Nat.reduceAdd] at H'; clear H; have H := H'; clear H'
      refine k_nil ?_
      refine t_on trivial ?_
      refine tqh 12 rfl rfl rfl (fun _ hS => r_fa0 rfl fo31_0) trivial ?_
      refine t_up1 13 (by kernel_rfl) ?_
      refine up_mk rfl ?_
      refine s_st (u := .slice _ _ _) H 2 rfl rfl rfl rfl rfl rfl sz28 ?_
      clear H; intro _ H; simp only [jA, jB, jC, jD, jE, jF, jG, jH, jI, jJ, jK, Nat.reduceAdd] at H
      refine k_nil ?_
      refine t_on trivial ?_
      refine t_done (by kernel_rfl) ?_
      refine c_norm ?_
      refine k_sg ?_
      refine s_run rfl rfl (r_la H 2 rfl rfl rfl ag31 sz31) ?_
      refine s_run rfl rfl (rmi rfl) ?_
      refine s_sw H 1 rfl rfl rfl rfl rfl rfl rfl sz31 ?_
      clear H; intro _ H; simp only [jA, jB, jC, jD, jE, jF, jG, jH, jI, jJ, jK, Nat.reduceAdd] at H
      refine s_run rfl rfl (rai rfl) ?_
      refine s_run rfl rfl (rai rfl) ?_
      refine k_nc ?_
      refine k_ret ?_
      refine fx3r rfl (rv_a H 1 rfl rfl rfl ag31 sz31) (rv_t (v := .int _ _) rfl) (rv_t (v := .int _ _) rfl) ?_
      rw [e3] at H; exact ⟨_, _, _, rfl, .inr (Heap.drops (A := [_]) H)⟩
    ·refine up_mk rfl ?_
     refine s_run rfl rfl (r_lo H 2 rfl rfl rfl ag28) ?_
     refine k_nil ?_
     refine t_on trivial ?_
     refine tqh 10 rfl rfl rfl (fun _ hS => r_sloA (i := j + 1) rfl rfl (by omega) (by omega) Try.underlying28 sz100) trivial ?_
     refine t_up1 2 (by kernel_rfl) ?_
     refine up_mk rfl ?_
     refine s_run rfl rfl (r_lo H 2 rfl rfl rfl ag28) ?_
     refine k_nil ?_
     refine t_on trivial ?_
     refine tqh 4 rfl rfl rfl (fun _ hS => r_shiA (j := j) rfl rfl rfl (by omega) Try.underlying28 sz100) trivial ?_
     refine t_up1 5 (by kernel_rfl) ?_
     refine up_mk rfl ?_
     refine s_apsN (enc := C1.v) (size := 3) (xs := []) H 0 rfl rfl rfl rfl (hS1) (e1) C1.one (by omega) (by omega) Try.underlying28 inf100 rfl ?_
     intro B1 d1 _ H'; simp only [List.set_cons_zero, List.set_cons_succ, List.take_succ_cons, List.take_zero, List.drop_succ_cons, List.drop_zero, List.cons_append, List.nil_append, List.append_nil, List.length_cons, List.length_nil, Nat.reduceAdd] at H'; clear H; have H := H'; clear H'
     refine k_nil ?_
     refine t_on trivial ?_
     refine t_up1 11 (by kernel_rfl) ?_
     refine up_mk rfl ?_
     refine s_apsN (enc := C1.v) (size := 3)  H 0 rfl rfl rfl rfl (hS2) (e2) C1.one (by omega) (by omega) Try.underlying28 inf100 rfl ?_
     intro B2 d2 _ H'; simp only [List.set_cons_zero, List.set_cons_succ, List.take_succ_cons, List.take_zero, List.drop_succ_cons, List.drop_zero, List.cons_append, List.nil_append, List.append_nil, List.length_cons, List.length_nil, Nat.reduceAdd] at H'; clear H; have H := H'; clear H'
     refine k_nil ?_
     refine t_on trivial ?_
     refine tqh 12 rfl rfl rfl (fun _ hS => r_fa0 rfl fo31_0) trivial ?_
     refine t_up1 13 (by kernel_rfl) ?_
     refine up_mk rfl ?_
     refine s_st (u := .slice _ _ _) H 2 rfl rfl rfl rfl rfl rfl sz28 ?_
     clear H; intro _ H; simp only [jA, jB, jC, jD, jE, jF, jG, jH, jI, jJ, jK, Nat.reduceAdd] at H
     refine k_nil ?_
     refine t_on trivial ?_
     refine t_done (by kernel_rfl) ?_
     refine c_norm ?_
     refine k_sg ?_
     refine s_run rfl rfl (r_la H 2 rfl rfl rfl ag31 sz31) ?_
     refine s_run rfl rfl (rmi rfl) ?_
     refine s_sw H 1 rfl rfl rfl rfl rfl rfl rfl sz31 ?_
     clear H; intro _ H; simp only [jA, jB, jC, jD, jE, jF, jG, jH, jI, jJ, jK, Nat.reduceAdd] at H
     refine s_run rfl rfl (rai rfl) ?_
     refine s_run rfl rfl (rai rfl) ?_
     refine k_nc ?_
     refine k_ret ?_
     refine fx3r rfl (rv_a H 1 rfl rfl rfl ag31 sz31) (rv_t (v := .int _ _) rfl) (rv_t (v := .int _ _) rfl) ?_
     rw [e3] at H; exact ⟨_, _, _, rfl, .inr (Heap.drops (A := [_]) H)⟩
   ·refine up_mk rfl ?_
    refine s_run rfl rfl (r_lo H 1 rfl rfl rfl ag28) ?_
    refine k_nil ?_
    refine t_on trivial ?_
    refine tqh 4 rfl rfl rfl (fun _ hS => r_shiA (j := j) rfl rfl rfl (by omega) Try.underlying28 sz100) trivial ?_
    refine t_up2 0 7 (by kernel_rfl) ?_ ?_
    ·refine up_mk rfl ?_
     refine s_bs0 3 (by omega) H rfl Try.underlying28 inf100 ?_
     intro _ _ H'; clear H; have H := H'; clear H'
     refine k_nil ?_
     refine t_on trivial ?_
     refine t_up2 5 7 (by kernel_rfl) ?_ ?_
     ·refine up_mk rfl ?_
      refine s_apsN (enc := C1.v) (size := 3) (xs := []) H 0 rfl rfl rfl rfl (hS1) (e1) C1.one (by omega) (by omega) Try.underlying28 inf100 rfl ?_
      intro B1 d1 _ H'; simp only [List.set_cons_zero, List.set_cons_succ, List.take_succ_cons, List.take_zero, List.drop_succ_cons, List.drop_zero, List.cons_append, List.nil_append, List.append_nil, List.length_cons, List.length_nil, Nat.reduceAdd] at H'; clear H; have H := H'; clear H'
      refine k_nil ?_
      refine t_on trivial ?_
      refine t_up1 7 (by kernel_rfl) ?_
      refine up_mk rfl ?_
      refine s_run rfl rfl (r_lo H 2 rfl rfl rfl ag28) ?_
      refine k_nil ?_
      refine t_on trivial ?_
      refine tqh 10 rfl rfl rfl (fun _ hS => r_sloA (i := j + 1) rfl rfl (by omega) (by omega) Try.underlying28 sz100) trivial ?_
      refine t_up1 11 (by kernel_rfl) ?_
      refine up_mk rfl ?_
      refine s_apsN (enc := C1.v) (size := 3)  H 0 rfl rfl rfl rfl (hS2) (e2) C1.one (by omega) (by omega) Try.underlying28 inf100 rfl ?_
      intro B2 d2 _ H'; simp only [List.set_cons_zero, List.set_cons_succ, List.take_succ_cons, List.take_zero, List.drop_succ_cons, List.drop_zero, List.cons_append, List.nil_append, List.append_nil, List.length_cons, List.length_nil, Nat.reduceAdd] at H'; clear H; have H := H'; clear H'
      refine k_nil ?_
      refine t_on trivial ?_
      refine tqh 12 rfl rfl rfl (fun _ hS => r_fa0 rfl fo31_0) trivial ?_
      refine t_up1 13 (by kernel_rfl) ?_
      refine up_mk rfl ?_
      refine s_st (u := .slice _ _ _) H 2 rfl rfl rfl rfl rfl rfl sz28 ?_
      clear H; intro _ H; simp only [jA, jB, jC, jD, jE, jF, jG, jH, jI, jJ, jK, Nat.reduceAdd] at H
      refine k_nil ?_
      refine t_on trivial ?_
      refine t_done (by kernel_rfl) ?_
      refine c_norm ?_
      refine k_sg ?_
      refine s_run rfl rfl (r_la H 2 rfl rfl rfl ag31 sz31) ?_
      refine s_run rfl rfl (rmi rfl) ?_
      refine s_sw H 1 rfl rfl rfl rfl rfl rfl rfl sz31 ?_
      clear H; intro _ H; simp only [jA, jB, jC, jD, jE, jF, jG, jH, jI, jJ, jK, Nat.reduceAdd] at H
      refine s_run rfl rfl (rai rfl) ?_
      refine s_run rfl rfl (rai rfl) ?_
      refine k_nc ?_
      refine k_ret ?_
      refine fx3r rfl (rv_a H 1 rfl rfl rfl ag31 sz31) (rv_t (v := .int _ _) rfl) (rv_t (v := .int _ _) rfl) ?_
      rw [e3] at H; exact ⟨_, _, _, rfl, .inr (Heap.drops (A := [_]) H)⟩
     ·refine up_mk rfl ?_
      refine s_run rfl rfl (r_lo H 2 rfl rfl rfl ag28) ?_
      refine k_nil ?_
      refine t_on trivial ?_
      refine tqh 10 rfl rfl rfl (fun _ hS => r_sloA (i := j + 1) rfl rfl (by omega) (by omega) Try.underlying28 sz100) trivial ?_
      refine t_up1 5 (by kernel_rfl) ?_
      refine up_mk rfl ?_
      refine s_apsN (enc := C1.v) (size := 3) (xs := []) H 0 rfl rfl rfl rfl (hS1) (e1) C1.one (by omega) (by omega) Try.underlying28 inf100 rfl ?_
      intro B1 d1 _ H'; simp only [List.set_cons_zero, List.set_cons_succ, List.take_succ_cons, List.take_zero, List.drop_succ_cons, List.drop_zero, List.cons_append, List.nil_append, List.append_nil, List.length_cons, List.length_nil, Nat.reduceAdd] at H'; clear H; have H := H'; clear H'
      refine k_nil ?_
      refine t_on trivial ?_
      refine t_up1 11 (by kernel_rfl) ?_
      refine up_mk rfl ?_
      refine s_apsN (enc := C1.v) (size := 3)  H 0 rfl rfl rfl rfl (hS2) (e2) C1.one (by omega) (by omega) Try.underlying28 inf100 rfl ?_
      intro B2 d2 _ H'; simp only [List.set_cons_zero, List.set_cons_succ, List.take_succ_cons, List.take_zero, List.drop_succ_cons, List.drop_zero, List.cons_append, List.nil_append, List.append_nil, List.length_cons, List.length_nil, Nat.reduceAdd] at H'; clear H; have H := H'; clear H'
      refine k_nil ?_
      refine t_on trivial ?_
      refine tqh 12 rfl rfl rfl (fun _ hS => r_fa0 rfl fo31_0) trivial ?_
      refine t_up1 13 (by kernel_rfl) ?_
      refine up_mk rfl ?_
      refine s_st (u := .slice _ _ _) H 2 rfl rfl rfl rfl rfl rfl sz28 ?_
      clear H; intro _ H; simp only [jA, jB, jC, jD, jE, jF, jG, jH, jI, jJ, jK, Nat.reduceAdd] at H
      refine k_nil ?_
      refine t_on trivial ?_
      refine t_done (by kernel_rfl) ?_
      refine c_norm ?_
      refine k_sg ?_
      refine s_run rfl rfl (r_la H 2 rfl rfl rfl ag31 sz31) ?_
      refine s_run rfl rfl (rmi rfl) ?_
      refine s_sw H 1 rfl rfl rfl rfl rfl rfl rfl sz31 ?_
      clear H; intro _ H; simp only [jA, jB, jC, jD, jE, jF, jG, jH, jI, jJ, jK, Nat.reduceAdd] at H
      refine s_run rfl rfl (rai rfl) ?_
      refine s_run rfl rfl (rai rfl) ?_
      refine k_nc ?_
      refine k_ret ?_
      refine fx3r rfl (rv_a H 1 rfl rfl rfl ag31 sz31) (rv_t (v := .int _ _) rfl) (rv_t (v := .int _ _) rfl) ?_
      rw [e3] at H; exact ⟨_, _, _, rfl, .inr (Heap.drops (A := [_]) H)⟩
    ·refine up_mk rfl ?_
     refine s_run rfl rfl (r_lo H 1 rfl rfl rfl ag28) ?_
     refine k_nil ?_
     refine t_on trivial ?_
     refine tqh 10 rfl rfl rfl (fun _ hS => r_sloA (i := j + 1) rfl rfl (by omega) (by omega) Try.underlying28 sz100) trivial ?_
     refine t_up1 0 (by kernel_rfl) ?_
     refine up_mk rfl ?_
     refine s_bs0 3 (by omega) H rfl Try.underlying28 inf100 ?_
     intro _ _ H'; clear H; have H := H'; clear H'
     refine k_nil ?_
     refine t_on trivial ?_
     refine t_up1 5 (by kernel_rfl) ?_
     refine up_mk rfl ?_
     refine s_apsN (enc := C1.v) (size := 3) (xs := []) H 0 rfl rfl rfl rfl (hS1) (e1) C1.one (by omega) (by omega) Try.underlying28 inf100 rfl ?_
     intro B1 d1 _ H'; simp only [List.set_cons_zero, List.set_cons_succ, List.take_succ_cons, List.take_zero, List.drop_succ_cons, List.drop_zero, List.cons_append, List.nil_append, List.append_nil, List.length_cons, List.length_nil, Nat.reduceAdd] at H'; clear H; have H := H'; clear H'
     refine k_nil ?_
     refine t_on trivial ?_
     refine t_up1 11 (by kernel_rfl) ?_
     refine up_mk rfl ?_
     refine s_apsN (enc := C1.v) (size := 3)  H 0 rfl rfl rfl rfl (hS2) (e2) C1.one (by omega) (by omega) Try.underlying28 inf100 rfl ?_
     intro B2 d2 _ H'; simp only [List.set_cons_zero, List.set_cons_succ, List.take_succ_cons, List.take_zero, List.drop_succ_cons, List.drop_zero, List.cons_append, List.nil_append, List.append_nil, List.length_cons, List.length_nil, Nat.reduceAdd] at H'; clear H; have H := H'; clear H'
     refine k_nil ?_
     refine t_on trivial ?_
     refine tqh 12 rfl rfl rfl (fun _ hS => r_fa0 rfl fo31_0) trivial ?_
     refine t_up1 13 (by kernel_rfl) ?_
     refine up_mk rfl ?_
     refine s_st (u := .slice _ _ _) H 2 rfl rfl rfl rfl rfl rfl sz28 ?_
     clear H; intro _ H; simp only [jA, jB, jC, jD, jE, jF, jG, jH, jI, jJ, jK, Nat.reduceAdd] at H
     refine k_nil ?_
     refine t_on trivial ?_
     refine t_done (by kernel_rfl) ?_
     refine c_norm ?_
     refine k_sg ?_
     refine s_run rfl rfl (r_la H 2 rfl rfl rfl ag31 sz31) ?_
     refine s_run rfl rfl (rmi rfl) ?_
     refine s_sw H 1 rfl rfl rfl rfl rfl rfl rfl sz31 ?_
     clear H; intro _ H; simp only [jA, jB, jC, jD, jE, jF, jG, jH, jI, jJ, jK, Nat.reduceAdd] at H
     refine s_run rfl rfl (rai rfl) ?_
     refine s_run rfl rfl (rai rfl) ?_
     refine k_nc ?_
     refine k_ret ?_
     refine fx3r rfl (rv_a H 1 rfl rfl rfl ag31 sz31) (rv_t (v := .int _ _) rfl) (rv_t (v := .int _ _) rfl) ?_
     rw [e3] at H; exact ⟨_, _, _, rfl, .inr (Heap.drops (A := [_]) H)⟩
   ·refine up_mk rfl ?_
    refine s_run rfl rfl (r_lo H 1 rfl rfl rfl ag28) ?_
    refine k_nil ?_
    refine t_on trivial ?_
    refine tqh 10 rfl rfl rfl (fun _ hS => r_sloA (i := j + 1) rfl rfl (by omega) (by omega) Try.underlying28 sz100) trivial ?_
    refine t_up2 0 2 (by kernel_rfl) ?_ ?_
    ·refine up_mk rfl ?_
     refine s_bs0 3 (by omega) H rfl Try.underlying28 inf100 ?_
     intro _ _ H'; clear H; have H := H'; clear H'
     refine k_nil ?_
     refine t_on trivial ?_
     refine t_up1 2 (by kernel_rfl) ?_
     refine up_mk rfl ?_
     refine s_run rfl rfl (r_lo H 2 rfl rfl rfl ag28) ?_
     refine k_nil ?_
     refine t_on trivial ?_
     refine tqh 4 rfl rfl rfl (fun _ hS => r_shiA (j := j) rfl rfl rfl (by omega) Try.underlying28 sz100) trivial ?_
     refine t_up1 5 (by kernel_rfl) ?_
     refine up_mk rfl ?_
     refine s_apsN (enc := C1.v) (size := 3) (xs := []) H 0 rfl rfl rfl rfl (hS1) (e1) C1.one (by omega) (by omega) Try.underlying28 inf100 rfl ?_
     intro B1 d1 _ H'; simp only [List.set_cons_zero, List.set_cons_succ, List.take_succ_cons, List.take_zero, List.drop_succ_cons, List.drop_zero, List.cons_append, List.nil_append, List.append_nil, List.length_cons, List.length_nil, Nat.reduceAdd] at H'; clear H; have H := H'; clear H'
     refine k_nil ?_
     refine t_on trivial ?_
     refine t_up1 11 (by kernel_rfl) ?_
     refine up_mk rfl ?_
     refine s_apsN (enc := C1.v) (size := 3)  H 0 rfl rfl rfl rfl (hS2) (e2) C1.one (by omega) (by omega) Try.underlying28 inf100 rfl ?_
     intro B2 d2 _ H'; simp only [List.set_cons_zero, List.set_cons_succ, List.take_succ_cons, List.take_zero, List.drop_succ_cons, List.drop_zero, List.cons_append, List.nil_append, List.append_nil, List.length_cons, List.length_nil, Nat.reduceAdd] at H'; clear H; have H := H'; clear H'
     refine k_nil ?_
     refine t_on trivial ?_
     refine tqh 12 rfl rfl rfl (fun _ hS => r_fa0 rfl fo31_0) trivial ?_
     refine t_up1 13 (by kernel_rfl) ?_
     refine up_mk rfl ?_
     refine s_st (u := .slice _ _ _) H 2 rfl rfl rfl rfl rfl rfl sz28 ?_
     clear H; intro _ H; simp only [jA, jB, jC, jD, jE, jF, jG, jH, jI, jJ, jK, Nat.reduceAdd] at H
     refine k_nil ?_
     refine t_on trivial ?_
     refine t_done (by kernel_rfl) ?_
     refine c_norm ?_
     refine k_sg ?_
     refine s_run rfl rfl (r_la H 2 rfl rfl rfl ag31 sz31) ?_
     refine s_run rfl rfl (rmi rfl) ?_
     refine s_sw H 1 rfl rfl rfl rfl rfl rfl rfl sz31 ?_
     clear H; intro _ H; simp only [jA, jB, jC, jD, jE, jF, jG, jH, jI, jJ, jK, Nat.reduceAdd] at H
     refine s_run rfl rfl (rai rfl) ?_
     refine s_run rfl rfl (rai rfl) ?_
     refine k_nc ?_
     refine k_ret ?_
     refine fx3r rfl (rv_a H 1 rfl rfl rfl ag31 sz31) (rv_t (v := .int _ _) rfl) (rv_t (v := .int _ _) rfl) ?_
     rw [e3] at H; exact ⟨_, _, _, rfl, .inr (Heap.drops (A := [_]) H)⟩
    ·refine up_mk rfl ?_
     refine s_run rfl rfl (r_lo H 1 rfl rfl rfl ag28) ?_
     refine k_nil ?_
     refine t_on trivial ?_
     refine tqh 4 rfl rfl rfl (fun _ hS => r_shiA (j := j) rfl rfl rfl (by omega) Try.underlying28 sz100) trivial ?_
     refine t_up1 0 (by kernel_rfl) ?_
     refine up_mk rfl ?_
     refine s_bs0 3 (by omega) H rfl Try.underlying28 inf100 ?_
     intro _ _ H'; clear H; have H := H'; clear H'
     refine k_nil ?_
     refine t_on trivial ?_
     refine t_up1 5 (by kernel_rfl) ?_
     refine up_mk rfl ?_
     refine s_apsN (enc := C1.v) (size := 3) (xs := []) H 0 rfl rfl rfl rfl (hS1) (e1) C1.one (by omega) (by omega) Try.underlying28 inf100 rfl ?_
     intro B1 d1 _ H'; simp only [List.set_cons_zero, List.set_cons_succ, List.take_succ_cons, List.take_zero, List.drop_succ_cons, List.drop_zero, List.cons_append, List.nil_append, List.append_nil, List.length_cons, List.length_nil, Nat.reduceAdd] at H'; clear H; have H := H'; clear H'
     refine k_nil ?_
     refine t_on trivial ?_
     refine t_up1 11 (by kernel_rfl) ?_
     refine up_mk rfl ?_
     refine s_apsN (enc := C1.v) (size := 3)  H 0 rfl rfl rfl rfl (hS2) (e2) C1.one (by omega) (by omega) Try.underlying28 inf100 rfl ?_
     intro B2 d2 _ H'; simp only [List.set_cons_zero, List.set_cons_succ, List.take_succ_cons, List.take_zero, List.drop_succ_cons, List.drop_zero, List.cons_append, List.nil_append, List.append_nil, List.length_cons, List.length_nil, Nat.reduceAdd] at H'; clear H; have H := H'; clear H'
     refine k_nil ?_
     refine t_on trivial ?_
     refine tqh 12 rfl rfl rfl (fun _ hS => r_fa0 rfl fo31_0) trivial ?_
     refine t_up1 13 (by kernel_rfl) ?_
     refine up_mk rfl ?_
     refine s_st (u := .slice _ _ _) H 2 rfl rfl rfl rfl rfl rfl sz28 ?_
     clear H; intro _ H; simp only [jA, jB, jC, jD, jE, jF, jG, jH, jI, jJ, jK, Nat.reduceAdd] at H
     refine k_nil ?_
     refine t_on trivial ?_
     refine t_done (by kernel_rfl) ?_
     refine c_norm ?_
     refine k_sg ?_
     refine s_run rfl rfl (r_la H 2 rfl rfl rfl ag31 sz31) ?_
     refine s_run rfl rfl (rmi rfl) ?_
     refine s_sw H 1 rfl rfl rfl rfl rfl rfl rfl sz31 ?_
     clear H; intro _ H; simp only [jA, jB, jC, jD, jE, jF, jG, jH, jI, jJ, jK, Nat.reduceAdd] at H
     refine s_run rfl rfl (rai rfl) ?_
     refine s_run rfl rfl (rai rfl) ?_
     refine k_nc ?_
     refine k_ret ?_
     refine fx3r rfl (rv_a H 1 rfl rfl rfl ag31 sz31) (rv_t (v := .int _ _) rfl) (rv_t (v := .int _ _) rfl) ?_
     rw [e3] at H; exact ⟨_, _, _, rfl, .inr (Heap.drops (A := [_]) H)⟩
theorem give_same {s : LdS} {m a : Int} (hc : (s.give m a).2.2 ≠ 0) : (s.give m a).1 = s := by
 unfold LdS.give at hc ⊢
 split
 ·rfl
 ·rename_i h1
  rw [if_neg h1] at hc
  split
  ·rfl
  ·rename_i v hv
   rw [hv] at hc
   simp at hc
theorem rGive {F : List Nat} {A : Option Addr} {n c : Nat} {s : LdS} {w : World} {N : Nat} (hD : DocOk F w A n c s) (hF : ∀ i ∈ F, i < w.heap.size) (hok : LdOk N s) (hN : N ≤ 1000) (m a : Int) :
  Calls Try.prog 35 [docV A n c s, .int .i64 m, .int .i64 a].toArray w fun e w' => ∃ A' n' c', e = .returned (.tuple [docV A' n' c' (s.give m a).1, .int .i64 (s.give m a).2.1, .int .i64 (s.give m a).2.2].toArray) ∧ DocOk F w' A' n' c' (s.give m a).1 ∧ Only [] w w' :=
 (rGiveR hD hok hN m a).mono fun e w' ⟨A', n', c', he, h⟩ => ⟨A', n', c', he, by
  rcases h with ⟨rfl, rfl, rfl, hc, hO⟩ | H
  ·rw [give_same hc]; exact ⟨hD.later hO (by simp), hO⟩
  ·exact ⟨row_doc H 0 rfl hF, H.only⟩⟩
theorem mget_app {α β : Type} [DecidableEq α] : ∀ (L M : List (α × β)) (a : α) (v : β), mget L a = some v → mget (L ++ M) a = some v
 | [], M, a, v, h => by simp [mget] at h
 | x :: L, M, a, v, h => by
  rw [mget] at h
  rw [List.cons_append, mget]
  split
  ·rename_i e; rw [if_pos e] at h; exact h
  ·rename_i e; rw [if_neg e] at h; exact mget_app L M a v h
theorem pass_give {s : LdS} {f t a v : Int} (hf : 0 ≤ f ∧ f < 4) (hg : mget s.L (f, a) = some v) (hc : (s.take t a v).2 = 0) : ((s.take t a v).1.give f a).2.2 = 0 := by
 unfold LdS.give
 rw [if_neg (by omega)]
 have h : mget (s.take t a v).1.L (f, a) = some v := by
  unfold LdS.take at hc ⊢
  split
  ·exact hg
  ·split
   ·exact hg
   ·split
    ·exact hg
    ·exact mget_app _ _ _ _ hg
 rw [h]
theorem rPass {F : List Nat} {A : Option Addr} {n c : Nat} {s : LdS} {w : World} {N : Nat} (hD : DocOk F w A n c s) (hF : ∀ i ∈ F, i < w.heap.size) (hok : LdOk N s) (hN : N ≤ 900) (f t a : Int) (ha : wfI a) :
  Calls Try.prog 36 [docV A n c s, .int .i64 f, .int .i64 t, .int .i64 a].toArray w fun e w' => ∃ A' n' c', e = .returned (.tuple [docV A' n' c' (s.pass f t a).1, .int .i64 (s.pass f t a).2].toArray) ∧ DocOk F w' A' n' c' (s.pass f t a).1 ∧ Only [] w w' := by
 have H := Heap.nil w
 have hS := hD.sees.mono (G := []) (by simp)
 have hl := hD.len
 have hNn := hok.len
 have hFi := fun {W : World} (h : Only [] w W) => rFind (c := c) (q := s.q) (pk := s.pk) (tk := s.tk) (hS.later h (by simp)) hl (by omega) hok.nd f a
 have hel := enC_len s.L
 unfold LdS.pass
 by_cases hbad : f < 0 ∨ 4 ≤ f ∨ t < 0 ∨ 4 ≤ t
 ·rw [if_pos hbad]
  unfold docV
  by_cases b1 : f < 0
  ·refine k_in (N := 66) Try.func36 rfl rfl rfl ?_
   refine k_sg ?_
   refine s_box H rfl rfl ?_
   intro p4 _ H'; clear H; have H := H'; clear H'
   refine s_al H rfl inf31 ?_
   intro p8 _ H'; clear H; have H := H'; clear H'
   refine s_run rfl rfl (rai rfl) ?_
   refine k_nc ?_
   refine k_seq ?_
   refine k_sg ?_
   refine s_run rfl rfl (rmi rfl) ?_
   refine s_run rfl rfl (r_lssT rfl rfl (by omega)) ?_
   refine s_run rfl rfl (rmb rfl) ?_
   refine s_off rfl (g_off 15 (by kernel_rfl) rfl rfl) ?_
   refine s_off rfl (g_off 15 (by kernel_rfl) rfl rfl) ?_
   refine s_run rfl rfl (r_pkT (v := .bool _) rfl rfl) ?_
   refine s_run rfl rfl (rmb rfl) ?_
   refine s_off rfl (g_off 19 (by kernel_rfl) rfl rfl) ?_
   refine s_off rfl (g_off 19 (by kernel_rfl) rfl rfl) ?_
   refine s_run rfl rfl (r_pkT (v := .bool _) rfl rfl) ?_
   refine s_run rfl rfl (rmb rfl) ?_
   refine s_off rfl (g_off 23 (by kernel_rfl) rfl rfl) ?_
   refine s_off rfl (g_off 23 (by kernel_rfl) rfl rfl) ?_
   refine s_run rfl rfl (r_pkT (v := .bool _) rfl rfl) ?_
   refine k_nc ?_
   refine k_t rfl ?_
   refine k_sg ?_
   refine s_run rfl rfl (r_la H 1 rfl rfl rfl ag31 sz31) ?_
   refine s_sw H 0 rfl rfl rfl rfl rfl rfl rfl sz31 ?_
   clear H; intro _ H; simp only [jA, jB, jC, jD, jE, jF, jG, jH, jI, jJ, jK, Nat.reduceAdd] at H
   refine s_run rfl rfl (rai rfl) ?_
   refine k_nc ?_
   refine k_ret ?_
   refine c_ret ?_
   refine fx2r rfl (rv_a H 0 rfl rfl rfl ag31 sz31) (rv_t (v := .int _ _) rfl) ?_
   exact ⟨A, n, c, rfl, hD.later H.only (by simp), H.only⟩
  by_cases b2 : 4 ≤ f
  ·refine k_in (N := 66) Try.func36 rfl rfl rfl ?_
   refine k_sg ?_
   refine s_box H rfl rfl ?_
   intro p4 _ H'; clear H; have H := H'; clear H'
   refine s_al H rfl inf31 ?_
   intro p8 _ H'; clear H; have H := H'; clear H'
   refine s_run rfl rfl (rai rfl) ?_
   refine k_nc ?_
   refine k_seq ?_
   refine k_sg ?_
   refine s_run rfl rfl (rmi rfl) ?_
   refine s_run rfl rfl (r_lssF rfl rfl (by omega)) ?_
   refine s_run rfl rfl (rmb rfl) ?_
   refine s_run rfl (g_on 15 (by kernel_rfl) rfl) (rmi rfl) ?_
   refine s_run rfl (g_on 15 (by kernel_rfl) rfl) (r_gtrT rfl rfl (by omega)) ?_
   refine s_run rfl rfl (r_pkF (v := .bool _) rfl rfl) ?_
   refine s_run rfl rfl (rmb rfl) ?_
   refine s_off rfl (g_off 19 (by kernel_rfl) rfl rfl) ?_
   refine s_off rfl (g_off 19 (by kernel_rfl) rfl rfl) ?_
   refine s_run rfl rfl (r_pkT (v := .bool _) rfl rfl) ?_
   refine s_run rfl rfl (rmb rfl) ?_
   refine s_off rfl (g_off 23 (by kernel_rfl) rfl rfl) ?_
   refine s_off rfl (g_off 23 (by kernel_rfl) rfl rfl) ?_
   refine s_run rfl rfl (r_pkT (v := .bool _) rfl rfl) ?_
   refine k_nc ?_
   refine k_t rfl ?_
   refine k_sg ?_
   refine s_run rfl rfl (r_la H 1 rfl rfl rfl ag31 sz31) ?_
   refine s_sw H 0 rfl rfl rfl rfl rfl rfl rfl sz31 ?_
   clear H; intro _ H; simp only [jA, jB, jC, jD, jE, jF, jG, jH, jI, jJ, jK, Nat.reduceAdd] at H
   refine s_run rfl rfl (rai rfl) ?_
   refine k_nc ?_
   refine k_ret ?_
   refine c_ret ?_
   refine fx2r rfl (rv_a H 0 rfl rfl rfl ag31 sz31) (rv_t (v := .int _ _) rfl) ?_
   exact ⟨A, n, c, rfl, hD.later H.only (by simp), H.only⟩
  by_cases b3 : t < 0
  ·refine k_in (N := 66) Try.func36 rfl rfl rfl ?_
   refine k_sg ?_
   refine s_box H rfl rfl ?_
   intro p4 _ H'; clear H; have H := H'; clear H'
   refine s_al H rfl inf31 ?_
   intro p8 _ H'; clear H; have H := H'; clear H'
   refine s_run rfl rfl (rai rfl) ?_
   refine k_nc ?_
   refine k_seq ?_
   refine k_sg ?_
   refine s_run rfl rfl (rmi rfl) ?_
   refine s_run rfl rfl (r_lssF rfl rfl (by omega)) ?_
   refine s_run rfl rfl (rmb rfl) ?_
   refine s_run rfl (g_on 15 (by kernel_rfl) rfl) (rmi rfl) ?_
   refine s_run rfl (g_on 15 (by kernel_rfl) rfl) (r_gtrF rfl rfl (by omega)) ?_
   refine s_run rfl rfl (r_pkF (v := .bool _) rfl rfl) ?_
   refine s_run rfl rfl (rmb rfl) ?_
   refine s_run rfl (g_on 19 (by kernel_rfl) rfl) (rmi rfl) ?_
   refine s_run rfl (g_on 19 (by kernel_rfl) rfl) (r_lssT rfl rfl (by omega)) ?_
   refine s_run rfl rfl (r_pkF (v := .bool _) rfl rfl) ?_
   refine s_run rfl rfl (rmb rfl) ?_
   refine s_off rfl (g_off 23 (by kernel_rfl) rfl rfl) ?_
   refine s_off rfl (g_off 23 (by kernel_rfl) rfl rfl) ?_
   refine s_run rfl rfl (r_pkT (v := .bool _) rfl rfl) ?_
   refine k_nc ?_
   refine k_t rfl ?_
   refine k_sg ?_
   refine s_run rfl rfl (r_la H 1 rfl rfl rfl ag31 sz31) ?_
   refine s_sw H 0 rfl rfl rfl rfl rfl rfl rfl sz31 ?_
   clear H; intro _ H; simp only [jA, jB, jC, jD, jE, jF, jG, jH, jI, jJ, jK, Nat.reduceAdd] at H
   refine s_run rfl rfl (rai rfl) ?_
   refine k_nc ?_
   refine k_ret ?_
   refine c_ret ?_
   refine fx2r rfl (rv_a H 0 rfl rfl rfl ag31 sz31) (rv_t (v := .int _ _) rfl) ?_
   exact ⟨A, n, c, rfl, hD.later H.only (by simp), H.only⟩
  ·refine k_in (N := 66) Try.func36 rfl rfl rfl ?_
   refine k_sg ?_
   refine s_box H rfl rfl ?_
   intro p4 _ H'; clear H; have H := H'; clear H'
   refine s_al H rfl inf31 ?_
   intro p8 _ H'; clear H; have H := H'; clear H'
   refine s_run rfl rfl (rai rfl) ?_
   refine k_nc ?_
   refine k_seq ?_
   refine k_sg ?_
   refine s_run rfl rfl (rmi rfl) ?_
   refine s_run rfl rfl (r_lssF rfl rfl (by omega)) ?_
   refine s_run rfl rfl (rmb rfl) ?_
   refine s_run rfl (g_on 15 (by kernel_rfl) rfl) (rmi rfl) ?_
   refine s_run rfl (g_on 15 (by kernel_rfl) rfl) (r_gtrF rfl rfl (by omega)) ?_
   refine s_run rfl rfl (r_pkF (v := .bool _) rfl rfl) ?_
   refine s_run rfl rfl (rmb rfl) ?_
   refine s_run rfl (g_on 19 (by kernel_rfl) rfl) (rmi rfl) ?_
   refine s_run rfl (g_on 19 (by kernel_rfl) rfl) (r_lssF rfl rfl (by omega)) ?_
   refine s_run rfl rfl (r_pkF (v := .bool _) rfl rfl) ?_
   refine s_run rfl rfl (rmb rfl) ?_
   refine s_run rfl (g_on 23 (by kernel_rfl) rfl) (rmi rfl) ?_
   refine s_run rfl (g_on 23 (by kernel_rfl) rfl) (r_gtrT rfl rfl (by omega)) ?_
   refine s_run rfl rfl (r_pkF (v := .bool _) rfl rfl) ?_
   refine k_nc ?_
   refine k_t rfl ?_
   refine k_sg ?_
   refine s_run rfl rfl (r_la H 1 rfl rfl rfl ag31 sz31) ?_
   refine s_sw H 0 rfl rfl rfl rfl rfl rfl rfl sz31 ?_
   clear H; intro _ H; simp only [jA, jB, jC, jD, jE, jF, jG, jH, jI, jJ, jK, Nat.reduceAdd] at H
   refine s_run rfl rfl (rai rfl) ?_
   refine k_nc ?_
   refine k_ret ?_
   refine c_ret ?_
   refine fx2r rfl (rv_a H 0 rfl rfl rfl ag31 sz31) (rv_t (v := .int _ _) rfl) ?_
   exact ⟨A, n, c, rfl, hD.later H.only (by simp), H.only⟩
 ·rw [if_neg hbad]
  cases hg : mget s.L (f, a) with
  | none =>
   rw [hg] at hFi
   unfold docV
   refine k_in (N := 66) Try.func36 rfl rfl rfl ?_
   refine k_sg ?_
   refine s_box H rfl rfl ?_
   intro p4 _ H'; clear H; have H := H'; clear H'
   refine s_al H rfl inf31 ?_
   intro p8 _ H'; clear H; have H := H'; clear H'
   refine s_run rfl rfl (rai rfl) ?_
   refine k_nc ?_
   refine k_seq ?_
   refine k_sg ?_
   refine s_run rfl rfl (rmi rfl) ?_
   refine s_run rfl rfl (r_lssF rfl rfl (by omega)) ?_
   refine s_run rfl rfl (rmb rfl) ?_
   refine s_run rfl (g_on 15 (by kernel_rfl) rfl) (rmi rfl) ?_
   refine s_run rfl (g_on 15 (by kernel_rfl) rfl) (r_gtrF rfl rfl (by omega)) ?_
   refine s_run rfl rfl (r_pkF (v := .bool _) rfl rfl) ?_
   refine s_run rfl rfl (rmb rfl) ?_
   refine s_run rfl (g_on 19 (by kernel_rfl) rfl) (rmi rfl) ?_
   refine s_run rfl (g_on 19 (by kernel_rfl) rfl) (r_lssF rfl rfl (by omega)) ?_
   refine s_run rfl rfl (r_pkF (v := .bool _) rfl rfl) ?_
   refine s_run rfl rfl (rmb rfl) ?_
   refine s_run rfl (g_on 23 (by kernel_rfl) rfl) (rmi rfl) ?_
   refine s_run rfl (g_on 23 (by kernel_rfl) rfl) (r_gtrF rfl rfl (by omega)) ?_
   refine s_run rfl rfl (r_pkF (v := .bool _) rfl rfl) ?_
   refine k_nc ?_
   refine k_f rfl ?_
   refine k_skip ?_
   refine c_norm ?_
   refine k_sg ?_
   refine s_run rfl rfl (r_la H 1 rfl rfl rfl ag31 sz31) ?_
   refine s_run rfl rfl (rmi rfl) ?_
   refine s_run rfl rfl (rmi rfl) ?_
   refine s_call rfl (hFi H.only) (ca54 rfl) ?_
   rintro e W1 ⟨⟨r, rfl, hr⟩, H'⟩
   refine ⟨_, rfl, ?_⟩
   have H := H.same H'; clear H'; obtain rfl : r = -1 := hr.elim (fun h => h.2) (fun ⟨_, _, _, _, h⟩ => by cases h)
   refine s_run rfl rfl (rai rfl) ?_
   refine k_nc ?_
   refine k_seq ?_
   refine k_sg ?_
   refine s_run rfl rfl (rmi rfl) ?_
   refine s_run rfl rfl (r_lssT rfl rfl (by omega)) ?_
   refine k_nc ?_
   refine k_t rfl ?_
   refine k_sg ?_
   refine s_run rfl rfl (r_la H 1 rfl rfl rfl ag31 sz31) ?_
   refine s_sw H 0 rfl rfl rfl rfl rfl rfl rfl sz31 ?_
   clear H; intro _ H; simp only [jA, jB, jC, jD, jE, jF, jG, jH, jI, jJ, jK, Nat.reduceAdd] at H
   refine s_run rfl rfl (rai rfl) ?_
   refine k_nc ?_
   refine k_ret ?_
   refine c_ret ?_
   refine fx2r rfl (rv_a H 0 rfl rfl rfl ag31 sz31) (rv_t (v := .int _ _) rfl) ?_
   exact ⟨A, n, c, rfl, hD.later H.only (by simp), H.only⟩
  | some v =>
   simp only
   rw [hg] at hFi
   by_cases hft : f = t
   ·rw [if_pos hft]
    unfold docV
    refine k_in (N := 66) Try.func36 rfl rfl rfl ?_
    refine k_sg ?_
    refine s_box H rfl rfl ?_
    intro p4 _ H'; clear H; have H := H'; clear H'
    refine s_al H rfl inf31 ?_
    intro p8 _ H'; clear H; have H := H'; clear H'
    refine s_run rfl rfl (rai rfl) ?_
    refine k_nc ?_
    refine k_seq ?_
    refine k_sg ?_
    refine s_run rfl rfl (rmi rfl) ?_
    refine s_run rfl rfl (r_lssF rfl rfl (by omega)) ?_
    refine s_run rfl rfl (rmb rfl) ?_
    refine s_run rfl (g_on 15 (by kernel_rfl) rfl) (rmi rfl) ?_
    refine s_run rfl (g_on 15 (by kernel_rfl) rfl) (r_gtrF rfl rfl (by omega)) ?_
    refine s_run rfl rfl (r_pkF (v := .bool _) rfl rfl) ?_
    refine s_run rfl rfl (rmb rfl) ?_
    refine s_run rfl (g_on 19 (by kernel_rfl) rfl) (rmi rfl) ?_
    refine s_run rfl (g_on 19 (by kernel_rfl) rfl) (r_lssF rfl rfl (by omega)) ?_
    refine s_run rfl rfl (r_pkF (v := .bool _) rfl rfl) ?_
    refine s_run rfl rfl (rmb rfl) ?_
    refine s_run rfl (g_on 23 (by kernel_rfl) rfl) (rmi rfl) ?_
    refine s_run rfl (g_on 23 (by kernel_rfl) rfl) (r_gtrF rfl rfl (by omega)) ?_
    refine s_run rfl rfl (r_pkF (v := .bool _) rfl rfl) ?_
    refine k_nc ?_
    refine k_f rfl ?_
    refine k_skip ?_
    refine c_norm ?_
    refine k_sg ?_
    refine s_run rfl rfl (r_la H 1 rfl rfl rfl ag31 sz31) ?_
    refine s_run rfl rfl (rmi rfl) ?_
    refine s_run rfl rfl (rmi rfl) ?_
    refine s_call rfl (hFi H.only) (ca54 rfl) ?_
    rintro e W1 ⟨⟨r, rfl, hr⟩, H'⟩
    refine ⟨_, rfl, ?_⟩
    have H := H.same H'; clear H'; obtain ⟨j, v2, hj, rfl, hm2⟩ : ∃ (j : Nat) (v2 : Int), s.L[j]? = some ((f, a), v2) ∧ r = j ∧ some v = some v2 := hr.elim (fun h => by cases h.1) id
    refine s_run rfl rfl (rai rfl) ?_
    refine k_nc ?_
    refine k_seq ?_
    refine k_sg ?_
    refine s_run rfl rfl (rmi rfl) ?_
    refine s_run rfl rfl (r_lssF rfl rfl (by omega)) ?_
    refine k_nc ?_
    refine k_f rfl ?_
    refine k_skip ?_
    refine c_norm ?_
    refine k_seq ?_
    refine k_sg ?_
    refine s_run rfl rfl (rmi rfl) ?_
    refine s_run rfl rfl (rmi rfl) ?_
    refine s_run rfl rfl (r_eqlT rfl rfl (by omega)) ?_
    refine k_nc ?_
    refine k_t rfl ?_
    refine k_sg ?_
    refine s_run rfl rfl (r_la H 1 rfl rfl rfl ag31 sz31) ?_
    refine s_sw H 0 rfl rfl rfl rfl rfl rfl rfl sz31 ?_
    clear H; intro _ H; simp only [jA, jB, jC, jD, jE, jF, jG, jH, jI, jJ, jK, Nat.reduceAdd] at H
    refine s_run rfl rfl (rai rfl) ?_
    refine k_nc ?_
    refine k_ret ?_
    refine c_ret ?_
    refine fx2r rfl (rv_a H 0 rfl rfl rfl ag31 sz31) (rv_t (v := .int _ _) rfl) ?_
    exact ⟨A, n, c, rfl, hD.later H.only (by simp), H.only⟩
   ·rw [if_neg hft]
    have hok2 := hok.take t a v ha
    have hT := fun {W : World} (h : Only [] w W) => rTakeR (hD.later h (by simp)) hok (by omega) t a v
    have hG := fun {B m d} {W : World} h => rGiveR (F := []) (A := B) (n := m) (c := d) (s := (s.take t a v).1) (w := W) h hok2 (by omega) f a
    unfold docV at hT hG ⊢
    refine k_in (N := 66) Try.func36 rfl rfl rfl ?_
    refine k_sg ?_
    refine s_box H rfl rfl ?_
    intro p4 _ H'; clear H; have H := H'; clear H'
    refine s_al H rfl inf31 ?_
    intro p8 _ H'; clear H; have H := H'; clear H'
    refine s_run rfl rfl (rai rfl) ?_
    refine k_nc ?_
    refine k_seq ?_
    refine k_sg ?_
    refine s_run rfl rfl (rmi rfl) ?_
    refine s_run rfl rfl (r_lssF rfl rfl (by omega)) ?_
    refine s_run rfl rfl (rmb rfl) ?_
    refine s_run rfl (g_on 15 (by kernel_rfl) rfl) (rmi rfl) ?_
    refine s_run rfl (g_on 15 (by kernel_rfl) rfl) (r_gtrF rfl rfl (by omega)) ?_
    refine s_run rfl rfl (r_pkF (v := .bool _) rfl rfl) ?_
    refine s_run rfl rfl (rmb rfl) ?_
    refine s_run rfl (g_on 19 (by kernel_rfl) rfl) (rmi rfl) ?_
    refine s_run rfl (g_on 19 (by kernel_rfl) rfl) (r_lssF rfl rfl (by omega)) ?_
    refine s_run rfl rfl (r_pkF (v := .bool _) rfl rfl) ?_
    refine s_run rfl rfl (rmb rfl) ?_
    refine s_run rfl (g_on 23 (by kernel_rfl) rfl) (rmi rfl) ?_
    refine s_run rfl (g_on 23 (by kernel_rfl) rfl) (r_gtrF rfl rfl (by omega)) ?_
    refine s_run rfl rfl (r_pkF (v := .bool _) rfl rfl) ?_
    refine k_nc ?_
    refine k_f rfl ?_
    refine k_skip ?_
    refine c_norm ?_
    refine k_sg ?_
    refine s_run rfl rfl (r_la H 1 rfl rfl rfl ag31 sz31) ?_
    refine s_run rfl rfl (rmi rfl) ?_
    refine s_run rfl rfl (rmi rfl) ?_
    refine s_call rfl (hFi H.only) (ca54 rfl) ?_
    rintro e W1 ⟨⟨r, rfl, hr⟩, H'⟩
    refine ⟨_, rfl, ?_⟩
    have H := H.same H'; clear H'; obtain ⟨j, v2, hj, rfl, hm2⟩ : ∃ (j : Nat) (v2 : Int), s.L[j]? = some ((f, a), v2) ∧ r = j ∧ some v = some v2 := hr.elim (fun h => by cases h.1) id
    refine s_run rfl rfl (rai rfl) ?_
    refine k_nc ?_
    refine k_seq ?_
    refine k_sg ?_
    refine s_run rfl rfl (rmi rfl) ?_
    refine s_run rfl rfl (r_lssF rfl rfl (by omega)) ?_
    refine k_nc ?_
    refine k_f rfl ?_
    refine k_skip ?_
    refine c_norm ?_
    refine k_seq ?_
    refine k_sg ?_
    refine s_run rfl rfl (rmi rfl) ?_
    refine s_run rfl rfl (rmi rfl) ?_
    refine s_run rfl rfl (r_eqlF rfl rfl (by omega)) ?_
    refine k_nc ?_
    refine k_f rfl ?_
    refine k_skip ?_
    refine c_norm ?_
    refine k_seq ?_
    injection hm2 with hm2
    subst hm2
    have hjl : j < n := by have := (List.getElem?_eq_some_iff.1 hj).1; omega
    obtain ⟨b, o, rfl, _, hrd⟩ := hS (by rw [hel]; omega)
    obtain ⟨g1, g2, g3⟩ := enC_get s.L j _ hj
    have c3 := hrd _ _ g3
    by_cases hc : (s.take t a v).2 = 0
    ·rw [if_neg (by omega)]
     have hgv := pass_give (f := f) (by omega) hg hc
     have HR := H; clear H; have H := HR.tree; refine k_tr mixed ?_
     refine tqh 0 rfl rfl rfl (fun _ hS => r_la (HR.same hS) 1 rfl rfl rfl ag31 sz31) H.only ?_
     refine tqh 1 rfl rfl rfl (fun _ hS => r_mv (v := .int _ _) rfl) H.only ?_
     refine tqh 2 rfl rfl rfl (fun _ hS => r_mv (v := .int _ _) rfl) H.only ?_
     refine tqh 3 rfl rfl rfl (fun _ hS => r_fa0 rfl fo31_0) H.only ?_
     refine tqh 4 rfl rfl rfl (fun _ hS => r_lo (HR.same hS) 1 rfl rfl rfl ag28) H.only ?_
     refine tqh 5 rfl rfl rfl (fun _ hS => r_mv (v := .int _ _) rfl) H.only ?_
     refine tqh 6 rfl rfl rfl (fun _ hS => r_ix (i := j) rfl rfl (by omega) (by omega) Try.underlying28 sz100) H.only ?_
     refine tqh 7 rfl rfl rfl (fun _ hS => r_fa rfl fo100_2) H.only ?_
     refine tqh 8 rfl rfl rfl (fun _ hS => r_lr (HR.same hS) rfl c3 (by simp) ag3) H.only ?_
     refine t_up2 9 13 (by kernel_rfl) ?_ ?_
     ·refine up_mk rfl ?_
      refine s_call rfl (hT (HR.only.trans H.only)) (ca34 rfl) ?_
      rintro e W1 ⟨B1, m1, d1, rfl, H'⟩
      refine ⟨_, rfl, ?_⟩
      have H := H.more (H'.resolve_left (fun h => h.2.2.2.1 hc)); clear H'; simp only [List.cons_append, List.nil_append] at H
      refine k_nil ?_
      refine t_on H.only ?_
      refine tqh 10 rfl rfl rfl (fun _ hS => r_mv (v := .tuple _) rfl) H.only ?_
      refine tqh 11 rfl rfl rfl (fun _ hS => r_ext (v := .agg _) rfl rfl) H.only ?_
      refine tqh 12 rfl rfl rfl (fun _ hS => r_ext (v := .int _ _) rfl rfl) H.only ?_
      refine t_up1 13 (by kernel_rfl) ?_
      refine up_mk rfl ?_
      refine s_al H rfl inf31 ?_
      intro p11 _ H'; clear H; have H := H'; clear H'
      refine k_nil ?_
      refine t_on H.only ?_
      refine t_up1 14 (by kernel_rfl) ?_
      refine up_mk rfl ?_
      refine s_sw H 0 rfl rfl rfl rfl rfl rfl rfl sz31 ?_
      clear H; intro _ H; simp only [jA, jB, jC, jD, jE, jF, jG, jH, jI, jJ, jK, Nat.reduceAdd] at H
      refine k_nil ?_
      refine t_on H.only ?_
      refine tqh 15 rfl rfl rfl (fun _ hS => r_as (v := .int _ _) rfl) H.only ?_
      refine t_done (by kernel_rfl) ?_
      have H := HR.more H; clear HR; simp only [List.cons_append, List.nil_append] at H
      refine c_norm ?_
      refine k_seq ?_
      refine k_sg ?_
      refine s_run rfl rfl (rmi rfl) ?_
      refine s_run rfl rfl (r_neqF rfl rfl (by omega)) ?_
      refine k_nc ?_
      refine k_f rfl ?_
      refine k_skip ?_
      refine c_norm ?_
      refine k_sg ?_
      refine s_run rfl rfl (r_la H 0 rfl rfl rfl ag31 sz31) ?_
      refine s_run rfl rfl (rmi rfl) ?_
      refine s_run rfl rfl (rmi rfl) ?_
      refine s_call rfl (hG (row_doc (F := []) H 1 rfl (by simp))) (ca35 rfl) ?_
      rintro e W1 ⟨B2, m2, d2, rfl, H'⟩
      refine ⟨_, rfl, ?_⟩
      have H := H.more (H'.resolve_left (fun h => h.2.2.2.1 hgv)); clear H'; simp only [List.cons_append, List.nil_append] at H
      refine s_run rfl rfl (rmt rfl) ?_
      refine s_run rfl rfl (r_ext (v := .agg _) rfl rfl) ?_
      refine s_run rfl rfl (r_ext (v := .int _ _) rfl rfl) ?_
      refine s_run rfl rfl (r_ext (v := .int _ _) rfl rfl) ?_
      refine s_sw H 1 rfl rfl rfl rfl rfl rfl rfl sz31 ?_
      clear H; intro _ H; simp only [jA, jB, jC, jD, jE, jF, jG, jH, jI, jJ, jK, Nat.reduceAdd] at H
      refine s_run rfl rfl (rai rfl) ?_
      refine k_nc ?_
      refine k_sg ?_
      refine s_run rfl rfl (r_la H 1 rfl rfl rfl ag31 sz31) ?_
      refine s_run rfl rfl (rmi rfl) ?_
      refine s_sw H 3 rfl rfl rfl rfl rfl rfl rfl sz31 ?_
      clear H; intro _ H; simp only [jA, jB, jC, jD, jE, jF, jG, jH, jI, jJ, jK, Nat.reduceAdd] at H
      refine s_run rfl rfl (rai rfl) ?_
      refine k_nc ?_
      refine k_ret ?_
      refine fx2r rfl (rv_a H 3 rfl rfl rfl ag31 sz31) (rv_t (v := .int _ _) rfl) ?_
      exact ⟨_, _, _, rfl, row_doc H 0 rfl hF, H.only⟩
     ·refine up_mk rfl ?_
      refine s_al H rfl inf31 ?_
      intro p11 _ H'; clear H; have H := H'; clear H'
      refine k_nil ?_
      refine t_on H.only ?_
      refine t_up1 9 (by kernel_rfl) ?_
      refine up_mk rfl ?_
      refine s_call rfl (hT (HR.only.trans H.only)) (ca34 rfl) ?_
      rintro e W1 ⟨B1, m1, d1, rfl, H'⟩
      refine ⟨_, rfl, ?_⟩
      have H := H.more (H'.resolve_left (fun h => h.2.2.2.1 hc)); clear H'; simp only [List.cons_append, List.nil_append] at H
      refine k_nil ?_
      refine t_on H.only ?_
      refine tqh 10 rfl rfl rfl (fun _ hS => r_mv (v := .tuple _) rfl) H.only ?_
      refine tqh 11 rfl rfl rfl (fun _ hS => r_ext (v := .agg _) rfl rfl) H.only ?_
      refine tqh 12 rfl rfl rfl (fun _ hS => r_ext (v := .int _ _) rfl rfl) H.only ?_
      refine t_up1 14 (by kernel_rfl) ?_
      refine up_mk rfl ?_
      refine s_sw H 1 rfl rfl rfl rfl rfl rfl rfl sz31 ?_
      clear H; intro _ H; simp only [jA, jB, jC, jD, jE, jF, jG, jH, jI, jJ, jK, Nat.reduceAdd] at H
      refine k_nil ?_
      refine t_on H.only ?_
      refine tqh 15 rfl rfl rfl (fun _ hS => r_as (v := .int _ _) rfl) H.only ?_
      refine t_done (by kernel_rfl) ?_
      replace H := H.pick 1 rfl; simp only [jL, jM] at H
      have H := HR.more H; clear HR; simp only [List.cons_append, List.nil_append] at H
      refine c_norm ?_
      refine k_seq ?_
      refine k_sg ?_
      refine s_run rfl rfl (rmi rfl) ?_
      refine s_run rfl rfl (r_neqF rfl rfl (by omega)) ?_
      refine k_nc ?_
      refine k_f rfl ?_
      refine k_skip ?_
      refine c_norm ?_
      refine k_sg ?_
      refine s_run rfl rfl (r_la H 0 rfl rfl rfl ag31 sz31) ?_
      refine s_run rfl rfl (rmi rfl) ?_
      refine s_run rfl rfl (rmi rfl) ?_
      refine s_call rfl (hG (row_doc (F := []) H 1 rfl (by simp))) (ca35 rfl) ?_
      rintro e W1 ⟨B2, m2, d2, rfl, H'⟩
      refine ⟨_, rfl, ?_⟩
      have H := H.more (H'.resolve_left (fun h => h.2.2.2.1 hgv)); clear H'; simp only [List.cons_append, List.nil_append] at H
      refine s_run rfl rfl (rmt rfl) ?_
      refine s_run rfl rfl (r_ext (v := .agg _) rfl rfl) ?_
      refine s_run rfl rfl (r_ext (v := .int _ _) rfl rfl) ?_
      refine s_run rfl rfl (r_ext (v := .int _ _) rfl rfl) ?_
      refine s_sw H 1 rfl rfl rfl rfl rfl rfl rfl sz31 ?_
      clear H; intro _ H; simp only [jA, jB, jC, jD, jE, jF, jG, jH, jI, jJ, jK, Nat.reduceAdd] at H
      refine s_run rfl rfl (rai rfl) ?_
      refine k_nc ?_
      refine k_sg ?_
      refine s_run rfl rfl (r_la H 1 rfl rfl rfl ag31 sz31) ?_
      refine s_run rfl rfl (rmi rfl) ?_
      refine s_sw H 3 rfl rfl rfl rfl rfl rfl rfl sz31 ?_
      clear H; intro _ H; simp only [jA, jB, jC, jD, jE, jF, jG, jH, jI, jJ, jK, Nat.reduceAdd] at H
      refine s_run rfl rfl (rai rfl) ?_
      refine k_nc ?_
      refine k_ret ?_
      refine fx2r rfl (rv_a H 3 rfl rfl rfl ag31 sz31) (rv_t (v := .int _ _) rfl) ?_
      exact ⟨_, _, _, rfl, row_doc H 0 rfl hF, H.only⟩
    ·rw [if_pos hc]
     have HR := H; clear H; have H := HR.tree; refine k_tr mixed ?_
     refine tqh 0 rfl rfl rfl (fun _ hS => r_la (HR.same hS) 1 rfl rfl rfl ag31 sz31) H.only ?_
     refine tqh 1 rfl rfl rfl (fun _ hS => r_mv (v := .int _ _) rfl) H.only ?_
     refine tqh 2 rfl rfl rfl (fun _ hS => r_mv (v := .int _ _) rfl) H.only ?_
     refine tqh 3 rfl rfl rfl (fun _ hS => r_fa0 rfl fo31_0) H.only ?_
     refine tqh 4 rfl rfl rfl (fun _ hS => r_lo (HR.same hS) 1 rfl rfl rfl ag28) H.only ?_
     refine tqh 5 rfl rfl rfl (fun _ hS => r_mv (v := .int _ _) rfl) H.only ?_
     refine tqh 6 rfl rfl rfl (fun _ hS => r_ix (i := j) rfl rfl (by omega) (by omega) Try.underlying28 sz100) H.only ?_
     refine tqh 7 rfl rfl rfl (fun _ hS => r_fa rfl fo100_2) H.only ?_
     refine tqh 8 rfl rfl rfl (fun _ hS => r_lr (HR.same hS) rfl c3 (by simp) ag3) H.only ?_
     refine t_up2 9 13 (by kernel_rfl) ?_ ?_
     ·refine up_mk rfl ?_
      refine s_call rfl (hT (HR.only.trans H.only)) (ca34 rfl) ?_
      rintro e W1 ⟨B1, m1, d1, rfl, H'⟩
      refine ⟨_, rfl, ?_⟩
      have H := H.same (H'.elim (fun h => h.2.2.2.2) (fun h => h.only)); clear H'
      refine k_nil ?_
      refine t_on H.only ?_
      refine tqh 10 rfl rfl rfl (fun _ hS => r_mv (v := .tuple _) rfl) H.only ?_
      refine tqh 11 rfl rfl rfl (fun _ hS => r_ext (v := .agg _) rfl rfl) H.only ?_
      refine tqh 12 rfl rfl rfl (fun _ hS => r_ext (v := .int _ _) rfl rfl) H.only ?_
      refine t_up1 13 (by kernel_rfl) ?_
      refine up_mk rfl ?_
      refine s_al H rfl inf31 ?_
      intro p11 _ H'; clear H; have H := H'; clear H'
      refine k_nil ?_
      refine t_on H.only ?_
      refine t_up1 14 (by kernel_rfl) ?_
      refine up_mk rfl ?_
      refine s_sw H 0 rfl rfl rfl rfl rfl rfl rfl sz31 ?_
      clear H; intro _ H; simp only [jA, jB, jC, jD, jE, jF, jG, jH, jI, jJ, jK, Nat.reduceAdd] at H
      refine k_nil ?_
      refine t_on H.only ?_
      refine tqh 15 rfl rfl rfl (fun _ hS => r_as (v := .int _ _) rfl) H.only ?_
      refine t_done (by kernel_rfl) ?_
      have H := HR.more H; clear HR; simp only [List.cons_append, List.nil_append] at H
      refine c_norm ?_
      refine k_seq ?_
      refine k_sg ?_
      refine s_run rfl rfl (rmi rfl) ?_
      refine s_run rfl rfl (r_neqT rfl rfl (by omega)) ?_
      refine k_nc ?_
      refine k_t rfl ?_
      refine k_sg ?_
      refine s_run rfl rfl (r_la H 2 rfl rfl rfl ag31 sz31) ?_
      refine s_run rfl rfl (rmi rfl) ?_
      refine s_sw H 1 rfl rfl rfl rfl rfl rfl rfl sz31 ?_
      clear H; intro _ H; simp only [jA, jB, jC, jD, jE, jF, jG, jH, jI, jJ, jK, Nat.reduceAdd] at H
      refine s_run rfl rfl (rai rfl) ?_
      refine k_nc ?_
      refine k_ret ?_
      refine c_ret ?_
      refine fx2r rfl (rv_a H 1 rfl rfl rfl ag31 sz31) (rv_t (v := .int _ _) rfl) ?_
      exact ⟨_, _, _, rfl, hD.later H.only (by simp), H.only⟩
     ·refine up_mk rfl ?_
      refine s_al H rfl inf31 ?_
      intro p11 _ H'; clear H; have H := H'; clear H'
      refine k_nil ?_
      refine t_on H.only ?_
      refine t_up1 9 (by kernel_rfl) ?_
      refine up_mk rfl ?_
      refine s_call rfl (hT (HR.only.trans H.only)) (ca34 rfl) ?_
      rintro e W1 ⟨B1, m1, d1, rfl, H'⟩
      refine ⟨_, rfl, ?_⟩
      have H := H.same (H'.elim (fun h => h.2.2.2.2) (fun h => h.only)); clear H'
      refine k_nil ?_
      refine t_on H.only ?_
      refine tqh 10 rfl rfl rfl (fun _ hS => r_mv (v := .tuple _) rfl) H.only ?_
      refine tqh 11 rfl rfl rfl (fun _ hS => r_ext (v := .agg _) rfl rfl) H.only ?_
      refine tqh 12 rfl rfl rfl (fun _ hS => r_ext (v := .int _ _) rfl rfl) H.only ?_
      refine t_up1 14 (by kernel_rfl) ?_
      refine up_mk rfl ?_
      refine s_sw H 0 rfl rfl rfl rfl rfl rfl rfl sz31 ?_
      clear H; intro _ H; simp only [jA, jB, jC, jD, jE, jF, jG, jH, jI, jJ, jK, Nat.reduceAdd] at H
      refine k_nil ?_
      refine t_on H.only ?_
      refine tqh 15 rfl rfl rfl (fun _ hS => r_as (v := .int _ _) rfl) H.only ?_
      refine t_done (by kernel_rfl) ?_
      have H := HR.more H; clear HR; simp only [List.cons_append, List.nil_append] at H
      refine c_norm ?_
      refine k_seq ?_
      refine k_sg ?_
      refine s_run rfl rfl (rmi rfl) ?_
      refine s_run rfl rfl (r_neqT rfl rfl (by omega)) ?_
      refine k_nc ?_
      refine k_t rfl ?_
      refine k_sg ?_
      refine s_run rfl rfl (r_la H 2 rfl rfl rfl ag31 sz31) ?_
      refine s_run rfl rfl (rmi rfl) ?_
      refine s_sw H 1 rfl rfl rfl rfl rfl rfl rfl sz31 ?_
      clear H; intro _ H; simp only [jA, jB, jC, jD, jE, jF, jG, jH, jI, jJ, jK, Nat.reduceAdd] at H
      refine s_run rfl rfl (rai rfl) ?_
      refine k_nc ?_
      refine k_ret ?_
      refine c_ret ?_
      refine fx2r rfl (rv_a H 1 rfl rfl rfl ag31 sz31) (rv_t (v := .int _ _) rfl) ?_
      exact ⟨_, _, _, rfl, hD.later H.only (by simp), H.only⟩
end Go.Proofs.Ytpbimgopiammaaa
end

section
namespace Go.Proofs.Ytpbimgopiammaaa
open Go.RowKit
set_option maxRecDepth 100000
set_option maxHeartbeats 4000000
theorem rd3 {w W : World} {b o : Nat} {xs : List C1} {k : Nat} {x y z : C1} (h : Reads C1.v w b o xs) (h1 : xs[k]? = some x) (h2 : xs[k + 1]? = some y) (h3 : xs[k + 2]? = some z) (hO : Only [] w W) : Reads C1.v W b (o + k) [x, y, z] := fun j v hj => by
 have h := h.later hO (by simp)
 match j, hj with
 | 0, hj => simp at hj; subst hj; exact h k _ h1
 | 1, hj => simp at hj; subst hj; have := h _ _ h2; rwa [← Nat.add_assoc] at this
 | 2, hj => simp at hj; subst hj; have := h _ _ h3; rwa [← Nat.add_assoc] at this
 | j + 3, hj => simp at hj
def outL (live : List Int) (x : (Int × Int) × Int) : Bool := decide (x.1.2 ∉ live)
theorem rSweep {F : List Nat} {A : Option Addr} {n c : Nat} {s : LdS} {w : World} {N : Nat} (hD : DocOk F w A n c s) (hF : ∀ i ∈ F, i < w.heap.size) (hok : LdOk N s) (hN : N ≤ 1000) (B : Option Addr) (m d : Nat) (live : List Int) (hSl : Sees (Value.int .i64) w [] B live) (hll : live.length = m) (hm : m ≤ 1000000) :
  Calls Try.prog 38 [docV A n c s, .slice B m d].toArray w fun e w' => ∃ A' n' c', e = .returned (.tuple [docV A' n' c' (s.sweep live).1, .int .i64 (s.sweep live).2].toArray) ∧ DocOk F w' A' n' c' (s.sweep live).1 ∧ Only [] w w' := by
 have H := Heap.nil w
 have hS := hD.sees.mono (G := []) (by simp)
 have hl := hD.len
 have hNn := hok.len
 have hel := enC_len s.L
 have hk2 : ∀ x ∈ s.L, 1 ≤ x.2 ∧ x.2 ≤ 1048576 := fun x hx => ⟨(hok.key x hx).2.2.1, (hok.key x hx).2.2.2.1⟩
 unfold docV
 refine k_in (N := 59) Try.func38 rfl rfl rfl ?_
 refine k_sg ?_
 refine s_box H rfl rfl ?_
 intro p2 _ H'; clear H; have H := H'; clear H'
 refine s_al H rfl inf31 ?_
 intro p4 _ H'; clear H; have H := H'; clear H'
 refine s_run rfl rfl (rai rfl) ?_
 refine k_nc ?_
 refine k_sg ?_
 refine s_run rfl rfl (ras rfl) ?_
 refine k_nc ?_
 refine k_sg ?_
 refine s_run rfl rfl (rai rfl) ?_
 refine k_nc ?_
 refine k_seq ?_
 refine k_sg ?_
 refine s_run rfl rfl (rai rfl) ?_
 refine k_nc ?_
 refine k_b ?_
 replace H := H.own_nil 3 100
 refine k_loop (fun z f W => ∃ (i : Nat) (OA : Option Addr) (oc : Nat) (out : LdL) (t : Int), i ≤ n ∧ z = n - i ∧ out = (s.L.take i).filter (inL live) ∧ t = sum2 ((s.L.take i).filter (outL live)) ∧ f 1 = .slice B m d ∧ f 2 = ptrL p2 ∧ f 4 = ptrL p4 ∧ f 6 = .slice OA out.length oc ∧ f 7 = .int .i64 t ∧ f 8 = .int .i64 i ∧ Heap w [] [ownN 3 (.slice OA out.length oc) out.length ((enC out).map C1.v) 100, blk p4 (docC none 0 0 (fun _ => 0) (fun _ => 0) (fun _ => 0)) 31, blk p2 (docC A n c s.q s.pk s.tk) 31] W) n ⟨0, none, 0, [], 0, by omega, rfl, rfl, rfl, rfl, rfl, rfl, rfl, rfl, rfl, H⟩ ?_
 clear H
 rintro z f W ⟨i, OA, oc, out, t, hi, rfl, hout, ht, f1, f2, f4, f6, f7, f8, H⟩
 obtain ⟨f, rfl⟩ := live6 f1 f2 f4 f6 f7 f8
 clear f1 f2 f4 f6 f7 f8
 have hol : out.length ≤ i := by
  rw [hout]
  have := List.length_filter_le (inL live) (s.L.take i)
  rw [List.length_take] at this; omega
 have htb := sum2_bd ((s.L.take i).filter (outL live)) (fun x hx => hk2 x (List.mem_of_mem_take (List.mem_filter.1 hx).1))
 have htl := List.length_filter_le (outL live) (s.L.take i)
 rw [List.length_take] at htl
 rw [← ht] at htb
 by_cases hlt : i < n
 ·obtain ⟨x, hx⟩ : ∃ x, s.L[i]? = some x := ⟨_, List.getElem?_eq_getElem (by omega)⟩
  obtain ⟨b, o, rfl, _, hrd⟩ := hS (by rw [hel]; omega)
  obtain ⟨g1, g2, g3⟩ := enC_get s.L i x hx
  have c1 := hrd _ _ g1
  have c2 := hrd _ _ g2
  have c3 := hrd _ _ g3
  have hxk := hk2 x (List.mem_of_getElem? hx)
  refine k_seq ?_
  refine k_sg ?_
  refine s_run rfl rfl (rmi rfl) ?_
  refine s_run rfl rfl (r_fa0 rfl fo31_0) ?_
  refine s_run rfl rfl (r_lo H 2 rfl rfl rfl ag28) ?_
  refine s_run rfl rfl (r_len rfl Try.underlying28) ?_
  refine s_run rfl rfl (r_lssT rfl rfl (by omega)) ?_
  refine k_nc ?_
  refine k_t rfl ?_
  refine k_skip ?_
  refine c_norm ?_
  refine k_seq ?_
  refine k_b ?_
  refine k_sg ?_
  refine s_run rfl rfl (rab rfl) ?_
  refine k_nc ?_
  refine k_seq ?_
  refine k_sg ?_
  refine s_run rfl rfl (rai rfl) ?_
  refine k_nc ?_
  refine k_b ?_
  refine k_loop (fun z f W => ∃ (j : Nat) (is : Bool), j ≤ m ∧ z = m - j ∧ is = decide (x.1.2 ∈ live.take j) ∧ f 1 = .slice B m d ∧ f 2 = ptrL p2 ∧ f 4 = ptrL p4 ∧ f 6 = .slice OA out.length oc ∧ f 7 = .int .i64 t ∧ f 8 = .int .i64 i ∧ f 9 = .bool is ∧ f 10 = .int .i64 j ∧ Heap w [] [ownN 3 (.slice OA out.length oc) out.length ((enC out).map C1.v) 100, blk p4 (docC none 0 0 (fun _ => 0) (fun _ => 0) (fun _ => 0)) 31, blk p2 (docC (some ⟨b, o, none⟩) n c s.q s.pk s.tk) 31] W) m ⟨0, false, by omega, rfl, by simp, rfl, rfl, rfl, rfl, rfl, rfl, rfl, rfl, H⟩ ?_
  clear H
  rintro z f W ⟨j, is, hj, rfl, his, f1, f2, f4, f6, f7, f8, f9, f10, H⟩
  obtain ⟨f, rfl⟩ := lv8 f1 f2 f4 f6 f7 f8 f9 f10
  clear f1 f2 f4 f6 f7 f8 f9 f10
  by_cases hjl : j < m
  ·obtain ⟨y, hy⟩ : ∃ y, live[j]? = some y := ⟨_, List.getElem?_eq_getElem (by omega)⟩
   obtain ⟨b2, o2, rfl, _, hrd2⟩ := hSl (by omega)
   have cy := hrd2 _ _ hy
   have hst : decide (x.1.2 ∈ live.take (j + 1)) = (is || decide (x.1.2 = y)) := by
    rw [← tk_snoc hy, his]; simp
   cases is with
   | true =>
    rw [Bool.true_or] at hst
    refine k_seq ?_
    refine k_sg ?_
    refine s_run rfl rfl (rmi rfl) ?_
    refine s_run rfl rfl (rms rfl) ?_
    refine s_run rfl rfl (r_len rfl Try.underlying22) ?_
    refine s_run rfl rfl (r_lssT rfl rfl (by omega)) ?_
    refine k_nc ?_
    refine k_t rfl ?_
    refine k_skip ?_
    refine c_norm ?_
    refine k_seq ?_
    refine k_b ?_
    refine k_q mixed (by kernel_rfl) H ?_
    refine q_run rfl rfl (fun _ H => r_mv (v := .bool _) rfl) ?_
    refine q_run rfl rfl (fun _ H => r_mv (v := .bool _) rfl) ?_
    refine q_off rfl (g_off 25 (by kernel_rfl) rfl rfl) ?_
    refine q_off rfl (g_off 25 (by kernel_rfl) rfl rfl) ?_
    refine q_off rfl (g_off 25 (by kernel_rfl) rfl rfl) ?_
    refine q_off rfl (g_off 25 (by kernel_rfl) rfl rfl) ?_
    refine q_off rfl (g_off 25 (by kernel_rfl) rfl rfl) ?_
    refine q_off rfl (g_off 25 (by kernel_rfl) rfl rfl) ?_
    refine q_off rfl (g_off 25 (by kernel_rfl) rfl rfl) ?_
    refine q_off rfl (g_off 25 (by kernel_rfl) rfl rfl) ?_
    refine q_off rfl (g_off 25 (by kernel_rfl) rfl rfl) ?_
    refine q_off rfl (g_off 25 (by kernel_rfl) rfl rfl) ?_
    refine q_off rfl (g_off 25 (by kernel_rfl) rfl rfl) ?_
    refine q_run rfl rfl (fun _ H => r_pkT (v := .bool _) rfl rfl) ?_
    refine q_run rfl rfl (fun _ H => r_as (v := .bool _) rfl) ?_
    refine q_nil ?_
    intro _ H'; clear H; have H := H'; clear H'
    refine b_norm ?_
    refine c_norm ?_
    refine k_rg ?_
    refine s_run rfl rfl (rmi rfl) ?_
    refine s_run rfl rfl (r_add rfl rfl (wI (by omega))) ?_
    refine s_run rfl rfl (rai rfl) ?_
    refine k_nil ?_
    refine c_round ?_
    refine ⟨_, _, ?_, rfl, j + 1, true, by omega, rfl, hst.symm, rfl, rfl, rfl, rfl, rfl, rfl, rfl, rfl, H⟩
    omega
   | false =>
    by_cases hxy : y = x.1.2
    ·rw [decide_eq_true hxy.symm, Bool.or_true] at hst
     refine k_seq ?_
     refine k_sg ?_
     refine s_run rfl rfl (rmi rfl) ?_
     refine s_run rfl rfl (rms rfl) ?_
     refine s_run rfl rfl (r_len rfl Try.underlying22) ?_
     refine s_run rfl rfl (r_lssT rfl rfl (by omega)) ?_
     refine k_nc ?_
     refine k_t rfl ?_
     refine k_skip ?_
     refine c_norm ?_
     refine k_seq ?_
     refine k_b ?_
     refine k_q mixed (by kernel_rfl) H ?_
     refine q_run rfl rfl (fun _ H => r_mv (v := .bool _) rfl) ?_
     refine q_run rfl rfl (fun _ H => r_mv (v := .bool _) rfl) ?_
     refine q_run rfl (g_on 25 (by kernel_rfl) rfl) (fun _ H => r_mv (v := .slice _ _ _) rfl) ?_
     refine q_run rfl (g_on 25 (by kernel_rfl) rfl) (fun _ H => r_mv (v := .int _ _) rfl) ?_
     refine q_run rfl (g_on 25 (by kernel_rfl) rfl) (fun _ H => r_ix1o (i := j) rfl rfl (by omega) (by omega) Try.underlying22 sz3) ?_
     refine q_run rfl (g_on 25 (by kernel_rfl) rfl) (fun _ H => r_lr H rfl cy (by simp) ag3) ?_
     refine q_run rfl (g_on 25 (by kernel_rfl) rfl) (fun _ H => r_fa0 rfl fo31_0) ?_
     refine q_run rfl (g_on 25 (by kernel_rfl) rfl) (fun _ H => r_lo H 2 rfl rfl rfl ag28) ?_
     refine q_run rfl (g_on 25 (by kernel_rfl) rfl) (fun _ H => r_mv (v := .int _ _) rfl) ?_
     refine q_run rfl (g_on 25 (by kernel_rfl) rfl) (fun _ H => r_ix (i := i) rfl rfl (by omega) (by omega) Try.underlying28 sz100) ?_
     refine q_run rfl (g_on 25 (by kernel_rfl) rfl) (fun _ H => r_fa rfl fo100_1) ?_
     refine q_run rfl (g_on 25 (by kernel_rfl) rfl) (fun _ H => r_lr H rfl c2 (by simp) ag3) ?_
     refine q_run rfl (g_on 25 (by kernel_rfl) rfl) (fun _ H => r_eqlT rfl rfl (by omega)) ?_
     refine q_run rfl rfl (fun _ H => r_pkF (v := .bool _) rfl rfl) ?_
     refine q_run rfl rfl (fun _ H => r_as (v := .bool _) rfl) ?_
     refine q_nil ?_
     intro _ H'; clear H; have H := H'; clear H'
     refine b_norm ?_
     refine c_norm ?_
     refine k_rg ?_
     refine s_run rfl rfl (rmi rfl) ?_
     refine s_run rfl rfl (r_add rfl rfl (wI (by omega))) ?_
     refine s_run rfl rfl (rai rfl) ?_
     refine k_nil ?_
     refine c_round ?_
     refine ⟨_, _, ?_, rfl, j + 1, true, by omega, rfl, hst.symm, rfl, rfl, rfl, rfl, rfl, rfl, rfl, rfl, H⟩
     omega
    ·rw [decide_eq_false (show ¬ x.1.2 = y from fun e => hxy e.symm), Bool.or_false] at hst
     refine k_seq ?_
     refine k_sg ?_
     refine s_run rfl rfl (rmi rfl) ?_
     refine s_run rfl rfl (rms rfl) ?_
     refine s_run rfl rfl (r_len rfl Try.underlying22) ?_
     refine s_run rfl rfl (r_lssT rfl rfl (by omega)) ?_
     refine k_nc ?_
     refine k_t rfl ?_
     refine k_skip ?_
     refine c_norm ?_
     refine k_seq ?_
     refine k_b ?_
     refine k_q mixed (by kernel_rfl) H ?_
     refine q_run rfl rfl (fun _ H => r_mv (v := .bool _) rfl) ?_
     refine q_run rfl rfl (fun _ H => r_mv (v := .bool _) rfl) ?_
     refine q_run rfl (g_on 25 (by kernel_rfl) rfl) (fun _ H => r_mv (v := .slice _ _ _) rfl) ?_
     refine q_run rfl (g_on 25 (by kernel_rfl) rfl) (fun _ H => r_mv (v := .int _ _) rfl) ?_
     refine q_run rfl (g_on 25 (by kernel_rfl) rfl) (fun _ H => r_ix1o (i := j) rfl rfl (by omega) (by omega) Try.underlying22 sz3) ?_
     refine q_run rfl (g_on 25 (by kernel_rfl) rfl) (fun _ H => r_lr H rfl cy (by simp) ag3) ?_
     refine q_run rfl (g_on 25 (by kernel_rfl) rfl) (fun _ H => r_fa0 rfl fo31_0) ?_
     refine q_run rfl (g_on 25 (by kernel_rfl) rfl) (fun _ H => r_lo H 2 rfl rfl rfl ag28) ?_
     refine q_run rfl (g_on 25 (by kernel_rfl) rfl) (fun _ H => r_mv (v := .int _ _) rfl) ?_
     refine q_run rfl (g_on 25 (by kernel_rfl) rfl) (fun _ H => r_ix (i := i) rfl rfl (by omega) (by omega) Try.underlying28 sz100) ?_
     refine q_run rfl (g_on 25 (by kernel_rfl) rfl) (fun _ H => r_fa rfl fo100_1) ?_
     refine q_run rfl (g_on 25 (by kernel_rfl) rfl) (fun _ H => r_lr H rfl c2 (by simp) ag3) ?_
     refine q_run rfl (g_on 25 (by kernel_rfl) rfl) (fun _ H => r_eqlF rfl rfl (by omega)) ?_
     refine q_run rfl rfl (fun _ H => r_pkF (v := .bool _) rfl rfl) ?_
     refine q_run rfl rfl (fun _ H => r_as (v := .bool _) rfl) ?_
     refine q_nil ?_
     intro _ H'; clear H; have H := H'; clear H'
     refine b_norm ?_
     refine c_norm ?_
     refine k_rg ?_
     refine s_run rfl rfl (rmi rfl) ?_
     refine s_run rfl rfl (r_add rfl rfl (wI (by omega))) ?_
     refine s_run rfl rfl (rai rfl) ?_
     refine k_nil ?_
     refine c_round ?_
     refine ⟨_, _, ?_, rfl, j + 1, false, by omega, rfl, hst.symm, rfl, rfl, rfl, rfl, rfl, rfl, rfl, rfl, H⟩
     omega
  ·obtain rfl : j = m := by omega
   rw [show live.take j = live by rw [← hll]; exact List.take_length] at his
   have hf1 : (s.L.take (i + 1)).filter (inL live) = out ++ (if is = true then [x] else []) := by
    rw [← tk_snoc hx, List.filter_append, ← hout, his]
    congr 1
    by_cases hin : x.1.2 ∈ live <;> simp [inL, hin]
   have hf2 : sum2 ((s.L.take (i + 1)).filter (outL live)) = t + (if is = true then 0 else x.2) := by
    have h1 := sum2_split (fun x : (Int × Int) × Int => x.1.2 ∈ live) (s.L.take (i + 1))
    have h2 := sum2_split (fun x : (Int × Int) × Int => x.1.2 ∈ live) (s.L.take i)
    have h3 : ∀ L : LdL, sum2 (L.filter (outL live)) = sum2 (L.filter fun x => decide (¬ x.1.2 ∈ live)) := fun L => rfl
    rw [ht, h3, h3, ← tk_snoc hx, List.filter_append]
    by_cases hin : x.1.2 ∈ live
    ·simp [his, hin]
    ·have : ∀ (a : LdL), sum2 (a ++ [x]) = sum2 a + x.2 := fun a => by
      induction a with
      | nil => simp [sum2]
      | cons y a ih => rw [List.cons_append, sum2, sum2, ih]; omega
     simp [his, hin, this]
   cases is with
   | true =>
    rw [if_pos rfl] at hf1 hf2
    rw [Int.add_zero] at hf2
    have e3 : enC out ++ [C1.i .i64 x.1.1, C1.i .i64 x.1.2, C1.i .i64 x.2] = enC (out ++ [x]) := by rw [enC_app]; rfl
    have hl1 : (out ++ [x]).length = out.length + 1 := by simp
    refine k_seq ?_
    refine k_sg ?_
    refine s_run rfl rfl (rmi rfl) ?_
    refine s_run rfl rfl (rms rfl) ?_
    refine s_run rfl rfl (r_len rfl Try.underlying22) ?_
    refine s_run rfl rfl (r_lssF rfl rfl (by omega)) ?_
    refine k_nc ?_
    refine k_f rfl ?_
    refine k_exit ?_
    refine c_exit ?_
    refine c_exit ?_
    refine b_hit ?_
    refine c_norm ?_
    refine k_sg ?_
    refine s_run rfl rfl (rmb rfl) ?_
    refine k_nc ?_
    refine k_t rfl ?_
    refine k_rg ?_
    refine s_run rfl rfl (rms rfl) ?_
    refine s_run rfl rfl (r_fa0 rfl fo31_0) ?_
    refine s_run rfl rfl (r_lo H 2 rfl rfl rfl ag28) ?_
    refine s_run rfl rfl (rmi rfl) ?_
    refine s_run rfl rfl (r_ix (i := i) rfl rfl (by omega) (by omega) Try.underlying28 sz100) ?_
    refine s_run rfl rfl (r_lA (enc := C1.v) (zs := [C1.i .i64 x.1.1, C1.i .i64 x.1.2, C1.i .i64 x.2]) (rd3 hrd g1 g2 g3 H.only) rfl rfl ag100 sz100) ?_
    refine s_appN (enc := C1.v) (zs := [C1.i .i64 x.1.1, C1.i .i64 x.1.2, C1.i .i64 x.2]) H 0 rfl rfl rfl rfl C1.one (by omega) (by kernel_rfl) rfl rfl rfl (by omega) Try.underlying28 inf100 rfl ?_
    intro _ O2 oc2 _ H'; simp only [List.set_cons_zero, List.set_cons_succ, List.take_succ_cons, List.take_zero, List.drop_succ_cons, List.drop_zero, List.cons_append, List.nil_append, List.append_nil, List.length_cons, List.length_nil, Nat.reduceAdd] at H'; clear H; have H := H'; clear H'
    refine s_run rfl rfl (ras rfl) ?_
    refine k_nil ?_
    refine b_norm ?_
    refine c_norm ?_
    refine k_rg ?_
    refine s_run rfl rfl (rmi rfl) ?_
    refine s_run rfl rfl (r_add rfl rfl (wI (by omega))) ?_
    refine s_run rfl rfl (rai rfl) ?_
    refine k_nil ?_
    refine c_round ?_
    rw [e3] at H
    refine ⟨_, _, ?_, rfl, i + 1, some ⟨O2, 0, none⟩, oc2, out ++ [x], t, by omega, rfl, hf1.symm, hf2.symm, rfl, rfl, rfl, by rw [hl1]; rfl, rfl, rfl, by rw [hl1]; exact H⟩
    omega
   | false =>
    rw [if_neg (by simp)] at hf1 hf2
    rw [List.append_nil] at hf1
    refine k_seq ?_
    refine k_sg ?_
    refine s_run rfl rfl (rmi rfl) ?_
    refine s_run rfl rfl (rms rfl) ?_
    refine s_run rfl rfl (r_len rfl Try.underlying22) ?_
    refine s_run rfl rfl (r_lssF rfl rfl (by omega)) ?_
    refine k_nc ?_
    refine k_f rfl ?_
    refine k_exit ?_
    refine c_exit ?_
    refine c_exit ?_
    refine b_hit ?_
    refine c_norm ?_
    refine k_sg ?_
    refine s_run rfl rfl (rmb rfl) ?_
    refine k_nc ?_
    refine k_f rfl ?_
    refine k_rg ?_
    refine s_run rfl rfl (rmi rfl) ?_
    refine s_run rfl rfl (r_fa0 rfl fo31_0) ?_
    refine s_run rfl rfl (r_lo H 2 rfl rfl rfl ag28) ?_
    refine s_run rfl rfl (rmi rfl) ?_
    refine s_run rfl rfl (r_ix (i := i) rfl rfl (by omega) (by omega) Try.underlying28 sz100) ?_
    refine s_run rfl rfl (r_fa rfl fo100_2) ?_
    refine s_run rfl rfl (r_lr H rfl c3 (by simp) ag3) ?_
    refine s_run rfl rfl (r_add rfl rfl (wI (by omega))) ?_
    refine s_run rfl rfl (rai rfl) ?_
    refine k_nil ?_
    refine b_norm ?_
    refine c_norm ?_
    refine k_rg ?_
    refine s_run rfl rfl (rmi rfl) ?_
    refine s_run rfl rfl (r_add rfl rfl (wI (by omega))) ?_
    refine s_run rfl rfl (rai rfl) ?_
    refine k_nil ?_
    refine c_round ?_
    refine ⟨_, _, ?_, rfl, i + 1, OA, oc, out, _, by omega, rfl, hf1.symm, hf2.symm, rfl, rfl, rfl, rfl, rfl, rfl, H⟩
    omega
 ·obtain rfl : i = n := by omega
  rw [show s.L.take i = s.L by rw [← hl]; exact List.take_length] at hout ht
  have e1 : out = (s.sweep live).1.L := hout
  have e2 : t = (s.sweep live).2 := ht
  subst e1; subst e2
  refine k_seq ?_
  refine k_sg ?_
  refine s_run rfl rfl (rmi rfl) ?_
  refine s_run rfl rfl (r_fa0 rfl fo31_0) ?_
  refine s_run rfl rfl (r_lo H 2 rfl rfl rfl ag28) ?_
  refine s_run rfl rfl (r_len rfl Try.underlying28) ?_
  refine s_run rfl rfl (r_lssF rfl rfl (by omega)) ?_
  refine k_nc ?_
  refine k_f rfl ?_
  refine k_exit ?_
  refine c_exit ?_
  refine c_exit ?_
  refine b_hit ?_
  refine c_norm ?_
  refine k_sg ?_
  refine s_run rfl rfl (rms rfl) ?_
  refine s_run rfl rfl (r_fa0 rfl fo31_0) ?_
  refine s_st (u := .slice _ _ _) H 2 rfl rfl rfl rfl rfl rfl sz28 ?_
  clear H; intro _ H; simp only [jA, jB, jC, jD, jE, jF, jG, jH, jI, jJ, jK, Nat.reduceAdd] at H
  refine k_nc ?_
  refine k_sg ?_
  refine s_run rfl rfl (r_la H 2 rfl rfl rfl ag31 sz31) ?_
  refine s_run rfl rfl (rmi rfl) ?_
  refine s_sw H 1 rfl rfl rfl rfl rfl rfl rfl sz31 ?_
  clear H; intro _ H; simp only [jA, jB, jC, jD, jE, jF, jG, jH, jI, jJ, jK, Nat.reduceAdd] at H
  refine s_run rfl rfl (rai rfl) ?_
  refine k_nc ?_
  refine k_ret ?_
  refine fx2r rfl (rv_a H 1 rfl rfl rfl ag31 sz31) (rv_t (v := .int _ _) rfl) ?_
  exact ⟨OA, _, oc, rfl, row_doc H 0 rfl hF, H.only⟩
end Go.Proofs.Ytpbimgopiammaaa
end

section
namespace Go.Proofs.Ytpbimgopiammaaa
open Go.RowKit
set_option maxRecDepth 100000
set_option maxHeartbeats 4000000
end Go.Proofs.Ytpbimgopiammaaa
end

section
namespace Go.Proofs.Ytpbimgopiammaaa
open Go.RowKit
set_option maxRecDepth 100000
set_option maxHeartbeats 2000000
end Go.Proofs.Ytpbimgopiammaaa
end
