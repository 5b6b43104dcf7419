/- Parts of the proof, one behind the other. -/
import Derived.Test.YtpbimgopiammaaaKOrderMendsb
set_option linter.unusedSimpArgs false
set_option linter.unusedVariables false
set_option linter.unusedSectionVars false
section
namespace Go.Proofs.Ytpbimgopiammaaa
open Go.RowKit
set_option maxRecDepth 100000
set_option maxHeartbeats 2000000
def rst (x s : Int) (e : Int × Int) : Int := if e.2 < 0 then s else if e.1 = 1 then (if e.2 = x then 1 else s) else if e.1 = 2 then (if e.2 = x ∧ s = 1 then 2 else s) else if e.1 = 3 then (if s = 2 then 0 else s) else s
def rState (l : List (Int × Int)) (x : Int) : Int := l.foldl (rst x) 0
theorem rState_at (A : Option Addr) (n c : Nat) (l : List (Int × Int)) (x : Int) (w : World) (hS : l.length ≠ 0 → ∃ b o, A = some ⟨b, o, none⟩ ∧ evP b o w l) (hl : l.length = n) (hn : n ≤ 100000) :
  Calls Try.prog 44 [.slice A n c, .int .i64 x].toArray w fun e w' => e = .returned (.int .i64 (rState l x)) ∧ Only [] w w' := by
 have H := Heap.nil w
 refine k_in (N := 51) Try.func44 rfl rfl rfl ?_
 refine k_sg ?_
 refine s_run rfl rfl (rai rfl) ?_
 refine k_nc ?_
 refine k_sg ?_
 refine s_run rfl rfl (rai rfl) ?_
 refine k_nc ?_
 refine k_seq ?_
 refine k_sg ?_
 refine s_run rfl rfl (rai rfl) ?_
 refine k_nc ?_
 refine k_b ?_
 refine k_loop (fun z f W => ∃ (i : Nat) (s : Int), i ≤ n ∧ z = n - i ∧ s = rState (l.take i) x ∧ f 0 = .slice A n c ∧ f 1 = .int .i64 x ∧ f 5 = .int .i64 s ∧ f 6 = .int .i64 i ∧ Heap w [] [] W) n ⟨0, 0, by omega, rfl, rfl, rfl, rfl, rfl, rfl, H⟩ ?_
 clear H
 rintro z f W ⟨i, s, hi, rfl, hs, f0, f1, f5, f6, H⟩
 by_cases hlt : i < n
 ·obtain ⟨e, he⟩ : ∃ e, l[i]? = some e := ⟨_, List.getElem?_eq_getElem (by omega)⟩
  obtain ⟨b, o, hA, hrd⟩ := hS (by omega)
  have hc0 := hrd i e he 0 _ rfl
  have hc1 := hrd i e he 1 _ rfl
  have hst : rState (l.take (i + 1)) x = rst x (rState (l.take i) x) e := snoc_foldl (rst x) 0 _ _ _ he
  rw [← hs] at hst
  rw [hA] at f0
  obtain ⟨f, rfl⟩ := live4 f0 f1 f5 f6
  clear f0 f1 f5 f6
  obtain ⟨k, m⟩ := e
  simp only at hc0 hc1
  unfold rst at hst
  simp only at hst
  by_cases h0 : m < 0
  ·
   rw [if_pos h0] at hst
   refine k_seq ?_
   refine k_sg ?_
   refine s_run rfl rfl (rmi rfl) ?_
   refine s_run rfl rfl (rms rfl) ?_
   refine s_run rfl rfl (r_len rfl Try.underlying53) ?_
   refine s_run rfl rfl (r_lssT rfl rfl (by omega)) ?_
   refine k_nc ?_
   refine k_t rfl ?_
   refine k_skip ?_
   refine c_norm ?_
   refine k_seq ?_
   refine k_b ?_
   refine k_seq ?_
   refine k_sg ?_
   refine s_run rfl rfl (rms rfl) ?_
   refine s_run rfl rfl (rmi rfl) ?_
   refine s_run rfl rfl (r_ix (i := i) rfl rfl (by omega) (by omega) Try.underlying53 sz67) ?_
   refine s_run rfl rfl (r_fa rfl fo67_1) ?_
   refine s_run rfl rfl (r_lr H rfl hc1 (by simp) ag3) ?_
   refine s_run rfl rfl (r_lssT rfl rfl (by omega)) ?_
   refine k_nc ?_
   refine k_t rfl ?_
   refine k_exit ?_
   refine c_exit ?_
   refine b_hit ?_
   refine c_norm ?_
   refine k_rg ?_
   refine s_run rfl rfl (rmi rfl) ?_
   refine s_run rfl rfl (r_add rfl rfl (wI (by omega))) ?_
   refine s_run rfl rfl (rai rfl) ?_
   refine k_nil ?_
   refine c_round ?_
   refine ⟨_, _, ?_, rfl, i + 1, s, by omega, rfl, hst.symm, by rw [hA]; rfl, rfl, rfl, rfl, H⟩
   omega
  rw [if_neg h0] at hst
  by_cases k1 : k = 1
  ·rw [if_pos k1] at hst
   by_cases hx : m = x
   ·
    rw [if_pos hx] at hst
    refine k_seq ?_
    refine k_sg ?_
    refine s_run rfl rfl (rmi rfl) ?_
    refine s_run rfl rfl (rms rfl) ?_
    refine s_run rfl rfl (r_len rfl Try.underlying53) ?_
    refine s_run rfl rfl (r_lssT rfl rfl (by omega)) ?_
    refine k_nc ?_
    refine k_t rfl ?_
    refine k_skip ?_
    refine c_norm ?_
    refine k_seq ?_
    refine k_b ?_
    refine k_seq ?_
    refine k_sg ?_
    refine s_run rfl rfl (rms rfl) ?_
    refine s_run rfl rfl (rmi rfl) ?_
    refine s_run rfl rfl (r_ix (i := i) rfl rfl (by omega) (by omega) Try.underlying53 sz67) ?_
    refine s_run rfl rfl (r_fa rfl fo67_1) ?_
    refine s_run rfl rfl (r_lr H rfl hc1 (by simp) ag3) ?_
    refine s_run rfl rfl (r_lssF rfl rfl (by omega)) ?_
    refine k_nc ?_
    refine k_f rfl ?_
    refine k_skip ?_
    refine c_norm ?_
    refine k_sg ?_
    refine s_run rfl rfl (rms rfl) ?_
    refine s_run rfl rfl (rmi rfl) ?_
    refine s_run rfl rfl (r_ix (i := i) rfl rfl (by omega) (by omega) Try.underlying53 sz67) ?_
    refine s_run rfl rfl (r_fa rfl fo67_0) ?_
    refine s_run rfl rfl (r_lr H rfl hc0 (by simp) ag3) ?_
    refine k_nc ?_
    refine k_b ?_
    refine k_sg ?_
    refine s_run rfl rfl (r_eqlT rfl rfl (by omega)) ?_
    refine s_run rfl rfl (rab rfl) ?_
    refine k_nc ?_
    refine k_t rfl ?_
    refine k_sg ?_
    refine s_run rfl rfl (rms rfl) ?_
    refine s_run rfl rfl (rmi rfl) ?_
    refine s_run rfl rfl (r_ix (i := i) rfl rfl (by omega) (by omega) Try.underlying53 sz67) ?_
    refine s_run rfl rfl (r_fa rfl fo67_1) ?_
    refine s_run rfl rfl (r_lr H rfl hc1 (by simp) ag3) ?_
    refine s_run rfl rfl (rmi rfl) ?_
    refine s_run rfl rfl (r_eqlT rfl rfl (by omega)) ?_
    refine k_nc ?_
    refine k_t rfl ?_
    refine k_rg ?_
    refine s_run rfl rfl (rai rfl) ?_
    refine k_nil ?_
    refine b_norm ?_
    refine b_norm ?_
    refine c_norm ?_
    refine k_rg ?_
    refine s_run rfl rfl (rmi rfl) ?_
    refine s_run rfl rfl (r_add rfl rfl (wI (by omega))) ?_
    refine s_run rfl rfl (rai rfl) ?_
    refine k_nil ?_
    refine c_round ?_
    refine ⟨_, _, ?_, rfl, i + 1, 1, by omega, rfl, hst.symm, by rw [hA]; rfl, rfl, rfl, rfl, H⟩
    omega
   ·
    rw [if_neg hx] at hst
    refine k_seq ?_
    refine k_sg ?_
    refine s_run rfl rfl (rmi rfl) ?_
    refine s_run rfl rfl (rms rfl) ?_
    refine s_run rfl rfl (r_len rfl Try.underlying53) ?_
    refine s_run rfl rfl (r_lssT rfl rfl (by omega)) ?_
    refine k_nc ?_
    refine k_t rfl ?_
    refine k_skip ?_
    refine c_norm ?_
    refine k_seq ?_
    refine k_b ?_
    refine k_seq ?_
    refine k_sg ?_
    refine s_run rfl rfl (rms rfl) ?_
    refine s_run rfl rfl (rmi rfl) ?_
    refine s_run rfl rfl (r_ix (i := i) rfl rfl (by omega) (by omega) Try.underlying53 sz67) ?_
    refine s_run rfl rfl (r_fa rfl fo67_1) ?_
    refine s_run rfl rfl (r_lr H rfl hc1 (by simp) ag3) ?_
    refine s_run rfl rfl (r_lssF rfl rfl (by omega)) ?_
    refine k_nc ?_
    refine k_f rfl ?_
    refine k_skip ?_
    refine c_norm ?_
    refine k_sg ?_
    refine s_run rfl rfl (rms rfl) ?_
    refine s_run rfl rfl (rmi rfl) ?_
    refine s_run rfl rfl (r_ix (i := i) rfl rfl (by omega) (by omega) Try.underlying53 sz67) ?_
    refine s_run rfl rfl (r_fa rfl fo67_0) ?_
    refine s_run rfl rfl (r_lr H rfl hc0 (by simp) ag3) ?_
    refine k_nc ?_
    refine k_b ?_
    refine k_sg ?_
    refine s_run rfl rfl (r_eqlT rfl rfl (by omega)) ?_
    refine s_run rfl rfl (rab rfl) ?_
    refine k_nc ?_
    refine k_t rfl ?_
    refine k_sg ?_
    refine s_run rfl rfl (rms rfl) ?_
    refine s_run rfl rfl (rmi rfl) ?_
    refine s_run rfl rfl (r_ix (i := i) rfl rfl (by omega) (by omega) Try.underlying53 sz67) ?_
    refine s_run rfl rfl (r_fa rfl fo67_1) ?_
    refine s_run rfl rfl (r_lr H rfl hc1 (by simp) ag3) ?_
    refine s_run rfl rfl (rmi rfl) ?_
    refine s_run rfl rfl (r_eqlF rfl rfl (by omega)) ?_
    refine k_nc ?_
    refine k_f rfl ?_
    refine k_skip ?_
    refine b_norm ?_
    refine b_norm ?_
    refine c_norm ?_
    refine k_rg ?_
    refine s_run rfl rfl (rmi rfl) ?_
    refine s_run rfl rfl (r_add rfl rfl (wI (by omega))) ?_
    refine s_run rfl rfl (rai rfl) ?_
    refine k_nil ?_
    refine c_round ?_
    refine ⟨_, _, ?_, rfl, i + 1, s, by omega, rfl, hst.symm, by rw [hA]; rfl, rfl, rfl, rfl, H⟩
    omega
  rw [if_neg k1] at hst
  by_cases k2 : k = 2
  ·rw [if_pos k2] at hst
   by_cases hx : m = x
   ·by_cases s1 : s = 1
    ·
     rw [if_pos ⟨hx, s1⟩] at hst
     refine k_seq ?_
     refine k_sg ?_
     refine s_run rfl rfl (rmi rfl) ?_
     refine s_run rfl rfl (rms rfl) ?_
     refine s_run rfl rfl (r_len rfl Try.underlying53) ?_
     refine s_run rfl rfl (r_lssT rfl rfl (by omega)) ?_
     refine k_nc ?_
     refine k_t rfl ?_
     refine k_skip ?_
     refine c_norm ?_
     refine k_seq ?_
     refine k_b ?_
     refine k_seq ?_
     refine k_sg ?_
     refine s_run rfl rfl (rms rfl) ?_
     refine s_run rfl rfl (rmi rfl) ?_
     refine s_run rfl rfl (r_ix (i := i) rfl rfl (by omega) (by omega) Try.underlying53 sz67) ?_
     refine s_run rfl rfl (r_fa rfl fo67_1) ?_
     refine s_run rfl rfl (r_lr H rfl hc1 (by simp) ag3) ?_
     refine s_run rfl rfl (r_lssF rfl rfl (by omega)) ?_
     refine k_nc ?_
     refine k_f rfl ?_
     refine k_skip ?_
     refine c_norm ?_
     refine k_sg ?_
     refine s_run rfl rfl (rms rfl) ?_
     refine s_run rfl rfl (rmi rfl) ?_
     refine s_run rfl rfl (r_ix (i := i) rfl rfl (by omega) (by omega) Try.underlying53 sz67) ?_
     refine s_run rfl rfl (r_fa rfl fo67_0) ?_
     refine s_run rfl rfl (r_lr H rfl hc0 (by simp) ag3) ?_
     refine k_nc ?_
     refine k_b ?_
     refine k_sg ?_
     refine s_run rfl rfl (r_eqlF rfl rfl (by omega)) ?_
     refine s_run rfl rfl (rab rfl) ?_
     refine k_nc ?_
     refine k_f rfl ?_
     refine k_sg ?_
     refine s_run rfl rfl (r_eqlT rfl rfl (by omega)) ?_
     refine s_run rfl rfl (rab rfl) ?_
     refine k_nc ?_
     refine k_t rfl ?_
     refine k_sg ?_
     refine s_run rfl rfl (rms rfl) ?_
     refine s_run rfl rfl (rmi rfl) ?_
     refine s_run rfl rfl (r_ix (i := i) rfl rfl (by omega) (by omega) Try.underlying53 sz67) ?_
     refine s_run rfl rfl (r_fa rfl fo67_1) ?_
     refine s_run rfl rfl (r_lr H rfl hc1 (by simp) ag3) ?_
     refine s_run rfl rfl (rmi rfl) ?_
     refine s_run rfl rfl (r_eqlT rfl rfl (by omega)) ?_
     refine s_run rfl rfl (rmb rfl) ?_
     refine s_run rfl (g_on 42 (by kernel_rfl) rfl) (rmi rfl) ?_
     refine s_run rfl (g_on 42 (by kernel_rfl) rfl) (r_eqlT rfl rfl (by omega)) ?_
     refine s_run rfl rfl (r_pkT (v := .bool _) rfl rfl) ?_
     refine k_nc ?_
     refine k_t rfl ?_
     refine k_rg ?_
     refine s_run rfl rfl (rai rfl) ?_
     refine k_nil ?_
     refine b_norm ?_
     refine b_norm ?_
     refine c_norm ?_
     refine k_rg ?_
     refine s_run rfl rfl (rmi rfl) ?_
     refine s_run rfl rfl (r_add rfl rfl (wI (by omega))) ?_
     refine s_run rfl rfl (rai rfl) ?_
     refine k_nil ?_
     refine c_round ?_
     refine ⟨_, _, ?_, rfl, i + 1, 2, by omega, rfl, hst.symm, by rw [hA]; rfl, rfl, rfl, rfl, H⟩
     omega
    ·
     rw [if_neg (fun h => s1 h.2)] at hst
     refine k_seq ?_
     refine k_sg ?_
     refine s_run rfl rfl (rmi rfl) ?_
     refine s_run rfl rfl (rms rfl) ?_
     refine s_run rfl rfl (r_len rfl Try.underlying53) ?_
     refine s_run rfl rfl (r_lssT rfl rfl (by omega)) ?_
     refine k_nc ?_
     refine k_t rfl ?_
     refine k_skip ?_
     refine c_norm ?_
     refine k_seq ?_
     refine k_b ?_
     refine k_seq ?_
     refine k_sg ?_
     refine s_run rfl rfl (rms rfl) ?_
     refine s_run rfl rfl (rmi rfl) ?_
     refine s_run rfl rfl (r_ix (i := i) rfl rfl (by omega) (by omega) Try.underlying53 sz67) ?_
     refine s_run rfl rfl (r_fa rfl fo67_1) ?_
     refine s_run rfl rfl (r_lr H rfl hc1 (by simp) ag3) ?_
     refine s_run rfl rfl (r_lssF rfl rfl (by omega)) ?_
     refine k_nc ?_
     refine k_f rfl ?_
     refine k_skip ?_
     refine c_norm ?_
     refine k_sg ?_
     refine s_run rfl rfl (rms rfl) ?_
     refine s_run rfl rfl (rmi rfl) ?_
     refine s_run rfl rfl (r_ix (i := i) rfl rfl (by omega) (by omega) Try.underlying53 sz67) ?_
     refine s_run rfl rfl (r_fa rfl fo67_0) ?_
     refine s_run rfl rfl (r_lr H rfl hc0 (by simp) ag3) ?_
     refine k_nc ?_
     refine k_b ?_
     refine k_sg ?_
     refine s_run rfl rfl (r_eqlF rfl rfl (by omega)) ?_
     refine s_run rfl rfl (rab rfl) ?_
     refine k_nc ?_
     refine k_f rfl ?_
     refine k_sg ?_
     refine s_run rfl rfl (r_eqlT rfl rfl (by omega)) ?_
     refine s_run rfl rfl (rab rfl) ?_
     refine k_nc ?_
     refine k_t rfl ?_
     refine k_sg ?_
     refine s_run rfl rfl (rms rfl) ?_
     refine s_run rfl rfl (rmi rfl) ?_
     refine s_run rfl rfl (r_ix (i := i) rfl rfl (by omega) (by omega) Try.underlying53 sz67) ?_
     refine s_run rfl rfl (r_fa rfl fo67_1) ?_
     refine s_run rfl rfl (r_lr H rfl hc1 (by simp) ag3) ?_
     refine s_run rfl rfl (rmi rfl) ?_
     refine s_run rfl rfl (r_eqlT rfl rfl (by omega)) ?_
     refine s_run rfl rfl (rmb rfl) ?_
     refine s_run rfl (g_on 42 (by kernel_rfl) rfl) (rmi rfl) ?_
     refine s_run rfl (g_on 42 (by kernel_rfl) rfl) (r_eqlF rfl rfl (by omega)) ?_
     refine s_run rfl rfl (r_pkT (v := .bool _) rfl rfl) ?_
     refine k_nc ?_
     refine k_f rfl ?_
     refine k_skip ?_
     refine b_norm ?_
     refine b_norm ?_
     refine c_norm ?_
     refine k_rg ?_
     refine s_run rfl rfl (rmi rfl) ?_
     refine s_run rfl rfl (r_add rfl rfl (wI (by omega))) ?_
     refine s_run rfl rfl (rai rfl) ?_
     refine k_nil ?_
     refine c_round ?_
     refine ⟨_, _, ?_, rfl, i + 1, s, by omega, rfl, hst.symm, by rw [hA]; rfl, rfl, rfl, rfl, H⟩
     omega
   ·
    rw [if_neg (fun h => hx h.1)] at hst
    refine k_seq ?_
    refine k_sg ?_
    refine s_run rfl rfl (rmi rfl) ?_
    refine s_run rfl rfl (rms rfl) ?_
    refine s_run rfl rfl (r_len rfl Try.underlying53) ?_
    refine s_run rfl rfl (r_lssT rfl rfl (by omega)) ?_
    refine k_nc ?_
    refine k_t rfl ?_
    refine k_skip ?_
    refine c_norm ?_
    refine k_seq ?_
    refine k_b ?_
    refine k_seq ?_
    refine k_sg ?_
    refine s_run rfl rfl (rms rfl) ?_
    refine s_run rfl rfl (rmi rfl) ?_
    refine s_run rfl rfl (r_ix (i := i) rfl rfl (by omega) (by omega) Try.underlying53 sz67) ?_
    refine s_run rfl rfl (r_fa rfl fo67_1) ?_
    refine s_run rfl rfl (r_lr H rfl hc1 (by simp) ag3) ?_
    refine s_run rfl rfl (r_lssF rfl rfl (by omega)) ?_
    refine k_nc ?_
    refine k_f rfl ?_
    refine k_skip ?_
    refine c_norm ?_
    refine k_sg ?_
    refine s_run rfl rfl (rms rfl) ?_
    refine s_run rfl rfl (rmi rfl) ?_
    refine s_run rfl rfl (r_ix (i := i) rfl rfl (by omega) (by omega) Try.underlying53 sz67) ?_
    refine s_run rfl rfl (r_fa rfl fo67_0) ?_
    refine s_run rfl rfl (r_lr H rfl hc0 (by simp) ag3) ?_
    refine k_nc ?_
    refine k_b ?_
    refine k_sg ?_
    refine s_run rfl rfl (r_eqlF rfl rfl (by omega)) ?_
    refine s_run rfl rfl (rab rfl) ?_
    refine k_nc ?_
    refine k_f rfl ?_
    refine k_sg ?_
    refine s_run rfl rfl (r_eqlT rfl rfl (by omega)) ?_
    refine s_run rfl rfl (rab rfl) ?_
    refine k_nc ?_
    refine k_t rfl ?_
    refine k_sg ?_
    refine s_run rfl rfl (rms rfl) ?_
    refine s_run rfl rfl (rmi rfl) ?_
    refine s_run rfl rfl (r_ix (i := i) rfl rfl (by omega) (by omega) Try.underlying53 sz67) ?_
    refine s_run rfl rfl (r_fa rfl fo67_1) ?_
    refine s_run rfl rfl (r_lr H rfl hc1 (by simp) ag3) ?_
    refine s_run rfl rfl (rmi rfl) ?_
    refine s_run rfl rfl (r_eqlF rfl rfl (by omega)) ?_
    refine s_run rfl rfl (rmb rfl) ?_
    refine s_off rfl (g_off 42 (by kernel_rfl) rfl rfl) ?_
    refine s_off rfl (g_off 42 (by kernel_rfl) rfl rfl) ?_
    refine s_run rfl rfl (r_pkF (v := .bool _) rfl rfl) ?_
    refine k_nc ?_
    refine k_f rfl ?_
    refine k_skip ?_
    refine b_norm ?_
    refine b_norm ?_
    refine c_norm ?_
    refine k_rg ?_
    refine s_run rfl rfl (rmi rfl) ?_
    refine s_run rfl rfl (r_add rfl rfl (wI (by omega))) ?_
    refine s_run rfl rfl (rai rfl) ?_
    refine k_nil ?_
    refine c_round ?_
    refine ⟨_, _, ?_, rfl, i + 1, s, by omega, rfl, hst.symm, by rw [hA]; rfl, rfl, rfl, rfl, H⟩
    omega
  rw [if_neg k2] at hst
  by_cases k3 : k = 3
  ·rw [if_pos k3] at hst
   by_cases s2 : s = 2
   ·
    rw [if_pos s2] at hst
    refine k_seq ?_
    refine k_sg ?_
    refine s_run rfl rfl (rmi rfl) ?_
    refine s_run rfl rfl (rms rfl) ?_
    refine s_run rfl rfl (r_len rfl Try.underlying53) ?_
    refine s_run rfl rfl (r_lssT rfl rfl (by omega)) ?_
    refine k_nc ?_
    refine k_t rfl ?_
    refine k_skip ?_
    refine c_norm ?_
    refine k_seq ?_
    refine k_b ?_
    refine k_seq ?_
    refine k_sg ?_
    refine s_run rfl rfl (rms rfl) ?_
    refine s_run rfl rfl (rmi rfl) ?_
    refine s_run rfl rfl (r_ix (i := i) rfl rfl (by omega) (by omega) Try.underlying53 sz67) ?_
    refine s_run rfl rfl (r_fa rfl fo67_1) ?_
    refine s_run rfl rfl (r_lr H rfl hc1 (by simp) ag3) ?_
    refine s_run rfl rfl (r_lssF rfl rfl (by omega)) ?_
    refine k_nc ?_
    refine k_f rfl ?_
    refine k_skip ?_
    refine c_norm ?_
    refine k_sg ?_
    refine s_run rfl rfl (rms rfl) ?_
    refine s_run rfl rfl (rmi rfl) ?_
    refine s_run rfl rfl (r_ix (i := i) rfl rfl (by omega) (by omega) Try.underlying53 sz67) ?_
    refine s_run rfl rfl (r_fa rfl fo67_0) ?_
    refine s_run rfl rfl (r_lr H rfl hc0 (by simp) ag3) ?_
    refine k_nc ?_
    refine k_b ?_
    refine k_sg ?_
    refine s_run rfl rfl (r_eqlF rfl rfl (by omega)) ?_
    refine s_run rfl rfl (rab rfl) ?_
    refine k_nc ?_
    refine k_f rfl ?_
    refine k_sg ?_
    refine s_run rfl rfl (r_eqlF rfl rfl (by omega)) ?_
    refine s_run rfl rfl (rab rfl) ?_
    refine k_nc ?_
    refine k_f rfl ?_
    refine k_sg ?_
    refine s_run rfl rfl (r_eqlT rfl rfl (by omega)) ?_
    refine s_run rfl rfl (rab rfl) ?_
    refine k_nc ?_
    refine k_t rfl ?_
    refine k_sg ?_
    refine s_run rfl rfl (rmi rfl) ?_
    refine s_run rfl rfl (r_eqlT rfl rfl (by omega)) ?_
    refine k_nc ?_
    refine k_t rfl ?_
    refine k_rg ?_
    refine s_run rfl rfl (rai rfl) ?_
    refine k_nil ?_
    refine b_norm ?_
    refine b_norm ?_
    refine c_norm ?_
    refine k_rg ?_
    refine s_run rfl rfl (rmi rfl) ?_
    refine s_run rfl rfl (r_add rfl rfl (wI (by omega))) ?_
    refine s_run rfl rfl (rai rfl) ?_
    refine k_nil ?_
    refine c_round ?_
    refine ⟨_, _, ?_, rfl, i + 1, 0, by omega, rfl, hst.symm, by rw [hA]; rfl, rfl, rfl, rfl, H⟩
    omega
   ·
    rw [if_neg s2] at hst
    refine k_seq ?_
    refine k_sg ?_
    refine s_run rfl rfl (rmi rfl) ?_
    refine s_run rfl rfl (rms rfl) ?_
    refine s_run rfl rfl (r_len rfl Try.underlying53) ?_
    refine s_run rfl rfl (r_lssT rfl rfl (by omega)) ?_
    refine k_nc ?_
    refine k_t rfl ?_
    refine k_skip ?_
    refine c_norm ?_
    refine k_seq ?_
    refine k_b ?_
    refine k_seq ?_
    refine k_sg ?_
    refine s_run rfl rfl (rms rfl) ?_
    refine s_run rfl rfl (rmi rfl) ?_
    refine s_run rfl rfl (r_ix (i := i) rfl rfl (by omega) (by omega) Try.underlying53 sz67) ?_
    refine s_run rfl rfl (r_fa rfl fo67_1) ?_
    refine s_run rfl rfl (r_lr H rfl hc1 (by simp) ag3) ?_
    refine s_run rfl rfl (r_lssF rfl rfl (by omega)) ?_
    refine k_nc ?_
    refine k_f rfl ?_
    refine k_skip ?_
    refine c_norm ?_
    refine k_sg ?_
    refine s_run rfl rfl (rms rfl) ?_
    refine s_run rfl rfl (rmi rfl) ?_
    refine s_run rfl rfl (r_ix (i := i) rfl rfl (by omega) (by omega) Try.underlying53 sz67) ?_
    refine s_run rfl rfl (r_fa rfl fo67_0) ?_
    refine s_run rfl rfl (r_lr H rfl hc0 (by simp) ag3) ?_
    refine k_nc ?_
    refine k_b ?_
    refine k_sg ?_
    refine s_run rfl rfl (r_eqlF rfl rfl (by omega)) ?_
    refine s_run rfl rfl (rab rfl) ?_
    refine k_nc ?_
    refine k_f rfl ?_
    refine k_sg ?_
    refine s_run rfl rfl (r_eqlF rfl rfl (by omega)) ?_
    refine s_run rfl rfl (rab rfl) ?_
    refine k_nc ?_
    refine k_f rfl ?_
    refine k_sg ?_
    refine s_run rfl rfl (r_eqlT rfl rfl (by omega)) ?_
    refine s_run rfl rfl (rab rfl) ?_
    refine k_nc ?_
    refine k_t rfl ?_
    refine k_sg ?_
    refine s_run rfl rfl (rmi rfl) ?_
    refine s_run rfl rfl (r_eqlF rfl rfl (by omega)) ?_
    refine k_nc ?_
    refine k_f rfl ?_
    refine k_skip ?_
    refine b_norm ?_
    refine b_norm ?_
    refine c_norm ?_
    refine k_rg ?_
    refine s_run rfl rfl (rmi rfl) ?_
    refine s_run rfl rfl (r_add rfl rfl (wI (by omega))) ?_
    refine s_run rfl rfl (rai rfl) ?_
    refine k_nil ?_
    refine c_round ?_
    refine ⟨_, _, ?_, rfl, i + 1, s, by omega, rfl, hst.symm, by rw [hA]; rfl, rfl, rfl, rfl, H⟩
    omega
  ·
   rw [if_neg k3] at hst
   refine k_seq ?_
   refine k_sg ?_
   refine s_run rfl rfl (rmi rfl) ?_
   refine s_run rfl rfl (rms rfl) ?_
   refine s_run rfl rfl (r_len rfl Try.underlying53) ?_
   refine s_run rfl rfl (r_lssT rfl rfl (by omega)) ?_
   refine k_nc ?_
   refine k_t rfl ?_
   refine k_skip ?_
   refine c_norm ?_
   refine k_seq ?_
   refine k_b ?_
   refine k_seq ?_
   refine k_sg ?_
   refine s_run rfl rfl (rms rfl) ?_
   refine s_run rfl rfl (rmi rfl) ?_
   refine s_run rfl rfl (r_ix (i := i) rfl rfl (by omega) (by omega) Try.underlying53 sz67) ?_
   refine s_run rfl rfl (r_fa rfl fo67_1) ?_
   refine s_run rfl rfl (r_lr H rfl hc1 (by simp) ag3) ?_
   refine s_run rfl rfl (r_lssF rfl rfl (by omega)) ?_
   refine k_nc ?_
   refine k_f rfl ?_
   refine k_skip ?_
   refine c_norm ?_
   refine k_sg ?_
   refine s_run rfl rfl (rms rfl) ?_
   refine s_run rfl rfl (rmi rfl) ?_
   refine s_run rfl rfl (r_ix (i := i) rfl rfl (by omega) (by omega) Try.underlying53 sz67) ?_
   refine s_run rfl rfl (r_fa rfl fo67_0) ?_
   refine s_run rfl rfl (r_lr H rfl hc0 (by simp) ag3) ?_
   refine k_nc ?_
   refine k_b ?_
   refine k_sg ?_
   refine s_run rfl rfl (r_eqlF rfl rfl (by omega)) ?_
   refine s_run rfl rfl (rab rfl) ?_
   refine k_nc ?_
   refine k_f rfl ?_
   refine k_sg ?_
   refine s_run rfl rfl (r_eqlF rfl rfl (by omega)) ?_
   refine s_run rfl rfl (rab rfl) ?_
   refine k_nc ?_
   refine k_f rfl ?_
   refine k_sg ?_
   refine s_run rfl rfl (r_eqlF rfl rfl (by omega)) ?_
   refine s_run rfl rfl (rab rfl) ?_
   refine k_nc ?_
   refine k_f rfl ?_
   refine k_skip ?_
   refine b_norm ?_
   refine b_norm ?_
   refine c_norm ?_
   refine k_rg ?_
   refine s_run rfl rfl (rmi rfl) ?_
   refine s_run rfl rfl (r_add rfl rfl (wI (by omega))) ?_
   refine s_run rfl rfl (rai rfl) ?_
   refine k_nil ?_
   refine c_round ?_
   refine ⟨_, _, ?_, rfl, i + 1, s, by omega, rfl, hst.symm, by rw [hA]; rfl, rfl, rfl, rfl, H⟩
   omega
 ·obtain rfl : i = n := by omega
  have et : l.take i = l := by rw [← hl]; exact List.take_length
  rw [et] at hs
  subst hs
  obtain ⟨f, rfl⟩ := live4 f0 f1 f5 f6
  clear f0 f1 f5 f6
  refine k_seq ?_
  refine k_sg ?_
  refine s_run rfl rfl (rmi rfl) ?_
  refine s_run rfl rfl (rms rfl) ?_
  refine s_run rfl rfl (r_len rfl Try.underlying53) ?_
  refine s_run rfl rfl (r_lssF rfl rfl (by omega)) ?_
  refine k_nc ?_
  refine k_f rfl ?_
  refine k_exit ?_
  refine c_exit ?_
  refine c_exit ?_
  refine b_hit ?_
  refine c_norm ?_
  refine k_sg ?_
  refine s_run rfl rfl (rmi rfl) ?_
  refine s_run rfl rfl (rai rfl) ?_
  refine k_nc ?_
  refine k_ret ?_
  refine fin1r (v := .int _ _) rfl rfl ?_
  exact ⟨rfl, H.only⟩
end Go.Proofs.Ytpbimgopiammaaa
end

section
namespace Go.Proofs.Ytpbimgopiammaaa
theorem mget_same {α β : Type} [DecidableEq α] : ∀ (l : List (α × β)) (a : α) (v : β), mget (mput l a v) a = some v
 | [], a, v => by simp [mput, mget]
 | p :: l, a, v => by
  unfold mput
  split
  ·simp [mget]
  ·rename_i h
   rw [mget, if_neg h]; exact mget_same l a v
theorem mget_other {α β : Type} [DecidableEq α] : ∀ (l : List (α × β)) (a b : α) (v : β), b ≠ a → mget (mput l a v) b = mget l b
 | [], a, b, v, h => by simp [mput, mget, Ne.symm h]
 | p :: l, a, b, v, h => by
  unfold mput
  split
  ·rename_i e
   subst e
   simp [mget, Ne.symm h]
  ·rw [mget, mget, mget_other l a b v h]
theorem mget_keep (l : List (Int × Int)) (x : Int) : (l.map Prod.fst).Nodup → mget (l.filter keepQ) x = if mget l x = some 2 then none else mget l x := by
 induction l with
 | nil => intro _; rfl
 | cons p l ih =>
  intro h
  simp only [List.map_cons, List.nodup_cons] at h
  by_cases hp : p.1 = x
  ·have hno : mget (l.filter keepQ) x = none := (mget_iff _ _).2 fun q hq e => h.1 (by
    rw [hp, ← e]; exact List.mem_map.2 ⟨q, (List.mem_filter.1 hq).1, rfl⟩)
   by_cases h2 : p.2 = 2
   ·have hk : keepQ p = false := by simp [keepQ, h2]
    rw [List.filter_cons_of_neg (by rw [hk]; simp), hno, mget, if_pos hp, h2, if_pos rfl]
   ·have hk : keepQ p = true := by simp [keepQ, h2]
    rw [List.filter_cons_of_pos hk, mget, mget, if_pos hp, if_pos hp, if_neg (fun e => h2 (by injection e))]
  ·rw [mget, if_neg hp, ← ih h.2]
   by_cases hk : keepQ p = true
   ·rw [List.filter_cons_of_pos hk, mget, if_neg hp]
   ·rw [List.filter_cons_of_neg hk]
theorem mput_keys {α β : Type} [DecidableEq α] : ∀ (l : List (α × β)) (a : α) (v : β), (l.map Prod.fst).Nodup → ((mput l a v).map Prod.fst).Nodup ∧ ∀ z, z ∈ (mput l a v).map Prod.fst ↔ z = a ∨ z ∈ l.map Prod.fst
 | [], a, v, _ => by simp [mput]
 | p :: l, a, v, h => by
  simp only [List.map_cons, List.nodup_cons] at h
  unfold mput
  split
  ·rename_i e
   subst e
   exact ⟨by simpa using h, fun z => by simp⟩
  ·rename_i e
   obtain ⟨h1, h2⟩ := mput_keys l a v h.2
   refine ⟨?_, fun z => ?_⟩
   ·simp only [List.map_cons, List.nodup_cons]
    refine ⟨fun hz => ?_, h1⟩
    rcases (h2 p.1).1 hz with hz | hz
    ·exact e hz
    ·exact h.1 hz
   ·simp only [List.map_cons, List.mem_cons, h2 z]
    constructor
    ·rintro (h | h | h)
     ·exact .inr (.inl h)
     ·exact .inl h
     ·exact .inr (.inr h)
    ·rintro (h | h | h)
     ·exact .inr (.inl h)
     ·exact .inl h
     ·exact .inr (.inr h)
end Go.Proofs.Ytpbimgopiammaaa
end

section
namespace Go.Proofs.Ytpbimgopiammaaa
structure LI (s : Ck) (R : Int → Int) : Prop where
 nd : (s.lines.map Prod.fst).Nodup
 v : ∀ x v, mget s.lines x = some v → v = 1 ∨ v = 2
 st : ∀ x, R x = (mget s.lines x).getD 0
theorem LI.same {s s' : Ck} {R R' : Int → Int} (h : LI s R) (hl : s'.lines = s.lines) (hR : ∀ x, R' x = R x) : LI s' R' :=
 ⟨by rw [hl]; exact h.nd, fun x v hv => h.v x v (by rw [← hl]; exact hv), fun x => by rw [hR, hl]; exact h.st x⟩
theorem LI.put {s s' : Ck} {R R' : Int → Int} (h : LI s R) (n v : Int) (hv : v = 1 ∨ v = 2) (hl : s'.lines = mput s.lines n v) (h1 : R' n = v) (h2 : ∀ x, x ≠ n → R' x = R x) : LI s' R' := by
 refine ⟨by rw [hl]; exact (mput_keys s.lines n v h.nd).1, fun x u hu => ?_, fun x => ?_⟩
 ·rw [hl] at hu
  by_cases e : x = n
  ·subst e; rw [mget_same] at hu; injection hu with hu; rw [← hu]; exact hv
  ·rw [mget_other _ _ _ _ e] at hu; exact h.v x u hu
 ·rw [hl]
  by_cases e : x = n
  ·subst e; rw [mget_same, h1]; rfl
  ·rw [mget_other _ _ _ _ e, h2 x e]; exact h.st x
theorem cms_lines (s : Ck) : ∀ l : List Int, (l.foldl Ck.cm1 s).lines = s.lines := fun l => by
 induction l generalizing s with
 | nil => rfl
 | cons x l ih => rw [List.foldl_cons, ih, (cm1_same s x).1]
theorem LI.step {s : Ck} {R : Int → Int} (h : LI s R) (k n : Int) : LI (s.step k n) (fun x => rst x (R x) (k, n)) := by
 unfold Ck.step
 by_cases hbad : k < 1 ∨ 5 < k ∨ n < 0
 ·rw [if_pos hbad]
  refine h.same rfl fun x => ?_
  unfold rst
  by_cases h0 : n < 0
  ·rw [if_pos h0]
  ·rw [if_neg h0, if_neg (by show ¬ k = 1; omega), if_neg (by show ¬ k = 2; omega), if_neg (by show ¬ k = 3; omega)]
 rw [if_neg hbad]
 have h0 : ¬ n < 0 := fun h => hbad (.inr (.inr h))
 by_cases k1 : k = 1
 ·rw [if_pos k1]
  refine h.put n 1 (.inl rfl) rfl ?_ fun x hx => ?_
  ·unfold rst; rw [if_neg h0, if_pos k1, if_pos rfl]
  ·unfold rst; rw [if_neg h0, if_pos k1, if_neg (fun e => hx e.symm)]
 rw [if_neg k1]
 by_cases k2 : k = 2
 ·rw [if_pos k2]
  by_cases hm : mget s.lines n = some 1
  ·rw [if_pos hm]
   have hn : R n = 1 := by rw [h.st, hm]; rfl
   refine h.put n 2 (.inr rfl) rfl ?_ fun x hx => ?_
   ·unfold rst; rw [if_neg h0, if_neg k1, if_pos k2, if_pos ⟨rfl, hn⟩]
   ·unfold rst; rw [if_neg h0, if_neg k1, if_pos k2, if_neg (fun e => hx e.1.symm)]
  ·rw [if_neg hm]
   refine h.same rfl fun x => ?_
   unfold rst; rw [if_neg h0, if_neg k1, if_pos k2, if_neg]
   rintro ⟨e, e2⟩
   have e' : n = x := e
   subst e'
   rw [h.st] at e2
   cases hg : mget s.lines n with
   | none => rw [hg] at e2; simp at e2
   | some v => rw [hg] at e2 hm; simp at e2 hm; exact hm e2
 rw [if_neg k2]
 by_cases k3 : k = 3
 ·rw [if_pos k3]
  have hl : s.fence.bump.lines = s.lines.filter keepQ := rfl
  refine ⟨by rw [hl]; exact (List.filter_sublist.map _).nodup h.nd, fun x v hv => ?_, fun x => ?_⟩
  ·rw [hl, mget_keep _ _ h.nd] at hv
   split at hv
   ·cases hv
   ·exact h.v x v hv
  ·rw [hl, mget_keep _ _ h.nd]
   unfold rst; rw [if_neg h0, if_neg k1, if_neg k2, if_pos k3, h.st]
   cases hg : mget s.lines x with
   | none => simp
   | some v => by_cases e : v = 2 <;> simp [e]
 rw [if_neg k3]
 have hs : ∀ x, rst x (R x) (k, n) = R x := fun x => by unfold rst; rw [if_neg h0, if_neg k1, if_neg k2, if_neg k3]
 by_cases k4 : k = 4
 ·rw [if_pos k4]; exact h.same rfl hs
 ·rw [if_neg k4]; exact h.same (cms_lines s _) hs
theorem LI.steps : ∀ (l : List (Int × Int)) {s : Ck} {R : Int → Int}, LI s R → LI (l.foldl (fun s e => s.step e.1 e.2) s) (fun x => l.foldl (rst x) (R x))
 | [], _, _, h => h
 | e :: l, _, _, h => LI.steps l (h.step e.1 e.2)
theorem chk_LI (l : List (Int × Int)) : LI (chk l) (rState l) :=
 LI.steps l (s := ck0) (R := fun _ => 0) ⟨by simp [ck0], fun x v h => by simp [ck0, mget] at h, fun x => rfl⟩
end Go.Proofs.Ytpbimgopiammaaa
end

section
namespace Go.Proofs.Ytpbimgopiammaaa
open Go.RowKit
set_option maxRecDepth 100000
set_option maxHeartbeats 2000000
def rfl1 (s : Bool) (e : Int × Int) : Bool := if e.2 < 0 then s else if e.1 = 2 then true else if e.1 = 3 then false else s
def rFlushed (l : List (Int × Int)) : Bool := l.foldl rfl1 false
end Go.Proofs.Ytpbimgopiammaaa
end

section
namespace Go.Proofs.Ytpbimgopiammaaa
theorem cms_flush (s : Ck) : ∀ l : List Int, (l.foldl Ck.cm1 s).flush = s.flush := fun l => by
 induction l generalizing s with
 | nil => rfl
 | cons x l ih => rw [List.foldl_cons, ih, (cm1_same s x).2.2.1]
theorem step_flush (s : Ck) (k n : Int) : (s.step k n).flush = rfl1 s.flush (k, n) := by
 unfold Ck.step rfl1
 by_cases hbad : k < 1 ∨ 5 < k ∨ n < 0
 ·rw [if_pos hbad]
  by_cases h0 : n < 0
  ·rw [if_pos h0]; rfl
  ·rw [if_neg h0, if_neg (by show ¬ k = 2; omega), if_neg (by show ¬ k = 3; omega)]; rfl
 rw [if_neg hbad, if_neg (show ¬ n < 0 from fun h => hbad (.inr (.inr h)))]
 by_cases k1 : k = 1
 ·rw [if_pos k1, if_neg (by show ¬ k = 2; omega), if_neg (by show ¬ k = 3; omega)]; rfl
 rw [if_neg k1]
 by_cases k2 : k = 2
 ·rw [if_pos k2, if_pos k2]; rfl
 rw [if_neg k2, if_neg k2]
 by_cases k3 : k = 3
 ·rw [if_pos k3, if_pos k3]; rfl
 rw [if_neg k3, if_neg k3]
 by_cases k4 : k = 4
 ·rw [if_pos k4]; rfl
 ·rw [if_neg k4]; exact cms_flush s _
theorem steps_flush : ∀ (l : List (Int × Int)) (s : Ck), (l.foldl (fun s e => s.step e.1 e.2) s).flush = l.foldl rfl1 s.flush
 | [], _ => rfl
 | e :: l, s => by rw [List.foldl_cons, List.foldl_cons, steps_flush l, step_flush]
theorem chk_flush (l : List (Int × Int)) : (chk l).flush = rFlushed l := steps_flush l ck0
end Go.Proofs.Ytpbimgopiammaaa
end

section
namespace Go.Proofs.Ytpbimgopiammaaa
def rmk (out : List Int) (e : Int × Int) : List Int := if e.2 < 0 then out else if e.1 = 5 then [] else if e.1 = 4 then rIns out e.2 else out
structure MI (s : Ck) (M : List Int) : Prop where
 nd : (s.marked.map Prod.fst).Nodup
 up : M.Pairwise (· < ·)
 mem : ∀ x, x ∈ s.marked.map Prod.fst ↔ x ∈ M
theorem MI.same {s s' : Ck} {M M' : List Int} (h : MI s M) (hl : s'.marked = s.marked) (hM : M' = M) : MI s' M' := by
 subst hM
 exact ⟨by rw [hl]; exact h.nd, h.up, fun x => by rw [hl]; exact h.mem x⟩
theorem MI.step {s : Ck} {M : List Int} (h : MI s M) (k n : Int) : MI (s.step k n) (rmk M (k, n)) := by
 unfold Ck.step rmk
 by_cases hbad : k < 1 ∨ 5 < k ∨ n < 0
 ·rw [if_pos hbad]
  by_cases h0 : n < 0
  ·rw [if_pos h0]; exact h.same rfl rfl
  ·rw [if_neg h0, if_neg (by show ¬ k = 5; omega), if_neg (by show ¬ k = 4; omega)]; exact h.same rfl rfl
 rw [if_neg hbad, if_neg (show ¬ n < 0 from fun h => hbad (.inr (.inr h)))]
 by_cases k1 : k = 1
 ·rw [if_pos k1, if_neg (by show ¬ k = 5; omega), if_neg (by show ¬ k = 4; omega)]; exact h.same rfl rfl
 rw [if_neg k1]
 by_cases k2 : k = 2
 ·rw [if_pos k2]
  have hM : (if (k, n).1 = 5 then [] else if (k, n).1 = 4 then rIns M (k, n).2 else M) = M := by rw [if_neg (by show ¬ k = 5; omega), if_neg (by show ¬ k = 4; omega)]
  rw [hM]
  split
  ·exact h.same rfl rfl
  ·exact h.same rfl rfl
 rw [if_neg k2]
 by_cases k3 : k = 3
 ·rw [if_pos k3, if_neg (by show ¬ k = 5; omega), if_neg (by show ¬ k = 4; omega)]
  refine h.same ?_ rfl
  show s.fence.marked = _
  unfold Ck.fence; cases s.flush <;> rfl
 rw [if_neg k3]
 by_cases k4 : k = 4
 ·rw [if_pos k4, if_neg (by show ¬ k = 5; omega), if_pos k4]
  obtain ⟨h1, h2⟩ := mput_keys s.marked n true h.nd
  exact ⟨h1, rIns_rise M n h.up, fun x => by
   show x ∈ (mput s.marked n true).map Prod.fst ↔ _
   rw [h2 x, rIns_mem, h.mem x]⟩
 ·rw [if_neg k4, if_pos (by show k = 5; omega)]
  exact ⟨by show (([] : List (Int × Bool)).map Prod.fst).Nodup; simp, by simp, fun x => by show x ∈ ([] : List (Int × Bool)).map Prod.fst ↔ _; simp⟩
end Go.Proofs.Ytpbimgopiammaaa
end

section
namespace Go.Proofs.Ytpbimgopiammaaa
def rMarked (l : List (Int × Int)) : List Int := l.foldl rmk []
theorem MI.steps : ∀ (l : List (Int × Int)) {s : Ck} {M : List Int}, MI s M → MI (l.foldl (fun s e => s.step e.1 e.2) s) (l.foldl rmk M)
 | [], _, _, h => h
 | e :: l, _, _, h => MI.steps l (h.step e.1 e.2)
theorem chk_MI (l : List (Int × Int)) : MI (chk l) (rMarked l) :=
 MI.steps l (s := ck0) (M := []) ⟨by simp [ck0], by simp, fun x => by simp [ck0]⟩
theorem MI.srt {s : Ck} {M : List Int} (h : MI s M) : srt (s.marked.map Prod.fst) = M :=
 rise_eq (srt_rise h.nd) h.up fun z => by rw [srt_mem, h.mem]
/-- the faults that a marked line makes -/
def rf1 (b : List (Int × Int)) (at_ : Int) (x : Int) : List Flt := if rState b x > 0 then [⟨at_, x, rState b x⟩] else []
/-- the faults of an event behind others -/
def rflt (b : List (Int × Int)) (e : Int × Int) : List Flt :=
 if e.1 < 1 ∨ 5 < e.1 ∨ e.2 < 0 then [⟨b.length, e.2, 5⟩]
 else if e.1 = 2 ∧ rState b e.2 ≠ 1 then [⟨b.length, e.2, 3⟩]
 else if e.1 = 3 ∧ rFlushed b = false then [⟨b.length, 0, 4⟩]
 else if e.1 = 5 then (rMarked b).flatMap (rf1 b b.length)
 else []
theorem rState_vals (l : List (Int × Int)) (x : Int) : rState l x = 0 ∨ rState l x = 1 ∨ rState l x = 2 := by
 have h := chk_LI l
 rw [h.st x]
 cases hg : mget (chk l).lines x with
 | none => left; rfl
 | some v => rcases h.v x v hg with rfl | rfl <;> simp
theorem cms_faults {b : List (Int × Int)} {s : Ck} (hl : s.lines = (chk b).lines) (ha : (s.at_ : Int) = b.length) : ∀ M : List Int, (M.foldl Ck.cm1 s).faults = s.faults ++ M.flatMap (rf1 b b.length) := fun M => by
 induction M generalizing s with
 | nil => simp
 | cons x M ih =>
  have h := chk_LI b
  obtain ⟨c1, c2, c3, c4, c5⟩ := cm1_same s x
  rw [List.foldl_cons, ih (c1.trans hl) (by rw [c4]; exact ha), List.flatMap_cons, ← List.append_assoc]
  congr 1
  unfold Ck.cm1 rf1
  rw [h.st x, ← hl]
  cases hg : mget s.lines x with
  | none => simp
  | some v =>
   rcases h.v x v (by rw [← hl]; exact hg) with rfl | rfl
   ·simp [Ck.fault, ha]
   ·simp [Ck.fault, ha]
theorem chk_at (l : List (Int × Int)) : (chk l).at_ = l.length := by
 have : ∀ (l : List (Int × Int)) (s : Ck), (l.foldl (fun s e => s.step e.1 e.2) s).at_ = s.at_ + l.length := fun l => by
  induction l with
  | nil => intro s; rfl
  | cons e l ih => intro s; rw [List.foldl_cons, ih, (step_bd s e.1 e.2).2.1, List.length_cons]; omega
 have h := this l ck0
 rw [show ck0.at_ = 0 from rfl, Nat.zero_add] at h
 exact h
theorem chk_faults (b : List (Int × Int)) (k n : Int) : ((chk b).step k n).faults = (chk b).faults ++ rflt b (k, n) := by
 have hL := chk_LI b
 have hM := chk_MI b
 have hF := chk_flush b
 have hA := chk_at b
 have hA' : ((chk b).at_ : Int) = b.length := by rw [hA]
 unfold Ck.step rflt
 by_cases hbad : k < 1 ∨ 5 < k ∨ n < 0
 ·rw [if_pos hbad, if_pos hbad]; simp [Ck.fault, Ck.bump, hA]
 rw [if_neg hbad, if_neg hbad]
 by_cases k1 : k = 1
 ·subst k1; simp [Ck.bump]
 rw [if_neg k1]
 by_cases k2 : k = 2
 ·subst k2
  rw [if_pos rfl]
  by_cases hm : mget (chk b).lines n = some 1
  ·rw [if_pos hm, if_neg (by rintro ⟨_, h⟩; apply h; show rState b n = 1; rw [hL.st, hm]; rfl), if_neg (by simp), if_neg (by simp)]
   simp [Ck.bump]
  ·rw [if_neg hm, if_pos ⟨rfl, fun h => hm (by
    have h' : rState b n = 1 := h
    rw [hL.st] at h'
    cases hg : mget (chk b).lines n with
    | none => rw [hg] at h'; simp at h'
    | some v => rw [hg] at h'; simp at h'; rw [h'])⟩]
   simp [Ck.fault, Ck.bump, hA]
 rw [if_neg k2]
 rw [if_neg (show ¬ ((k, n).1 = 2 ∧ rState b (k, n).2 ≠ 1) from fun h => k2 h.1)]
 by_cases k3 : k = 3
 ·subst k3
  rw [if_pos rfl]
  unfold Ck.fence
  rw [hF]
  by_cases hf : rFlushed b = true
  ·rw [if_pos hf, if_neg (by rintro ⟨_, h⟩; rw [hf] at h; cases h), if_neg (by simp)]
   simp [Ck.bump]
  ·rw [if_neg hf, if_pos ⟨rfl, by simpa using hf⟩]
   simp [Ck.fault, Ck.bump, hA]
 rw [if_neg k3]
 rw [if_neg (show ¬ ((k, n).1 = 3 ∧ rFlushed b = false) from fun h => k3 h.1)]
 by_cases k4 : k = 4
 ·subst k4; simp [Ck.bump]
 ·rw [if_neg k4, if_pos (by show k = 5; omega)]
  show ((srt ((chk b).marked.map Prod.fst)).foldl Ck.cm1 (chk b)).faults = _
  rw [cms_faults rfl hA', hM.srt]
/-- the document's loose lines -/
def rls (l : List (Int × Int)) (out : List Int) (e : Int × Int) : List Int := if e.2 ≥ 0 ∧ rState l e.2 > 0 ∧ e.1 = 1 then rIns out e.2 else out
def rLoose (l : List (Int × Int)) : List Int := l.foldl (rls l) []
theorem rls_fold (l : List (Int × Int)) : ∀ (m : List (Int × Int)) (out : List Int), out.Pairwise (· < ·) → (m.foldl (rls l) out).Pairwise (· < ·) ∧ ∀ x, x ∈ m.foldl (rls l) out ↔ x ∈ out ∨ ∃ e ∈ m, e.2 = x ∧ e.2 ≥ 0 ∧ rState l e.2 > 0 ∧ e.1 = 1
 | [], out, h => ⟨h, fun x => by simp⟩
 | e :: m, out, h => by
  rw [List.foldl_cons]
  unfold rls
  split
  ·rename_i hc
   obtain ⟨h1, h2⟩ := rls_fold l m (rIns out e.2) (rIns_rise out e.2 h)
   refine ⟨h1, fun x => ?_⟩
   show x ∈ m.foldl (rls l) _ ↔ _
   rw [h2 x, rIns_mem]
   constructor
   ·rintro ((rfl | h) | ⟨e', h3, h4⟩)
    ·exact .inr ⟨e, by simp, rfl, hc⟩
    ·exact .inl h
    ·exact .inr ⟨e', by simp [h3], h4⟩
   ·rintro (h | ⟨e', h3, h4⟩)
    ·exact .inl (.inr h)
    ·rcases List.mem_cons.1 h3 with rfl | h3
     ·exact .inl (.inl h4.1.symm)
     ·exact .inr ⟨e', h3, h4⟩
  ·rename_i hc
   obtain ⟨h1, h2⟩ := rls_fold l m out h
   refine ⟨h1, fun x => ?_⟩
   show x ∈ m.foldl (rls l) _ ↔ _
   rw [h2 x]
   constructor
   ·rintro (h | ⟨e', h3, h4⟩)
    ·exact .inl h
    ·exact .inr ⟨e', by simp [h3], h4⟩
   ·rintro (h | ⟨e', h3, h4⟩)
    ·exact .inl h
    ·rcases List.mem_cons.1 h3 with rfl | h3
     ·exact (hc h4.2).elim
     ·exact .inr ⟨e', h3, h4⟩
theorem rst_zero (x : Int) : ∀ (l : List (Int × Int)), (∀ e ∈ l, ¬ (e.2 = x ∧ e.2 ≥ 0 ∧ e.1 = 1)) → l.foldl (rst x) 0 = 0
 | [], _ => rfl
 | e :: l, h => by
  have h1 : rst x 0 e = 0 := by
   have h0 := h e (by simp)
   unfold rst
   split
   ·rfl
   split
   ·rename_i hn hk
    rw [if_neg (fun hx => h0 ⟨hx, by omega, hk⟩)]
   split
   ·rw [if_neg (by rintro ⟨_, h⟩; cases h)]
   split
   ·rw [if_neg (by intro h; cases h)]
   ·rfl
  rw [List.foldl_cons, h1]
  exact rst_zero x l fun e he => h e (by simp [he])
theorem loose_eq (l : List (Int × Int)) : srt ((chk l).lines.map Prod.fst) = rLoose l := by
 have hL := chk_LI l
 obtain ⟨h1, h2⟩ := rls_fold l l [] (by simp)
 refine rise_eq (srt_rise hL.nd) h1 fun z => ?_
 rw [srt_mem]
 show _ ↔ z ∈ l.foldl (rls l) []
 rw [h2 z]
 have hz : z ∈ (chk l).lines.map Prod.fst ↔ rState l z > 0 := by
  rw [hL.st z]
  cases hg : mget (chk l).lines z with
  | none =>
   have := (mget_iff _ _).1 hg
   simp only [List.mem_map, Option.getD_none]
   constructor
   ·rintro ⟨p, hp, rfl⟩; exact (this p hp rfl).elim
   ·intro h; omega
  | some v =>
   constructor
   ·intro _; rcases hL.v z v hg with rfl | rfl <;> simp
   ·intro _
    by_cases hm : z ∈ (chk l).lines.map Prod.fst
    ·exact hm
    ·have : mget (chk l).lines z = none := (mget_iff _ _).2 fun p hp e => hm (List.mem_map.2 ⟨p, hp, e⟩)
     rw [this] at hg; cases hg
 rw [hz]
 constructor
 ·intro hp
  right
  by_cases hex : ∃ e ∈ l, e.2 = z ∧ e.2 ≥ 0 ∧ e.1 = 1
  ·obtain ⟨e, he, e2, e3, e4⟩ := hex
   exact ⟨e, he, e2, e3, by rw [e2]; exact hp, e4⟩
  ·have := rst_zero z l fun e he hc => hex ⟨e, he, hc⟩
   have h3 : rState l z = 0 := this
   omega
 ·rintro (h | ⟨e, he, e2, e3, e4, e5⟩)
  ·simp at h
  ·rw [← e2]; exact e4
end Go.Proofs.Ytpbimgopiammaaa
end

section
namespace Go.Proofs.Ytpbimgopiammaaa
open Go.RowKit
set_option maxRecDepth 100000
set_option maxHeartbeats 2000000
theorem rIns_at : ∀ (l : List Int) (x : Int) (n : Nat), n ≤ l.length → (∀ j y, j < n → l[j]? = some y → y < x) → (∀ y, l[n]? = some y → ¬ y < x) →
  rIns l x = if l[n]? = some x then l else l.take n ++ x :: l.drop n
 | [], x, n, hn, _, _ => by simp at hn; subst hn; rfl
 | y :: l, x, 0, _, _, h => by
  have := h y rfl
  rw [rIns, if_neg this]
  by_cases e : y = x
  ·rw [if_pos e, if_pos (by rw [e]; rfl)]
  ·rw [if_neg e, if_neg (by simpa using e)]; rfl
 | y :: l, x, n + 1, hn, h1, h2 => by
  rw [rIns, if_pos (h1 0 y (by omega) rfl), rIns_at l x n (by simpa using hn) (fun j z hj hz => h1 (j + 1) z (by omega) (by simpa using hz)) (fun z hz => h2 z (by simpa using hz))]
  rw [show (y :: l)[n + 1]? = l[n]? from rfl]
  split
  ·rfl
  ·rfl
theorem rInsert {F : List Nat} (A : Option Addr) (n c : Nat) (l : List Int) (x : Int) (w : World) (hS : Sees (Value.int .i64) w F A l) (hF : ∀ i ∈ F, i < w.heap.size) (hl : l.length = n) (hn : n ≤ 100000) (hc : n ≤ c) :
  Calls Try.prog 45 [.slice A n c, .int .i64 x].toArray w fun e w' => ∃ A' c', e = .returned (.slice A' (rIns l x).length c') ∧ (rIns l x).length ≤ c' ∧ Sees (Value.int .i64) w' F A' (rIns l x) ∧ Only [] w w' := by
 have H := Heap.nil w
 have hS0 := hS.mono (G := []) (by simp)
 refine k_in (N := 48) Try.func45 rfl rfl rfl ?_
 refine k_sg ?_
 refine s_run rfl rfl (ras rfl) ?_
 refine k_nc ?_
 refine k_sg ?_
 refine s_run rfl rfl (rai rfl) ?_
 refine k_nc ?_
 refine k_seq ?_
 refine k_b ?_
 refine k_loop (fun z f W => ∃ (i : Nat), i ≤ n ∧ z = n - i ∧ (∀ j y, j < i → l[j]? = some y → y < x) ∧ f 0 = .slice A n c ∧ f 1 = .int .i64 x ∧ f 5 = .int .i64 i ∧ Heap w [] [] W) n ⟨0, by omega, rfl, by omega, rfl, rfl, rfl, H⟩ ?_
 clear H
 rintro z f W ⟨i, hi, rfl, hlo, f0, f1, f5, H⟩
 have hp := rIns_at l x i (by omega) hlo
 by_cases hlt : i < n
 ·obtain ⟨y, hy⟩ : ∃ y, l[i]? = some y := ⟨_, List.getElem?_eq_getElem (by omega)⟩
  obtain ⟨b, o, hA, _, hrd⟩ := hS (by omega)
  have hc0 := hrd i y hy
  rw [hA] at f0
  obtain ⟨f, rfl⟩ := live3 f0 f1 f5
  clear f0 f1 f5
  by_cases h : y < x
  ·refine k_seq ?_
   refine k_sg ?_
   refine s_run rfl rfl (rmi rfl) ?_
   refine s_run rfl rfl (rms rfl) ?_
   refine s_run rfl rfl (r_len rfl Try.underlying22) ?_
   refine s_run rfl rfl (r_lssT rfl rfl (by omega)) ?_
   refine s_run rfl rfl (rmb rfl) ?_
   refine s_run rfl (g_on 11 (by kernel_rfl) rfl) (rms rfl) ?_
   refine s_run rfl (g_on 11 (by kernel_rfl) rfl) (rmi rfl) ?_
   refine s_run rfl (g_on 11 (by kernel_rfl) rfl) (r_ix1o (i := i) rfl rfl (by omega) (by omega) Try.underlying22 sz3) ?_
   refine s_run rfl (g_on 11 (by kernel_rfl) rfl) (r_lr H rfl hc0 (by simp) ag3) ?_
   refine s_run rfl (g_on 11 (by kernel_rfl) rfl) (rmi rfl) ?_
   refine s_run rfl (g_on 11 (by kernel_rfl) rfl) (r_lssT rfl rfl (by omega)) ?_
   refine s_run rfl rfl (r_pkT (v := .bool _) rfl rfl) ?_
   refine k_nc ?_
   refine k_t rfl ?_
   refine k_skip ?_
   refine c_norm ?_
   refine k_b ?_
   refine k_rg ?_
   refine s_run rfl rfl (rmi rfl) ?_
   refine s_run rfl rfl (r_add rfl rfl (wI (by omega))) ?_
   refine s_run rfl rfl (rai rfl) ?_
   refine k_nil ?_
   refine b_norm ?_
   refine c_round ?_
   refine ⟨_, _, ?_, rfl, i + 1, by omega, rfl, fun j u hj hu => ?_, by rw [hA]; rfl, rfl, rfl, H⟩
   ·omega
   ·by_cases e : j = i
    ·subst e; rw [hy] at hu; injection hu with hu; subst hu; exact h
    ·exact hlo j u (by omega) hu
  ·replace hp := hp (fun u hu => by rw [hy] at hu; injection hu with hu; subst hu; exact h)
   by_cases e : y = x
   ·rw [if_pos (by rw [hy, e])] at hp
    rw [hp]
    refine k_seq ?_
    refine k_sg ?_
    refine s_run rfl rfl (rmi rfl) ?_
    refine s_run rfl rfl (rms rfl) ?_
    refine s_run rfl rfl (r_len rfl Try.underlying22) ?_
    refine s_run rfl rfl (r_lssT rfl rfl (by omega)) ?_
    refine s_run rfl rfl (rmb rfl) ?_
    refine s_run rfl (g_on 11 (by kernel_rfl) rfl) (rms rfl) ?_
    refine s_run rfl (g_on 11 (by kernel_rfl) rfl) (rmi rfl) ?_
    refine s_run rfl (g_on 11 (by kernel_rfl) rfl) (r_ix1o (i := i) rfl rfl (by omega) (by omega) Try.underlying22 sz3) ?_
    refine s_run rfl (g_on 11 (by kernel_rfl) rfl) (r_lr H rfl hc0 (by simp) ag3) ?_
    refine s_run rfl (g_on 11 (by kernel_rfl) rfl) (rmi rfl) ?_
    refine s_run rfl (g_on 11 (by kernel_rfl) rfl) (r_lssF rfl rfl (by omega)) ?_
    refine s_run rfl rfl (r_pkT (v := .bool _) rfl rfl) ?_
    refine k_nc ?_
    refine k_f rfl ?_
    refine k_exit ?_
    refine c_exit ?_
    refine c_exit ?_
    refine b_hit ?_
    refine c_norm ?_
    refine k_seq ?_
    refine k_sg ?_
    refine s_run rfl rfl (rmi rfl) ?_
    refine s_run rfl rfl (rms rfl) ?_
    refine s_run rfl rfl (r_len rfl Try.underlying22) ?_
    refine s_run rfl rfl (r_lssT rfl rfl (by omega)) ?_
    refine s_run rfl rfl (rmb rfl) ?_
    refine s_run rfl (g_on 25 (by kernel_rfl) rfl) (rms rfl) ?_
    refine s_run rfl (g_on 25 (by kernel_rfl) rfl) (rmi rfl) ?_
    refine s_run rfl (g_on 25 (by kernel_rfl) rfl) (r_ix1o (i := i) rfl rfl (by omega) (by omega) Try.underlying22 sz3) ?_
    refine s_run rfl (g_on 25 (by kernel_rfl) rfl) (r_lr H rfl hc0 (by simp) ag3) ?_
    refine s_run rfl (g_on 25 (by kernel_rfl) rfl) (rmi rfl) ?_
    refine s_run rfl (g_on 25 (by kernel_rfl) rfl) (r_eqlT rfl rfl (by omega)) ?_
    refine s_run rfl rfl (r_pkT (v := .bool _) rfl rfl) ?_
    refine k_nc ?_
    refine k_t rfl ?_
    refine k_sg ?_
    refine s_run rfl rfl (rms rfl) ?_
    refine s_run rfl rfl (ras rfl) ?_
    refine k_nc ?_
    refine k_ret ?_
    refine c_ret ?_
    refine fin1r (v := .slice _ _ _) rfl rfl ?_
    exact ⟨_, _, by rw [hl, hA], by omega, hS.later H.only (by simp), H.only⟩
   ·rw [if_neg (by rw [hy]; intro h2; injection h2 with h2; exact e h2)] at hp
    have hlen : (rIns l x).length = i + 1 + (n - i) := by rw [hp]; simp; omega
    have hS2 := hS0.slo (c := c) i (by omega)
    rw [hA] at hS hS0 hS2
    refine k_seq ?_
    refine k_sg ?_
    refine s_run rfl rfl (rmi rfl) ?_
    refine s_run rfl rfl (rms rfl) ?_
    refine s_run rfl rfl (r_len rfl Try.underlying22) ?_
    refine s_run rfl rfl (r_lssT rfl rfl (by omega)) ?_
    refine s_run rfl rfl (rmb rfl) ?_
    refine s_run rfl (g_on 11 (by kernel_rfl) rfl) (rms rfl) ?_
    refine s_run rfl (g_on 11 (by kernel_rfl) rfl) (rmi rfl) ?_
    refine s_run rfl (g_on 11 (by kernel_rfl) rfl) (r_ix1o (i := i) rfl rfl (by omega) (by omega) Try.underlying22 sz3) ?_
    refine s_run rfl (g_on 11 (by kernel_rfl) rfl) (r_lr H rfl hc0 (by simp) ag3) ?_
    refine s_run rfl (g_on 11 (by kernel_rfl) rfl) (rmi rfl) ?_
    refine s_run rfl (g_on 11 (by kernel_rfl) rfl) (r_lssF rfl rfl (by omega)) ?_
    refine s_run rfl rfl (r_pkT (v := .bool _) rfl rfl) ?_
    refine k_nc ?_
    refine k_f rfl ?_
    refine k_exit ?_
    refine c_exit ?_
    refine c_exit ?_
    refine b_hit ?_
    refine c_norm ?_
    refine k_seq ?_
    refine k_sg ?_
    refine s_run rfl rfl (rmi rfl) ?_
    refine s_run rfl rfl (rms rfl) ?_
    refine s_run rfl rfl (r_len rfl Try.underlying22) ?_
    refine s_run rfl rfl (r_lssT rfl rfl (by omega)) ?_
    refine s_run rfl rfl (rmb rfl) ?_
    refine s_run rfl (g_on 25 (by kernel_rfl) rfl) (rms rfl) ?_
    refine s_run rfl (g_on 25 (by kernel_rfl) rfl) (rmi rfl) ?_
    refine s_run rfl (g_on 25 (by kernel_rfl) rfl) (r_ix1o (i := i) rfl rfl (by omega) (by omega) Try.underlying22 sz3) ?_
    refine s_run rfl (g_on 25 (by kernel_rfl) rfl) (r_lr H rfl hc0 (by simp) ag3) ?_
    refine s_run rfl (g_on 25 (by kernel_rfl) rfl) (rmi rfl) ?_
    refine s_run rfl (g_on 25 (by kernel_rfl) rfl) (r_eqlF rfl rfl (by omega)) ?_
    refine s_run rfl rfl (r_pkT (v := .bool _) rfl rfl) ?_
    refine k_nc ?_
    refine k_f rfl ?_
    refine k_skip ?_
    refine c_norm ?_
    refine k_sg ?_
    refine s_bs0 1 (by omega) H rfl Try.underlying22 inf3 ?_
    intro _ _ H'; clear H; have H := H'; clear H'
    refine s_run rfl rfl (rms rfl) ?_
    refine s_run rfl rfl (rmi rfl) ?_
    refine s_run rfl rfl (r_sloA rfl rfl rfl (by omega) Try.underlying22 sz3) ?_
    refine s_apps (enc := (Value.int .i64)) (xs := []) H 0 rfl rfl rfl rfl (hS2) ((by rw [List.length_drop, hl])) (fun _ => rfl) (by omega) Try.underlying22 inf3 rfl ?_
    intro _ _ _ hA H'; simp only [List.set_cons_zero, List.set_cons_succ, List.take_succ_cons, List.take_zero, List.drop_succ_cons, List.drop_zero, List.cons_append, List.nil_append, List.append_nil, List.length_cons, List.length_nil, Nat.reduceAdd] at H'; clear H; have H := H'; clear H'
    refine s_run rfl rfl (ras rfl) ?_
    refine k_nc ?_
    refine k_sg ?_
    refine s_run rfl rfl (rms rfl) ?_
    refine s_run rfl rfl (rmi rfl) ?_
    refine s_run rfl rfl (rmi rfl) ?_
    refine s_run rfl rfl (r_shm rfl rfl rfl rfl rfl (by omega) (by omega) Try.underlying22 sz3) ?_
    refine s_run rfl rfl (rmi rfl) ?_
    refine s_apF (enc := (Value.int .i64)) H ((hS0.later H.only (by simp)).head i) ((by rw [List.length_take]; omega)) rfl rfl rfl rfl rfl rfl (by omega) Try.underlying22 inf3 rfl ?_
    intro _ An cn _ H'; clear H; have H := H'; clear H'
    refine s_run rfl rfl (rms rfl) ?_
    refine s_apW (enc := (Value.int .i64)) H 0 rfl rfl rfl rfl ((H.own_sees 1 rfl)) ((by simp; omega)) (fun _ => rfl) (by omega) Try.underlying22 inf3 rfl ?_
    intro A2 c2 _ H'; simp only [List.set_cons_zero, List.set_cons_succ, List.take_succ_cons, List.take_zero, List.drop_succ_cons, List.drop_zero, List.cons_append, List.nil_append, List.append_nil, List.length_cons, List.length_nil, Nat.reduceAdd] at H'; clear H; have H := H'; clear H'
    refine s_run rfl rfl (ras rfl) ?_
    refine k_nc ?_
    refine k_ret ?_
    refine fin1r (v := .slice _ _ _) rfl rfl ?_
    have e3 : l.take i ++ [x] ++ l.drop i = rIns l x := by rw [hp]; simp
    rw [e3] at H
    have hcap := own_cap H 0 rfl
    refine ⟨A2, c2, by rw [hlen, Nat.zero_add], by rw [hlen]; omega, H.own_fresh 0 rfl hF, H.only⟩
 ·obtain rfl : i = n := by omega
  replace hp := hp (fun u hu => by rw [List.getElem?_eq_none (by omega)] at hu; cases hu)
  rw [if_neg (by rw [List.getElem?_eq_none (by omega)]; simp)] at hp
  have hlen : (rIns l x).length = i + 1 + (i - i) := by rw [hp]; simp; omega
  have hS2 := hS0.slo (c := c) i (by omega)
  obtain ⟨f, rfl⟩ := live3 f0 f1 f5
  clear f0 f1 f5
  refine k_seq ?_
  refine k_sg ?_
  refine s_run rfl rfl (rmi rfl) ?_
  refine s_run rfl rfl (rms rfl) ?_
  refine s_run rfl rfl (r_len rfl Try.underlying22) ?_
  refine s_run rfl rfl (r_lssF rfl rfl (by omega)) ?_
  refine s_run rfl rfl (rmb rfl) ?_
  refine s_off rfl (g_off 11 (by kernel_rfl) rfl rfl) ?_
  refine s_off rfl (g_off 11 (by kernel_rfl) rfl rfl) ?_
  refine s_off rfl (g_off 11 (by kernel_rfl) rfl rfl) ?_
  refine s_off rfl (g_off 11 (by kernel_rfl) rfl rfl) ?_
  refine s_off rfl (g_off 11 (by kernel_rfl) rfl rfl) ?_
  refine s_off rfl (g_off 11 (by kernel_rfl) rfl rfl) ?_
  refine s_run rfl rfl (r_pkF (v := .bool _) rfl rfl) ?_
  refine k_nc ?_
  refine k_f rfl ?_
  refine k_exit ?_
  refine c_exit ?_
  refine c_exit ?_
  refine b_hit ?_
  refine c_norm ?_
  refine k_seq ?_
  refine k_sg ?_
  refine s_run rfl rfl (rmi rfl) ?_
  refine s_run rfl rfl (rms rfl) ?_
  refine s_run rfl rfl (r_len rfl Try.underlying22) ?_
  refine s_run rfl rfl (r_lssF rfl rfl (by omega)) ?_
  refine s_run rfl rfl (rmb rfl) ?_
  refine s_off rfl (g_off 25 (by kernel_rfl) rfl rfl) ?_
  refine s_off rfl (g_off 25 (by kernel_rfl) rfl rfl) ?_
  refine s_off rfl (g_off 25 (by kernel_rfl) rfl rfl) ?_
  refine s_off rfl (g_off 25 (by kernel_rfl) rfl rfl) ?_
  refine s_off rfl (g_off 25 (by kernel_rfl) rfl rfl) ?_
  refine s_off rfl (g_off 25 (by kernel_rfl) rfl rfl) ?_
  refine s_run rfl rfl (r_pkF (v := .bool _) rfl rfl) ?_
  refine k_nc ?_
  refine k_f rfl ?_
  refine k_skip ?_
  refine c_norm ?_
  refine k_sg ?_
  refine s_bs0 1 (by omega) H rfl Try.underlying22 inf3 ?_
  intro _ _ H'; clear H; have H := H'; clear H'
  refine s_run rfl rfl (rms rfl) ?_
  refine s_run rfl rfl (rmi rfl) ?_
  refine s_run rfl rfl (r_sloA rfl rfl rfl (by omega) Try.underlying22 sz3) ?_
  refine s_apps (enc := (Value.int .i64)) (xs := []) H 0 rfl rfl rfl rfl (hS2) ((by rw [List.length_drop, hl])) (fun _ => rfl) (by omega) Try.underlying22 inf3 rfl ?_
  intro _ _ _ hA H'; simp only [List.set_cons_zero, List.set_cons_succ, List.take_succ_cons, List.take_zero, List.drop_succ_cons, List.drop_zero, List.cons_append, List.nil_append, List.append_nil, List.length_cons, List.length_nil, Nat.reduceAdd] at H'; clear H; have H := H'; clear H'
  refine s_run rfl rfl (ras rfl) ?_
  refine k_nc ?_
  refine k_sg ?_
  refine s_run rfl rfl (rms rfl) ?_
  refine s_run rfl rfl (rmi rfl) ?_
  refine s_run rfl rfl (rmi rfl) ?_
  refine s_run rfl rfl (r_shm rfl rfl rfl rfl rfl (by omega) (by omega) Try.underlying22 sz3) ?_
  refine s_run rfl rfl (rmi rfl) ?_
  refine s_apF (enc := (Value.int .i64)) H ((hS0.later H.only (by simp)).head i) ((by rw [List.length_take]; omega)) rfl rfl rfl rfl rfl rfl (by omega) Try.underlying22 inf3 rfl ?_
  intro _ An cn _ H'; clear H; have H := H'; clear H'
  refine s_run rfl rfl (rms rfl) ?_
  refine s_apW (enc := (Value.int .i64)) H 0 rfl rfl rfl rfl ((H.own_sees 1 rfl)) ((by simp; omega)) (fun _ => rfl) (by omega) Try.underlying22 inf3 rfl ?_
  intro A2 c2 _ H'; simp only [List.set_cons_zero, List.set_cons_succ, List.take_succ_cons, List.take_zero, List.drop_succ_cons, List.drop_zero, List.cons_append, List.nil_append, List.append_nil, List.length_cons, List.length_nil, Nat.reduceAdd] at H'; clear H; have H := H'; clear H'
  refine s_run rfl rfl (ras rfl) ?_
  refine k_nc ?_
  refine k_ret ?_
  refine fin1r (v := .slice _ _ _) rfl rfl ?_
  have e3 : l.take i ++ [x] ++ l.drop i = rIns l x := by rw [hp]; simp
  rw [e3] at H
  have hcap := own_cap H 0 rfl
  refine ⟨A2, c2, by rw [hlen, Nat.zero_add], by rw [hlen]; omega, H.own_fresh 0 rfl hF, H.only⟩
end Go.Proofs.Ytpbimgopiammaaa
end

section
namespace Go.Proofs.Ytpbimgopiammaaa
open Go.RowKit
set_option maxRecDepth 100000
set_option maxHeartbeats 2000000
/-- events that are read -/
def EvS (A : Option Addr) (w : World) (l : List (Int × Int)) : Prop := l.length ≠ 0 → ∃ b o, A = some ⟨b, o, none⟩ ∧ evP b o w l
theorem EvS.later {A : Option Addr} {w W : World} {l : List (Int × Int)} (h : EvS A w l) (hO : Only [] w W) : EvS A W l := fun h0 => by
 obtain ⟨b, o, e, hr⟩ := h h0
 exact ⟨b, o, e, fun i x hx => (hr i x hx).later hO (by simp)⟩
theorem EvS.take {A : Option Addr} {w : World} {l : List (Int × Int)} (h : EvS A w l) (k : Nat) : EvS A w (l.take k) := fun h0 => by
 obtain ⟨b, o, e, hr⟩ := h (by rw [List.length_take] at h0; omega)
 refine ⟨b, o, e, fun i x hx => hr i x ?_⟩
 rw [List.getElem?_take] at hx
 split at hx
 ·exact hx
 ·cases hx
theorem rIns_len : ∀ (l : List Int) (x : Int), (rIns l x).length ≤ l.length + 1
 | [], x => by simp [rIns]
 | y :: l, x => by
  have := rIns_len l x
  unfold rIns
  split
  ·simp only [List.length_cons]; omega
  ·split
   ·simp
   ·simp
theorem rMarked_at {F : List Nat} (A : Option Addr) (n c : Nat) (l : List (Int × Int)) (w : World) (hS : EvS A w l) (hF : ∀ i ∈ F, i < w.heap.size) (hl : l.length = n) (hn : n ≤ 90000) :
  Calls Try.prog 47 [.slice A n c].toArray w fun e w' => ∃ A' c', e = .returned (.slice A' (rMarked l).length c') ∧ (rMarked l).length ≤ n ∧ Sees (Value.int .i64) w' F A' (rMarked l) ∧ Only [] w w' := by
 have H := Heap.nil w
 refine k_in (N := 37) Try.func47 rfl rfl rfl ?_
 refine k_sg ?_
 refine s_run rfl rfl (ras rfl) ?_
 refine k_nc ?_
 refine k_sg ?_
 refine s_run rfl rfl (ras rfl) ?_
 refine k_nc ?_
 refine k_seq ?_
 refine k_sg ?_
 refine s_run rfl rfl (rai rfl) ?_
 refine k_nc ?_
 refine k_b ?_
 refine k_loop (fun z f W => ∃ (i : Nat) (s : List Int) (A' : Option Addr) (c' : Nat), i ≤ n ∧ z = n - i ∧ s = rMarked (l.take i) ∧ s.length ≤ i ∧ s.length ≤ c' ∧ Sees (Value.int .i64) W F A' s ∧ f 0 = .slice A n c ∧ f 3 = .slice A' s.length c' ∧ f 4 = .int .i64 i ∧ Heap w [] [] W) n ⟨0, [], none, 0, by omega, rfl, rfl, by simp, by simp, Sees.nil, rfl, rfl, rfl, H⟩ ?_
 clear H
 rintro z f W ⟨i, s, A', c', hi, rfl, hs, hsl, hsc, hSs, f0, f3, f4, H⟩
 by_cases hlt : i < n
 ·obtain ⟨e, he⟩ : ∃ e, l[i]? = some e := ⟨_, List.getElem?_eq_getElem (by omega)⟩
  obtain ⟨b, o, hA, hrd⟩ := hS (by omega)
  have hc0 := hrd i e he 0 _ rfl
  have hc1 := hrd i e he 1 _ rfl
  have hst : rMarked (l.take (i + 1)) = rmk (rMarked (l.take i)) e := snoc_foldl rmk [] _ _ _ he
  rw [← hs] at hst
  rw [hA] at f0
  obtain ⟨f, rfl⟩ := live3 f0 f3 f4
  clear f0 f3 f4
  obtain ⟨k, m⟩ := e
  simp only at hc0 hc1
  unfold rmk at hst
  simp only at hst
  by_cases h0 : m < 0
  ·rw [if_pos h0] at hst
   refine k_seq ?_
   refine k_sg ?_
   refine s_run rfl rfl (rmi rfl) ?_
   refine s_run rfl rfl (rms rfl) ?_
   refine s_run rfl rfl (r_len rfl Try.underlying53) ?_
   refine s_run rfl rfl (r_lssT rfl rfl (by omega)) ?_
   refine k_nc ?_
   refine k_t rfl ?_
   refine k_skip ?_
   refine c_norm ?_
   refine k_seq ?_
   refine k_b ?_
   refine k_seq ?_
   refine k_sg ?_
   refine s_run rfl rfl (rms rfl) ?_
   refine s_run rfl rfl (rmi rfl) ?_
   refine s_run rfl rfl (r_ix (i := i) rfl rfl (by omega) (by omega) Try.underlying53 sz67) ?_
   refine s_run rfl rfl (r_fa rfl fo67_1) ?_
   refine s_run rfl rfl (r_lr H rfl hc1 (by simp) ag3) ?_
   refine s_run rfl rfl (r_lssT rfl rfl (by omega)) ?_
   refine k_nc ?_
   refine k_t rfl ?_
   refine k_exit ?_
   refine c_exit ?_
   refine b_hit ?_
   refine c_norm ?_
   refine k_rg ?_
   refine s_run rfl rfl (rmi rfl) ?_
   refine s_run rfl rfl (r_add rfl rfl (wI (by omega))) ?_
   refine s_run rfl rfl (rai rfl) ?_
   refine k_nil ?_
   refine c_round ?_
   refine ⟨_, _, ?_, rfl, i + 1, s, A', c', by omega, rfl, hst.symm, by omega, hsc, hSs, by rw [hA]; rfl, rfl, rfl, H⟩
   omega
  rw [if_neg h0] at hst
  by_cases k5 : k = 5
  ·rw [if_pos k5] at hst
   refine k_seq ?_
   refine k_sg ?_
   refine s_run rfl rfl (rmi rfl) ?_
   refine s_run rfl rfl (rms rfl) ?_
   refine s_run rfl rfl (r_len rfl Try.underlying53) ?_
   refine s_run rfl rfl (r_lssT rfl rfl (by omega)) ?_
   refine k_nc ?_
   refine k_t rfl ?_
   refine k_skip ?_
   refine c_norm ?_
   refine k_seq ?_
   refine k_b ?_
   refine k_seq ?_
   refine k_sg ?_
   refine s_run rfl rfl (rms rfl) ?_
   refine s_run rfl rfl (rmi rfl) ?_
   refine s_run rfl rfl (r_ix (i := i) rfl rfl (by omega) (by omega) Try.underlying53 sz67) ?_
   refine s_run rfl rfl (r_fa rfl fo67_1) ?_
   refine s_run rfl rfl (r_lr H rfl hc1 (by simp) ag3) ?_
   refine s_run rfl rfl (r_lssF rfl rfl (by omega)) ?_
   refine k_nc ?_
   refine k_f rfl ?_
   refine k_skip ?_
   refine c_norm ?_
   refine k_seq ?_
   refine k_sg ?_
   refine s_run rfl rfl (rms rfl) ?_
   refine s_run rfl rfl (rmi rfl) ?_
   refine s_run rfl rfl (r_ix (i := i) rfl rfl (by omega) (by omega) Try.underlying53 sz67) ?_
   refine s_run rfl rfl (r_fa rfl fo67_0) ?_
   refine s_run rfl rfl (r_lr H rfl hc0 (by simp) ag3) ?_
   refine s_run rfl rfl (r_eqlT rfl rfl (by omega)) ?_
   refine k_nc ?_
   refine k_t rfl ?_
   refine k_rg ?_
   refine s_run rfl rfl (ras rfl) ?_
   refine k_nc ?_
   refine k_sg ?_
   refine s_run rfl rfl (rms rfl) ?_
   refine s_run rfl rfl (rmi rfl) ?_
   refine s_run rfl rfl (r_ix (i := i) rfl rfl (by omega) (by omega) Try.underlying53 sz67) ?_
   refine s_run rfl rfl (r_fa rfl fo67_0) ?_
   refine s_run rfl rfl (r_lr H rfl hc0 (by simp) ag3) ?_
   refine s_run rfl rfl (r_eqlF rfl rfl (by omega)) ?_
   refine k_nc ?_
   refine k_f rfl ?_
   refine k_skip ?_
   refine b_norm ?_
   refine c_norm ?_
   refine k_rg ?_
   refine s_run rfl rfl (rmi rfl) ?_
   refine s_run rfl rfl (r_add rfl rfl (wI (by omega))) ?_
   refine s_run rfl rfl (rai rfl) ?_
   refine k_nil ?_
   refine c_round ?_
   refine ⟨_, _, ?_, rfl, i + 1, [], none, 0, by omega, rfl, hst.symm, by simp, by simp, Sees.nil, by rw [hA]; rfl, rfl, rfl, H⟩
   omega
  rw [if_neg k5] at hst
  by_cases k4 : k = 4
  ·rw [if_pos k4] at hst
   have hI := fun {W' : World} h h2 => rInsert (F := F) A' s.length c' s m W' h h2 rfl (by omega) hsc
   have hil := rIns_len s m
   refine k_seq ?_
   refine k_sg ?_
   refine s_run rfl rfl (rmi rfl) ?_
   refine s_run rfl rfl (rms rfl) ?_
   refine s_run rfl rfl (r_len rfl Try.underlying53) ?_
   refine s_run rfl rfl (r_lssT rfl rfl (by omega)) ?_
   refine k_nc ?_
   refine k_t rfl ?_
   refine k_skip ?_
   refine c_norm ?_
   refine k_seq ?_
   refine k_b ?_
   refine k_seq ?_
   refine k_sg ?_
   refine s_run rfl rfl (rms rfl) ?_
   refine s_run rfl rfl (rmi rfl) ?_
   refine s_run rfl rfl (r_ix (i := i) rfl rfl (by omega) (by omega) Try.underlying53 sz67) ?_
   refine s_run rfl rfl (r_fa rfl fo67_1) ?_
   refine s_run rfl rfl (r_lr H rfl hc1 (by simp) ag3) ?_
   refine s_run rfl rfl (r_lssF rfl rfl (by omega)) ?_
   refine k_nc ?_
   refine k_f rfl ?_
   refine k_skip ?_
   refine c_norm ?_
   refine k_seq ?_
   refine k_sg ?_
   refine s_run rfl rfl (rms rfl) ?_
   refine s_run rfl rfl (rmi rfl) ?_
   refine s_run rfl rfl (r_ix (i := i) rfl rfl (by omega) (by omega) Try.underlying53 sz67) ?_
   refine s_run rfl rfl (r_fa rfl fo67_0) ?_
   refine s_run rfl rfl (r_lr H rfl hc0 (by simp) ag3) ?_
   refine s_run rfl rfl (r_eqlF rfl rfl (by omega)) ?_
   refine k_nc ?_
   refine k_f rfl ?_
   refine k_skip ?_
   refine c_norm ?_
   refine k_sg ?_
   refine s_run rfl rfl (rms rfl) ?_
   refine s_run rfl rfl (rmi rfl) ?_
   refine s_run rfl rfl (r_ix (i := i) rfl rfl (by omega) (by omega) Try.underlying53 sz67) ?_
   refine s_run rfl rfl (r_fa rfl fo67_0) ?_
   refine s_run rfl rfl (r_lr H rfl hc0 (by simp) ag3) ?_
   refine s_run rfl rfl (r_eqlT rfl rfl (by omega)) ?_
   refine k_nc ?_
   refine k_t rfl ?_
   refine k_rg ?_
   refine s_run rfl rfl (rms rfl) ?_
   refine s_run rfl rfl (rms rfl) ?_
   refine s_run rfl rfl (rmi rfl) ?_
   refine s_run rfl rfl (r_ix (i := i) rfl rfl (by omega) (by omega) Try.underlying53 sz67) ?_
   refine s_run rfl rfl (r_fa rfl fo67_1) ?_
   refine s_run rfl rfl (r_lr H rfl hc1 (by simp) ag3) ?_
   refine s_call rfl (hI hSs (fun i h => Nat.lt_of_lt_of_le (hF i h) H.only.size)) (ca45 rfl) ?_
   rintro e W1 ⟨A2, c2, rfl, hc2, hS2, H'⟩
   refine ⟨_, rfl, ?_⟩
   have H := H.same H'; clear H'
   refine s_run rfl rfl (ras rfl) ?_
   refine k_nil ?_
   refine b_norm ?_
   refine c_norm ?_
   refine k_rg ?_
   refine s_run rfl rfl (rmi rfl) ?_
   refine s_run rfl rfl (r_add rfl rfl (wI (by omega))) ?_
   refine s_run rfl rfl (rai rfl) ?_
   refine k_nil ?_
   refine c_round ?_
   refine ⟨_, _, ?_, rfl, i + 1, _, A2, c2, by omega, rfl, hst.symm, by omega, hc2, hS2, by rw [hA]; rfl, rfl, rfl, H⟩
   omega
  ·rw [if_neg k4] at hst
   refine k_seq ?_
   refine k_sg ?_
   refine s_run rfl rfl (rmi rfl) ?_
   refine s_run rfl rfl (rms rfl) ?_
   refine s_run rfl rfl (r_len rfl Try.underlying53) ?_
   refine s_run rfl rfl (r_lssT rfl rfl (by omega)) ?_
   refine k_nc ?_
   refine k_t rfl ?_
   refine k_skip ?_
   refine c_norm ?_
   refine k_seq ?_
   refine k_b ?_
   refine k_seq ?_
   refine k_sg ?_
   refine s_run rfl rfl (rms rfl) ?_
   refine s_run rfl rfl (rmi rfl) ?_
   refine s_run rfl rfl (r_ix (i := i) rfl rfl (by omega) (by omega) Try.underlying53 sz67) ?_
   refine s_run rfl rfl (r_fa rfl fo67_1) ?_
   refine s_run rfl rfl (r_lr H rfl hc1 (by simp) ag3) ?_
   refine s_run rfl rfl (r_lssF rfl rfl (by omega)) ?_
   refine k_nc ?_
   refine k_f rfl ?_
   refine k_skip ?_
   refine c_norm ?_
   refine k_seq ?_
   refine k_sg ?_
   refine s_run rfl rfl (rms rfl) ?_
   refine s_run rfl rfl (rmi rfl) ?_
   refine s_run rfl rfl (r_ix (i := i) rfl rfl (by omega) (by omega) Try.underlying53 sz67) ?_
   refine s_run rfl rfl (r_fa rfl fo67_0) ?_
   refine s_run rfl rfl (r_lr H rfl hc0 (by simp) ag3) ?_
   refine s_run rfl rfl (r_eqlF rfl rfl (by omega)) ?_
   refine k_nc ?_
   refine k_f rfl ?_
   refine k_skip ?_
   refine c_norm ?_
   refine k_sg ?_
   refine s_run rfl rfl (rms rfl) ?_
   refine s_run rfl rfl (rmi rfl) ?_
   refine s_run rfl rfl (r_ix (i := i) rfl rfl (by omega) (by omega) Try.underlying53 sz67) ?_
   refine s_run rfl rfl (r_fa rfl fo67_0) ?_
   refine s_run rfl rfl (r_lr H rfl hc0 (by simp) ag3) ?_
   refine s_run rfl rfl (r_eqlF rfl rfl (by omega)) ?_
   refine k_nc ?_
   refine k_f rfl ?_
   refine k_skip ?_
   refine b_norm ?_
   refine c_norm ?_
   refine k_rg ?_
   refine s_run rfl rfl (rmi rfl) ?_
   refine s_run rfl rfl (r_add rfl rfl (wI (by omega))) ?_
   refine s_run rfl rfl (rai rfl) ?_
   refine k_nil ?_
   refine c_round ?_
   refine ⟨_, _, ?_, rfl, i + 1, s, A', c', by omega, rfl, hst.symm, by omega, hsc, hSs, by rw [hA]; rfl, rfl, rfl, H⟩
   omega
 ·obtain rfl : i = n := by omega
  have et : l.take i = l := by rw [← hl]; exact List.take_length
  rw [et] at hs
  subst hs
  obtain ⟨f, rfl⟩ := live3 f0 f3 f4
  clear f0 f3 f4
  refine k_seq ?_
  refine k_sg ?_
  refine s_run rfl rfl (rmi rfl) ?_
  refine s_run rfl rfl (rms rfl) ?_
  refine s_run rfl rfl (r_len rfl Try.underlying53) ?_
  refine s_run rfl rfl (r_lssF rfl rfl (by omega)) ?_
  refine k_nc ?_
  refine k_f rfl ?_
  refine k_exit ?_
  refine c_exit ?_
  refine c_exit ?_
  refine b_hit ?_
  refine c_norm ?_
  refine k_sg ?_
  refine s_run rfl rfl (rms rfl) ?_
  refine s_run rfl rfl (ras rfl) ?_
  refine k_nc ?_
  refine k_ret ?_
  refine fin1r (v := .slice _ _ _) rfl rfl ?_
  exact ⟨A', c', rfl, hsl, hSs, H.only⟩
end Go.Proofs.Ytpbimgopiammaaa
end

section
namespace Go.Proofs.Ytpbimgopiammaaa
open Go.RowKit
set_option maxRecDepth 100000
set_option maxHeartbeats 4000000
theorem chk_snoc (l : List (Int × Int)) (i : Nat) (e : Int × Int) (he : l[i]? = some e) : (chk (l.take (i + 1))).faults = (chk (l.take i)).faults ++ rflt (l.take i) e := by
 have h : chk (l.take (i + 1)) = (chk (l.take i)).step e.1 e.2 := snoc_foldl (fun (s : Ck) (e : Int × Int) => s.step e.1 e.2) ck0 l i e he
 rw [h]
 exact chk_faults _ _ _
/-- what is read beside entries that change is read as it was -/
theorem sees_on {α : Type} {enc : α → Value} {W W' : World} {L L' : List Ent} {A : Option Addr} {xs : List α} (h : Sees enc W (ids L) A xs) (H : Heap W (ids L) L' W') : Sees enc W' (ids L') A xs := by
 have h2 := h.news (G := ids L ++ ids L') (fun i hi => by
  rcases List.mem_append.1 hi with h1 | h1
  ·exact .inl h1
  ·exact H.own i h1)
 exact (h2.later H.only (fun i hi => List.mem_append_left _ hi)).mono (fun i hi => List.mem_append_right _ hi)
end Go.Proofs.Ytpbimgopiammaaa
end

section
namespace Go.Proofs.Ytpbimgopiammaaa
open Go.RowKit
set_option maxRecDepth 100000
set_option maxHeartbeats 2000000
section
variable {P : Program} {n : Sz} {f : Nat → Value} {W w0 : World} {dst : Option Tmp} {ty : TypeId} {pos : String} {af : Array Edge} {g : Option (Nat × Bool)} {x y : Operand} {t t2 e1 e2 e3 : TypeId}
theorem run_st3 {k1 k2 k3 q1 q2 q3 : IntKind} {a b c a' b' c' : Int} (ht : P.underlying t = some (.struct (P.fieldsOf t))) (hp : P.stoodInHeld t = false)
  (hf : (P.fieldsOf t).toList.map (fun f => (f.name != "_", f.type, f.offset)) = [(true, e1, 0), (true, e2, 1), (true, e3, 2)]) (h1 : P.underlying e1 = some (.int q1)) (h2 : P.underlying e2 = some (.int q2)) (h3 : P.underlying e3 = some (.int q3)) (D : Nat) :
  (Op.equalIn (D + 2) t (.agg [.int k1 a, .int k2 b, .int k3 c].toArray) (.agg [.int k1 a', .int k2 b', .int k3 c'].toArray)).run P W = .ok (decide (a = a' ∧ b = b' ∧ c = c')) W := by
 rw [run_equalIn_struct W (D + 1) t _ _ ht hp]
 generalize (P.fieldsOf t).toList = fs at hf
 obtain ⟨f1, f2, f3, rfl⟩ : ∃ f1 f2 f3, fs = [f1, f2, f3] := by
  have := congrArg List.length hf
  simp only [List.length_map, List.length_cons, List.length_nil] at this
  rcases fs with _ | ⟨f1, _ | ⟨f2, _ | ⟨f3, _ | ⟨f4, fs⟩⟩⟩⟩
  ·simp at this
  ·simp at this
  ·simp at this
  ·exact ⟨f1, f2, f3, rfl⟩
  ·simp at this
 simp only [List.map_cons, List.map_nil, List.cons.injEq, Prod.mk.injEq, and_true, bne_iff_ne] at hf
 obtain ⟨⟨n1, rfl, o1⟩, ⟨n2, rfl, o2⟩, n3, rfl, o3⟩ := hf
 have p1 : ∀ (W : World) (u v z : Value), (part f1.type [u, v, z].toArray f1.offset).run P W = .ok u W := by
  intro W u v z; simp [part, isAgg, run_underlying h1, o1]
 have p2 : ∀ (W : World) (u v z : Value), (part f2.type [u, v, z].toArray f2.offset).run P W = .ok v W := by
  intro W u v z; simp [part, isAgg, run_underlying h2, o2]
 have p3 : ∀ (W : World) (u v z : Value), (part f3.type [u, v, z].toArray f3.offset).run P W = .ok z W := by
  intro W u v z; simp [part, isAgg, run_underlying h3, o3]
 simp only [Op.eqFields, n1, n2, n3, ne_eq, not_false_eq_true, if_true, Sem.run_bind, p1, p2, p3, Result.andThen_ok, run_equalIn_int W D f1.type k1 q1 _ _ h1]
 by_cases c1 : a = a'
 ·by_cases c2 : b = b'
  ·by_cases c3 : c = c'
   ·simp [c1, c2, c3, Op.eqFields, p2, p3, run_equalIn_int W D f2.type k2 q2 _ _ h2, run_equalIn_int W D f3.type k3 q3 _ _ h3]
   ·simp [c1, c2, c3, Op.eqFields, p2, p3, run_equalIn_int W D f2.type k2 q2 _ _ h2, run_equalIn_int W D f3.type k3 q3 _ _ h3]
  ·simp [c1, c2, Op.eqFields, p2, run_equalIn_int W D f2.type k2 q2 _ _ h2]
 ·simp [c1]
theorem r_st3 {k1 k2 k3 q1 q2 q3 : IntKind} {a b c a' b' c' : Int} (hx : ev n f x = .agg [.int k1 a, .int k2 b, .int k3 c].toArray) (hy : ev n f y = .agg [.int k1 a', .int k2 b', .int k3 c'].toArray) (ht : P.underlying t = some (.struct (P.fieldsOf t))) (hp : P.stoodInHeld t = false) (hg : P.eqGuardType P.depth t = false)
  (hf : (P.fieldsOf t).toList.map (fun f => (f.name != "_", f.type, f.offset)) = [(true, e1, 0), (true, e2, 1), (true, e3, 2)]) (h1 : P.underlying e1 = some (.int q1)) (h2 : P.underlying e2 = some (.int q2)) (h3 : P.underlying e3 = some (.int q3)) {q : Bool} (hq : decide (a = a' ∧ b = b' ∧ c = c') = q) :
  (execOp (ev n f) ⟨dst, .binOp .eql t x y t2, ty, pos, af, g⟩).run P W = .ok (.value (.bool q)) W := by
 subst hq
 have h := run_st3 (W := W) (k1 := k1) (k2 := k2) (k3 := k3) (a := a) (b := b) (c := c) (a' := a') (b' := b') (c' := c') ht hp hf h1 h2 h3 9998
 have h2 : (binOp .eql t (.agg [.int k1 a, .int k2 b, .int k3 c].toArray) (.agg [.int k1 a', .int k2 b', .int k3 c'].toArray)).run P W = .ok (.bool (decide (a = a' ∧ b = b' ∧ c = c'))) W := by
  rw [run_eql_struct, h]; rfl
 have h3 := run_eqGuard_agg W .eql t x y [Value.int k1 a, .int k2 b, .int k3 c].toArray [Value.int k1 a', .int k2 b', .int k3 c'].toArray hg
 simp only [execOp, hx, hy, Sem.run_bind, h3, h2, Result.andThen_ok]
 rfl
end
def exE : List (Int × Int) := [(1, 3), (4, 3), (5, 0)]
theorem exE_f : (chk exE).faults = [⟨2, 3, 1⟩] := by
 simp [chk, exE, Ck.step, ck0, Ck.bump, mput, Ck.commit, srt, Ck.cm1, mget, Ck.fault]
theorem awake35 (w : World) : Calls Try.prog 17 [].toArray w fun e w' => e = .returned (.bool true) ∧ Only [] w w' := by
 have H := Heap.nil w
 refine k_in (N := 23) Try.func17 rfl rfl rfl ?_
 refine k_sg ?_
 refine s_run rfl rfl (rab rfl) ?_
 refine k_nc ?_
 refine k_sg ?_
 refine s_run rfl rfl (r_bd (bd49_0_1 _ _) rfl) ?_
 refine s_run rfl rfl (r_bd (bd49_0_1 _ _) rfl) ?_
 refine s_run rfl rfl (r_bd (bd49_0 _) rfl) ?_
 refine s_bsM (enc := C1.v) (size := 2) (zs := [C1.i .i64 1, C1.i .i64 3, C1.i .i64 4, C1.i .i64 3, C1.i .i64 5, C1.i .i64 0]) H rfl rfl rfl (by omega) (by omega) (by kernel_rfl) Try.underlying44 inf49 ?_
 intro b8 W8 H'
 clear H; have H := H'; clear H'
 have hS : exE.length ≠ 0 → ∃ b o, (some ⟨b8, 0, none⟩ : Option Addr) = some ⟨b, o, none⟩ ∧ evP b o W8 exE := by
  intro _
  obtain ⟨b, e, _, hr⟩ := H.own_seesN 0 rfl (by simp)
  injection e with e
  injection e with e _ _
  subst e
  refine ⟨b8, 0, rfl, fun i x hi j u hj => ?_⟩
  match i, j, hi, hj with
  | 0, 0, hi, hj => simp [exE] at hi; subst hi; simp at hj; subst hj; exact hr 0 _ rfl
  | 0, 1, hi, hj => simp [exE] at hi; subst hi; simp at hj; subst hj; exact hr 1 _ rfl
  | 1, 0, hi, hj => simp [exE] at hi; subst hi; simp at hj; subst hj; exact hr 2 _ rfl
  | 1, 1, hi, hj => simp [exE] at hi; subst hi; simp at hj; subst hj; exact hr 3 _ rfl
  | 2, 0, hi, hj => simp [exE] at hi; subst hi; simp at hj; subst hj; exact hr 4 _ rfl
  | 2, 1, hi, hj => simp [exE] at hi; subst hi; simp at hj; subst hj; exact hr 5 _ rfl
  | 0, j + 2, hi, hj => simp at hj
  | 1, j + 2, hi, hj => simp at hj
  | 2, j + 2, hi, hj => simp at hj
  | i + 3, j, hi, hj => simp [exE] at hi
 have hC := oCheck (some ⟨b8, 0, none⟩) 3 3 exE W8 hS rfl (by omega) (by simp [exE])
 rw [exE_f] at hC
 simp only [List.length_cons, List.length_nil, Nat.reduceAdd, Nat.zero_add, show fltN [⟨2, 3, 1⟩] = [C1.i .i64 2, C1.i .i64 3, C1.i .i64 1] from rfl] at hC
 refine s_call rfl (hC) (ca27 rfl) ?_
 rintro e W1 ⟨FA, fc, rfl, H'⟩
 refine ⟨_, rfl, ?_⟩
 have H := H.more H'; clear H'
 refine s_run rfl rfl (ras rfl) ?_
 refine k_nc ?_
 refine k_seq ?_
 obtain ⟨pa, rfl, _, hrd⟩ := H.own_seesN 0 rfl (by simp)
 refine k_rg ?_
 refine s_run rfl rfl (rms rfl) ?_
 refine s_run rfl rfl (r_len rfl Try.underlying58) ?_
 refine s_run rfl rfl (r_eqlT rfl rfl (by omega)) ?_
 refine s_run rfl rfl (rmb rfl) ?_
 refine s_run rfl (g_on 10 (by kernel_rfl) rfl) (rms rfl) ?_
 refine s_run rfl (g_on 10 (by kernel_rfl) rfl) (r_ix0 (i := 0) rfl rfl (by omega) (by omega) Try.underlying58 sz69) ?_
 refine s_run rfl (g_on 10 (by kernel_rfl) rfl) (r_lA (enc := C1.v) (zs := [C1.i .i64 2, C1.i .i64 3, C1.i .i64 1]) hrd rfl rfl ag69 sz69) ?_
 refine s_run rfl (g_on 10 (by kernel_rfl) rfl) (r_bd (bd69_0_1_2 _ _ _) rfl) ?_
 refine s_run rfl (g_on 10 (by kernel_rfl) rfl) (r_st3 (q := true) rfl rfl (by kernel_rfl) (by kernel_rfl) (by kernel_rfl) (by kernel_rfl) Try.underlying3 Try.underlying3 Try.underlying3 (by simp)) ?_
 refine s_run rfl rfl (r_pkT (v := .bool _) rfl rfl) ?_
 refine s_run rfl rfl (rmb rfl) ?_
 refine s_run rfl rfl (r_pkT (v := .bool _) rfl rfl) ?_
 refine s_run rfl rfl (rmb rfl) ?_
 refine s_run rfl rfl (r_pkT (v := .bool _) rfl rfl) ?_
 refine s_run rfl rfl (rmb rfl) ?_
 refine s_run rfl rfl (r_pkT (v := .bool _) rfl rfl) ?_
 refine s_run rfl rfl (rab rfl) ?_
 refine k_nc ?_
 refine k_ret ?_
 refine fin1r (v := .bool _) rfl rfl ?_
 exact ⟨rfl, H.only⟩
end Go.Proofs.Ytpbimgopiammaaa
end

section
namespace Go.Proofs.Ytpbimgopiammaaa
open Go.RowKit
set_option maxRecDepth 100000
set_option maxHeartbeats 2000000
end Go.Proofs.Ytpbimgopiammaaa
end

section
namespace Go.Proofs.Ytpbimgopiammaaa
open Go.RowKit
set_option maxRecDepth 100000
set_option maxHeartbeats 2000000
def evC (l : List (Int × Int)) : List C1 := l.flatMap fun e => [C1.i .i64 e.1, C1.i .i64 e.2]
theorem evC_get : ∀ (l : List (Int × Int)) (i : Nat) (e : Int × Int), l[i]? = some e → (evC l)[i * 2]? = some (C1.i .i64 e.1) ∧ (evC l)[i * 2 + 1]? = some (C1.i .i64 e.2)
 | [], i, e, h => by simp at h
 | x :: l, 0, e, h => by simp at h; subst h; exact ⟨rfl, rfl⟩
 | x :: l, i + 1, e, h => by
  have := evC_get l i e (by simpa using h)
  rw [show (i + 1) * 2 = i * 2 + 2 by omega]
  exact this
theorem evC_len (l : List (Int × Int)) : (evC l).length = l.length * 2 := by
 induction l with
 | nil => rfl
 | cons x l ih => simp [evC] at ih ⊢; omega
theorem ev_own {A : Option Addr} {n c : Nat} {l : List (Int × Int)} {T : TypeId} {w0 W : World} {F : List Nat} {L : List Ent} (H : Heap w0 F L W) (j : Nat) (hj : L[j]? = some (ownN 2 (.slice A n c) n ((evC l).map C1.v) T)) : EvS A W l := by
 intro h0
 obtain ⟨b, e, _, hr⟩ := H.own_seesN j hj (by rw [evC_len]; omega)
 refine ⟨b, 0, e, fun i x hx k z hz => ?_⟩
 obtain ⟨g1, g2⟩ := evC_get l i x hx
 match k, hz with
 | 0, hz => simp at hz; subst hz; exact hr _ _ g1
 | 1, hz => simp at hz; subst hz; have := hr _ _ g2; rw [Nat.zero_add] at this ⊢; exact this
 | k + 2, hz => simp at hz
theorem lRefs (A : Option Addr) (n c : Nat) (l : List (Int × Int)) (w : World) (hS : EvS A w l) (hl : l.length = n) (hn : n ≤ 90000) :
  Calls Try.prog 23 [.slice A n c].toArray w fun e w' => ∃ A' c', e = .returned (.slice A' n c') ∧ n ≤ c' ∧ Heap w [] [ownN 2 (.slice A' n c') n ((evC l).map C1.v) 67] w' := by
 have H := Heap.nil w
 refine k_in (N := 26) Try.func23 rfl rfl rfl ?_
 refine k_sg ?_
 refine s_run rfl rfl (ras rfl) ?_
 refine k_nc ?_
 refine k_sg ?_
 refine s_run rfl rfl (ras rfl) ?_
 refine k_nc ?_
 refine k_seq ?_
 refine k_sg ?_
 refine s_run rfl rfl (rai rfl) ?_
 refine k_nc ?_
 refine k_b ?_
 replace H := H.own_nil 2 67
 refine k_loop (fun z f W => ∃ (i : Nat) (A' : Option Addr) (c' : Nat), i ≤ n ∧ z = n - i ∧ f 0 = .slice A n c ∧ f 3 = .slice A' i c' ∧ f 4 = .int .i64 i ∧ Heap w [] [ownN 2 (.slice A' i c') i ((evC (l.take i)).map C1.v) 67] W) n ⟨0, none, 0, by omega, rfl, rfl, rfl, rfl, H⟩ ?_
 clear H
 rintro z f W ⟨i, A', c', hi, rfl, f0, f3, f4, H⟩
 by_cases hlt : i < n
 ·obtain ⟨e, he⟩ : ∃ e, l[i]? = some e := ⟨_, List.getElem?_eq_getElem (by omega)⟩
  obtain ⟨b, o, hA, hrd⟩ := hS (by omega)
  have hc0 := hrd i e he 0 _ rfl
  have hc1 := hrd i e he 1 _ rfl
  have e3 : evC (l.take i) ++ [C1.i .i64 e.1, C1.i .i64 e.2] = evC (l.take (i + 1)) := by rw [← tk_snoc he]; simp [evC]
  rw [hA] at f0
  obtain ⟨f, rfl⟩ := live3 f0 f3 f4
  clear f0 f3 f4
  refine k_seq ?_
  refine k_sg ?_
  refine s_run rfl rfl (rmi rfl) ?_
  refine s_run rfl rfl (rms rfl) ?_
  refine s_run rfl rfl (r_len rfl Try.underlying44) ?_
  refine s_run rfl rfl (r_lssT rfl rfl (by omega)) ?_
  refine k_nc ?_
  refine k_t rfl ?_
  refine k_skip ?_
  refine c_norm ?_
  refine k_seq ?_
  refine k_b ?_
  refine k_trF mixed ?_; have H' := H.drew; clear H; have H := H'; clear H'
  refine tqh 0 rfl rfl rfl (fun _ hS => r_mv (v := .slice _ _ _) rfl) trivial ?_
  refine tqh 1 rfl rfl rfl (fun _ hS => r_mv (v := .slice _ _ _) rfl) trivial ?_
  refine tqh 2 rfl rfl rfl (fun _ hS => r_mv (v := .int _ _) rfl) trivial ?_
  refine tqh 3 rfl rfl rfl (fun _ hS => r_ix (i := i) rfl rfl (by omega) (by omega) Try.underlying44 sz49) trivial ?_
  refine tqh 4 rfl rfl rfl (fun _ hS => r_fa rfl fo49_0) trivial ?_
  refine tqh 6 rfl rfl rfl (fun _ hS => r_mv (v := .slice _ _ _) rfl) trivial ?_
  refine tqh 7 rfl rfl rfl (fun _ hS => r_mv (v := .int _ _) rfl) trivial ?_
  refine tqh 8 rfl rfl rfl (fun _ hS => r_ix (i := i) rfl rfl (by omega) (by omega) Try.underlying44 sz49) trivial ?_
  refine tqh 9 rfl rfl rfl (fun _ hS => r_fa rfl fo49_1) trivial ?_
  refine t_up2 5 10 (by kernel_rfl) ?_ ?_
  ·refine up_mk rfl ?_
   refine s_run rfl rfl (r_lr H rfl hc0 (by simp) ag3) ?_
   refine k_nil ?_
   refine t_on trivial ?_
   refine t_up1 10 (by kernel_rfl) ?_
   refine up_mk rfl ?_
   refine s_run rfl rfl (r_lr H rfl hc1 (by simp) ag3) ?_
   refine k_nil ?_
   refine t_on trivial ?_
   refine tqh 11 rfl rfl rfl (fun _ hS => r_bd (bd67_0_1 _ _) rfl) trivial ?_
   refine t_up1 12 (by kernel_rfl) ?_
   refine up_mk rfl ?_
   refine s_bsN (enc := C1.v) (size := 2) (zs := [C1.i .i64 e.1, C1.i .i64 e.2]) H rfl rfl rfl (by omega) (by kernel_rfl) Try.underlying53 inf67 ?_
   intro _ _ H'; clear H; have H := H'; clear H'
   refine k_nil ?_
   refine t_on trivial ?_
   refine t_up1 13 (by kernel_rfl) ?_
   refine up_mk rfl ?_
   refine s_apB (enc := C1.v) (size := 2) H 0 rfl rfl rfl rfl C1.one (by omega) (by omega) Try.underlying53 inf67 rfl ?_
   intro A2 c2 _ H'; simp only [List.set_cons_zero, List.set_cons_succ, List.take_succ_cons, List.take_zero, List.drop_succ_cons, List.drop_zero, List.cons_append, List.nil_append, List.append_nil, List.length_cons, List.length_nil, Nat.reduceAdd] at H'; clear H; have H := H'; clear H'
   refine k_nil ?_
   refine t_on trivial ?_
   refine tqh 14 rfl rfl rfl (fun _ hS => r_as (v := .slice _ _ _) rfl) trivial ?_
   refine t_done (by kernel_rfl) ?_
   refine b_norm ?_
   refine c_norm ?_
   refine k_rg ?_
   refine s_run rfl rfl (rmi rfl) ?_
   refine s_run rfl rfl (r_add rfl rfl (wI (by omega))) ?_
   refine s_run rfl rfl (rai rfl) ?_
   refine k_nil ?_
   refine c_round ?_
   rw [e3] at H; exact ⟨_, _, by omega, rfl, i + 1, A2, c2, by omega, rfl, by rw [hA]; rfl, rfl, rfl, H⟩
  ·refine up_mk rfl ?_
   refine s_run rfl rfl (r_lr H rfl hc1 (by simp) ag3) ?_
   refine k_nil ?_
   refine t_on trivial ?_
   refine t_up1 5 (by kernel_rfl) ?_
   refine up_mk rfl ?_
   refine s_run rfl rfl (r_lr H rfl hc0 (by simp) ag3) ?_
   refine k_nil ?_
   refine t_on trivial ?_
   refine tqh 11 rfl rfl rfl (fun _ hS => r_bd (bd67_0_1 _ _) rfl) trivial ?_
   refine t_up1 12 (by kernel_rfl) ?_
   refine up_mk rfl ?_
   refine s_bsN (enc := C1.v) (size := 2) (zs := [C1.i .i64 e.1, C1.i .i64 e.2]) H rfl rfl rfl (by omega) (by kernel_rfl) Try.underlying53 inf67 ?_
   intro _ _ H'; clear H; have H := H'; clear H'
   refine k_nil ?_
   refine t_on trivial ?_
   refine t_up1 13 (by kernel_rfl) ?_
   refine up_mk rfl ?_
   refine s_apB (enc := C1.v) (size := 2) H 0 rfl rfl rfl rfl C1.one (by omega) (by omega) Try.underlying53 inf67 rfl ?_
   intro A2 c2 _ H'; simp only [List.set_cons_zero, List.set_cons_succ, List.take_succ_cons, List.take_zero, List.drop_succ_cons, List.drop_zero, List.cons_append, List.nil_append, List.append_nil, List.length_cons, List.length_nil, Nat.reduceAdd] at H'; clear H; have H := H'; clear H'
   refine k_nil ?_
   refine t_on trivial ?_
   refine tqh 14 rfl rfl rfl (fun _ hS => r_as (v := .slice _ _ _) rfl) trivial ?_
   refine t_done (by kernel_rfl) ?_
   refine b_norm ?_
   refine c_norm ?_
   refine k_rg ?_
   refine s_run rfl rfl (rmi rfl) ?_
   refine s_run rfl rfl (r_add rfl rfl (wI (by omega))) ?_
   refine s_run rfl rfl (rai rfl) ?_
   refine k_nil ?_
   refine c_round ?_
   rw [e3] at H; exact ⟨_, _, by omega, rfl, i + 1, A2, c2, by omega, rfl, by rw [hA]; rfl, rfl, rfl, H⟩
 ·obtain rfl : i = n := by omega
  have et : l.take i = l := by rw [← hl]; exact List.take_length
  rw [et] at H
  obtain ⟨f, rfl⟩ := live3 f0 f3 f4
  clear f0 f3 f4
  refine k_seq ?_
  refine k_sg ?_
  refine s_run rfl rfl (rmi rfl) ?_
  refine s_run rfl rfl (rms rfl) ?_
  refine s_run rfl rfl (r_len rfl Try.underlying44) ?_
  refine s_run rfl rfl (r_lssF rfl rfl (by omega)) ?_
  refine k_nc ?_
  refine k_f rfl ?_
  refine k_exit ?_
  refine c_exit ?_
  refine c_exit ?_
  refine b_hit ?_
  refine c_norm ?_
  refine k_sg ?_
  refine s_run rfl rfl (rms rfl) ?_
  refine s_run rfl rfl (ras rfl) ?_
  refine k_nc ?_
  refine k_ret ?_
  refine fin1r (v := .slice _ _ _) rfl rfl ?_
  exact ⟨A', c', rfl, own_cap H 0 rfl, H⟩
theorem flt_get : ∀ (l : List Flt) (i : Nat) (x : Flt), l[i]? = some x → (fltN l)[i * 3]? = some (C1.i .i64 x.at_) ∧ (fltN l)[i * 3 + 1]? = some (C1.i .i64 x.line) ∧ (fltN l)[i * 3 + 2]? = some (C1.i .i64 x.kind)
 | [], i, e, h => by simp at h
 | x :: l, 0, e, h => by simp at h; subst h; exact ⟨rfl, rfl, rfl⟩
 | x :: l, i + 1, e, h => by
  have := flt_get l i e (by simpa using h)
  rw [show (i + 1) * 3 = i * 3 + 3 by omega]
  exact this
end Go.Proofs.Ytpbimgopiammaaa
end

section
namespace Go.Proofs.Ytpbimgopiammaaa
open Go.RowKit
structure EvT where
 f0 : Int
 f1 : Int
def EvT.cells (u : EvT) : List Value := [.int .i64 u.f0, .int .i64 u.f1]
structure EvTOk (w : World) (u : EvT) : Prop where
 w0 : (Lit.int .i64 u.f0).wf = true
 w1 : (Lit.int .i64 u.f1).wf = true
def ScriptEvT (w : World) (A : Option Addr) (ops : List EvT) : Prop := (ops.length ≠ 0 → ∃ b o, A = some ⟨b, o, none⟩ ∧ ∀ i op, ops[i]? = some op → Reads (fun v : Value => v) w b (o + i * 2) op.cells) ∧ ∀ op ∈ ops, EvTOk w op
theorem EvTOk.later {w W : World} {u : EvT} (h : EvTOk w u) (hO : Only [] w W) : EvTOk W u := ⟨h.w0, h.w1⟩
theorem ScriptEvT.later {w W : World} {A : Option Addr} {ops : List EvT} (h : ScriptEvT w A ops) (hO : Only [] w W) : ScriptEvT W A ops :=
 ⟨fun h0 => by
  obtain ⟨b, o, e, hr⟩ := h.1 h0
  exact ⟨b, o, e, fun i op hi => (hr i op hi).later hO (by simp)⟩, fun op hop => (h.2 op hop).later hO⟩
section
open Go.ChangeShapes Go.WideShapes Go.Deep
variable {H : Type} {enc : TypeId × Value → H} {w : World} {base : Nat} {spare : Nat → Bool} {held : Bool}
set_option maxRecDepth 100000 in
theorem open_EvT {fuel : Nat} {cs : List Value} {y : DataW H × List MemPlace} (h : DataW.trod enc Try.prog w base spare held fuel 49 cs = some y) : ∃ op : EvT, cs = op.cells ∧ EvTOk w op := by
 obtain ⟨xs, n, _, _, hl, hlen, hg⟩ := DataW.trod_struct Try.underlying49 h
 have hone := o_one Try.underlying49 (by kernel_rfl)
 have hcl : cs.length = 2 := hl.trans (by kernel_rfl)
 replace hlen : xs.length = 2 := hlen
 match cs, hcl, xs, hlen with
 | [c0, c1], _, [y0, y1], _ =>
  obtain ⟨o0, k0⟩ := hone_of hone 0 _ rfl
  obtain ⟨o1, k1⟩ := hone_of hone 1 _ rfl
  have g0 := hg 0 _ rfl
  have g1 := hg 1 _ rfl
  rw [o0, k0] at g0
  rw [o1, k1] at g1
  replace g0 := g0.trans (show _ = some y0 from rfl)
  replace g1 := g1.trans (show _ = some y1 from rfl)
  obtain ⟨z0, e0, _, w0⟩ := DataW.trod_int Try.underlying3 g0
  obtain ⟨z1, e1, _, w1⟩ := DataW.trod_int Try.underlying3 g1
  obtain rfl : c0 = .int .i64 z0 := by simpa using e0
  obtain rfl : c1 = .int .i64 z1 := by simpa using e1
  exact ⟨⟨z0, z1⟩, rfl, w0, w1⟩
set_option maxRecDepth 100000 in
theorem opens_EvT (W : World) {r : Reach} (b0 : Nat) (v : Value) (d : DataW H) (p : List MemPlace)
  (hv : Value.okWide Try.prog W r b0 44 v) (h : DataW.Trod enc Try.prog W base spare held 44 v d p) :
  ∃ x : Option Addr × Nat × Nat × List EvT, v = .slice x.1 x.2.1 x.2.2.1 ∧ (ScriptEvT W x.1 x.2.2.2 ∧ x.2.2.2.length = x.2.1 ∧ x.2.1 ≤ 9223372036854775807 ∧ x.2.1 ≤ x.2.2.1) := by
 obtain ⟨a, len, cap, rfl⟩ := okWide_slice Try.underlying44 hv
 obtain ⟨fuel, hf⟩ := h
 have c5 : Try.prog.cellsOf 49 = 2 := by kernel_rfl
 rcases open_slice Try.underlying44 hf with ⟨hcs, _⟩ | ⟨x, l, c, m, n, D, Pl, hcs, _, hl, hm, hmm, _, hx⟩
 ·simp [Value.cells] at hcs
  obtain ⟨rfl, rfl, rfl⟩ := hcs
  exact ⟨(none, 0, 0, []), rfl, ⟨fun h => absurd rfl h, by simp⟩, rfl, by show (0 : Nat) ≤ _; omega, by show (0 : Nat) ≤ _; omega⟩
 ·simp [Value.cells] at hcs
  obtain ⟨rfl, rfl, rfl⟩ := hcs
  rw [c5] at hx
  have hlm : len ≤ m := by rw [hmm]; split <;> omega
  obtain ⟨ops, hol, hq⟩ := o_list (Q := fun i (op : EvT) => EvTOk W op ∧ ∀ j u, op.cells[j]? = some u → W.cell? (x.add (i * 2 + j)) = some u) len (fun i hi => by
   obtain ⟨cs', hc, ht⟩ := hx i (by omega)
   obtain ⟨op, rfl, hok⟩ := open_EvT ht
   obtain ⟨_, hcl, hat⟩ := World.cells?_some hc
   refine ⟨op, hok, fun j u hj => ?_⟩
   have hj5 : j < 2 := by have := (List.getElem?_eq_some_iff.1 hj).1; rw [hcl] at this; exact this
   rw [← Go.Deep.add_add, hat j hj5, hj])
  refine ⟨(some x, len, cap, ops), rfl, ⟨fun h0 => ?_, fun op hop => ?_⟩, hol, by simp only [maxLen] at hm; show len ≤ _; omega, by show len ≤ cap; omega⟩
  ·have h00 : ops.length ≠ 0 := h0
   obtain ⟨op0, hop0⟩ : ∃ op, ops[0]? = some op := ⟨_, List.getElem?_eq_getElem (by omega)⟩
   obtain ⟨b, off, spot⟩ := x
   have hc0 := (hq 0 op0 hop0).2 0 _ rfl
   have hspot : spot = none := by simpa [Addr.add] using World.cell?_spot hc0
   subst hspot
   refine ⟨b, off, rfl, fun i op hi j u hu => ?_⟩
   have := (hq i op hi).2 j u hu
   rw [o_add] at this
   rw [Nat.add_assoc]; exact this
  ·obtain ⟨i, hi, rfl⟩ := List.mem_iff_getElem.1 hop
   exact (hq i _ (List.getElem?_eq_getElem hi)).1
end
def EvT.e (u : EvT) : Int × Int := (u.f0, u.f1)
theorem script_ev {w : World} {A : Option Addr} {ops : List EvT} (h : ScriptEvT w A ops) : EvS A w (ops.map EvT.e) := fun h0 => by
 obtain ⟨b, o, e, hr⟩ := h.1 (by simpa using h0)
 refine ⟨b, o, e, fun i x hx => ?_⟩
 rw [List.getElem?_map] at hx
 cases ho : ops[i]? with
 | none => rw [ho] at hx; cases hx
 | some op =>
  rw [ho] at hx
  injection hx with hx
  subst hx
  exact hr i op ho
theorem ev_bd {w : World} {A : Option Addr} {ops : List EvT} (h : ScriptEvT w A ops) : ∀ e ∈ ops.map EvT.e, -9223372036854775808 ≤ e.2 ∧ e.2 ≤ 9223372036854775807 := fun e he => by
 obtain ⟨op, ho, rfl⟩ := List.mem_map.1 he
 have := (h.2 op ho).w1
 simp [Lit.wf, IntKind.min, IntKind.max, IntKind.signed, IntKind.bits] at this
 exact this
end Go.Proofs.Ytpbimgopiammaaa
end

section
namespace Go.Proofs.Ytpbimgopiammaaa
open Go.RowKit
set_option maxRecDepth 100000
set_option maxHeartbeats 4000000
theorem step_lines (s : Ck) (k n : Int) : (s.step k n).lines.length ≤ s.lines.length + 1 := by
 unfold Ck.step
 split
 ·show s.lines.length ≤ _; omega
 split
 ·exact mput_len _ _ _
 split
 ·split
  ·exact mput_len _ _ _
  ·show s.lines.length ≤ _; omega
 split
 ·show (s.lines.filter keepQ).length ≤ _
  have := List.length_filter_le keepQ s.lines; omega
 split
 ·show s.lines.length ≤ _; omega
 ·show ((srt (s.marked.map Prod.fst)).foldl Ck.cm1 s).lines.length ≤ _
  rw [cms_lines]; omega
theorem chk_lines (l : List (Int × Int)) : (chk l).lines.length ≤ l.length := by
 have : ∀ (l : List (Int × Int)) (s : Ck), (l.foldl (fun s e => s.step e.1 e.2) s).lines.length ≤ s.lines.length + l.length := fun l => by
  induction l with
  | nil => intro s; exact Nat.le_refl _
  | cons e l ih =>
   intro s
   have h1 := ih (s.step e.1 e.2)
   have h2 := step_lines s e.1 e.2
   rw [List.foldl_cons, List.length_cons]; omega
 have h := this l ck0
 rw [show ck0.lines.length = 0 from rfl, Nat.zero_add] at h
 exact h
theorem oLooseL (p b1 b2 : Nat) (A : Option Addr) (c : Nat) (l : List (Int × Int)) (w : World) (hE : Ents (ckE p b1 b2 A c (chk l)) w) (hm : l.length ≤ 100000) :
  Calls Try.prog 21 [ptr p].toArray w fun e w' => ∃ (A' : Option Addr) (c' : Nat), e = .returned (.slice A' (rLoose l).length c') ∧ Heap w [] [ownN 1 (.slice A' (rLoose l).length c') (rLoose l).length ((rLoose l).map (Value.int .i64)) 3] w' := by
 have hl := chk_lines l
 have h := oLoose p b1 b2 A c (chk l) w hE (by omega)
 have e : (chk l).lines.length = (rLoose l).length := by rw [← loose_eq l, srt_len, List.length_map]
 rw [loose_eq l, e] at h
 exact h
end Go.Proofs.Ytpbimgopiammaaa
end

section
namespace Go.Proofs.Ytpbimgopiammaaa
def flE (x : Int) : Int × Int := (2, x)
/-- what is put in ahead of a commit -/
def rIn (out : List (Int × Int)) : List (Int × Int) := ((rMarked out).filter fun x => decide (rState out x = 1)).map flE ++ (if (rMarked out).any (fun x => decide (rState out x > 0)) = true then [((3 : Int), (0 : Int))] else [])
def mstep (out : List (Int × Int)) (e : Int × Int) : List (Int × Int) := if e.1 = 5 ∧ e.2 ≥ 0 then out ++ rIn out ++ [e] else out ++ [e]
def rMend (l : List (Int × Int)) : List (Int × Int) := l.foldl mstep []
theorem rState_app (a b : List (Int × Int)) (x : Int) : rState (a ++ b) x = b.foldl (rst x) (rState a x) := by unfold rState; rw [List.foldl_append]
theorem rMarked_app (a b : List (Int × Int)) : rMarked (a ++ b) = b.foldl rmk (rMarked a) := by unfold rMarked; rw [List.foldl_append]
theorem rMarked_nn (l : List (Int × Int)) : ∀ x ∈ rMarked l, 0 ≤ x := by
 have : ∀ (l : List (Int × Int)) (M : List Int), (∀ x ∈ M, 0 ≤ x) → ∀ x ∈ l.foldl rmk M, 0 ≤ x := by
  intro l
  induction l with
  | nil => intro M h; exact h
  | cons e l ih =>
   intro M h
   rw [List.foldl_cons]
   refine ih _ ?_
   unfold rmk
   split
   ·exact h
   ·split
    ·simp
    ·split
     ·intro x hx
      rcases (rIns_mem M e.2 x).1 hx with rfl | hx
      ·omega
      ·exact h x hx
     ·exact h
 exact this l [] (by simp)
theorem rMarked_up (l : List (Int × Int)) : (rMarked l).Pairwise (· < ·) := (chk_MI l).up
theorem rMarked_fl (L : List Int) (M : List Int) : (L.map flE).foldl rmk M = M := by
 induction L with
 | nil => rfl
 | cons x L ih =>
  rw [List.map_cons, List.foldl_cons]
  have : rmk M (flE x) = M := by unfold rmk flE; split <;> simp
  rw [this, ih]
theorem rMarked_fence (M : List Int) : rmk M (3, 0) = M := by unfold rmk; simp
theorem rst_fl (x s y : Int) (hy : 0 ≤ y) : rst x s (flE y) = if y = x ∧ s = 1 then 2 else s := by
 unfold rst flE
 rw [if_neg (show ¬ y < 0 by omega), if_neg (show ¬ (2 : Int) = 1 by omega), if_pos rfl]
theorem rState_fls (x : Int) : ∀ (L : List Int) (s : Int), (∀ y ∈ L, 0 ≤ y) → (L.map flE).foldl (rst x) s = if x ∈ L ∧ s = 1 then 2 else s
 | [], s, _ => by simp
 | y :: L, s, h => by
  rw [List.map_cons, List.foldl_cons, rst_fl x s y (h y (by simp)), rState_fls x L _ (fun z hz => h z (by simp [hz]))]
  by_cases hs : s = 1
  ·subst hs
   by_cases hy : y = x
   ·subst hy; simp
   ·have : ¬ x = y := fun e => hy e.symm
    simp [hy, this]
  ·simp [hs]
theorem rst_fence (x s : Int) : rst x s (3, 0) = if s = 2 then 0 else s := by unfold rst; simp
theorem rIn_marked (out : List (Int × Int)) : rMarked (out ++ rIn out) = rMarked out := by
 unfold rIn
 rw [rMarked_app, List.foldl_append, rMarked_fl]
 split
 ·rw [List.foldl_cons, rMarked_fence]; rfl
 ·rfl
theorem rIn_state (out : List (Int × Int)) (x : Int) (hx : x ∈ rMarked out) : rState (out ++ rIn out) x = 0 := by
 have hf : ∀ y ∈ (rMarked out).filter (fun x => decide (rState out x = 1)), 0 ≤ y := fun y hy => rMarked_nn out y (List.mem_filter.1 hy).1
 unfold rIn
 rw [rState_app, List.foldl_append, rState_fls x _ _ hf]
 rcases rState_vals out x with h0 | h1 | h2
 ·rw [h0, if_neg (by simp)]
  split
  ·rw [List.foldl_cons, rst_fence]; rfl
  ·rfl
 ·rw [h1, if_pos ⟨List.mem_filter.2 ⟨hx, by simp [h1]⟩, rfl⟩, if_pos (List.any_eq_true.2 ⟨x, hx, by simp [h1]⟩), List.foldl_cons, rst_fence]; rfl
 ·rw [h2, if_neg (by simp), if_pos (List.any_eq_true.2 ⟨x, hx, by simp [h2]⟩), List.foldl_cons, rst_fence]; rfl
/-- no fault says that what was marked isn't safe -/
def Safe (l : List (Int × Int)) : Prop := ∀ x ∈ (chk l).faults, x.kind ≠ 1 ∧ x.kind ≠ 2
theorem chk_app1 (b : List (Int × Int)) (e : Int × Int) : (chk (b ++ [e])).faults = (chk b).faults ++ rflt b e := by
 have h : chk (b ++ [e]) = (chk b).step e.1 e.2 := by unfold chk; rw [List.foldl_append]; rfl
 rw [h]; exact chk_faults b e.1 e.2
theorem safe_one {b : List (Int × Int)} {e : Int × Int} (h : Safe b) (h5 : e.1 = 5 → e.2 ≥ 0 → ∀ x ∈ rMarked b, rState b x = 0) : Safe (b ++ [e]) := by
 intro x hx
 rw [chk_app1] at hx
 rcases List.mem_append.1 hx with hx | hx
 ·exact h x hx
 ·unfold rflt at hx
  split at hx
  ·rw [List.mem_singleton.1 hx]; simp
  split at hx
  ·rw [List.mem_singleton.1 hx]; simp
  split at hx
  ·rw [List.mem_singleton.1 hx]; simp
  split at hx
  ·rename_i hb _ _ k5
   obtain ⟨y, hy, hxy⟩ := List.mem_flatMap.1 hx
   unfold rf1 at hxy
   rw [h5 k5 (by omega) y hy, if_neg (by omega)] at hxy
   simp at hxy
  ·simp at hx
theorem safe_fls {b : List (Int × Int)} (L : List Int) (h : Safe b) : Safe (b ++ L.map flE) := by
 induction L generalizing b with
 | nil => simpa using h
 | cons x L ih =>
  have h2 := ih (safe_one (e := flE x) h (fun h5 => by unfold flE at h5; simp at h5))
  rw [List.append_assoc] at h2
  exact h2
theorem safe_step {out : List (Int × Int)} (h : Safe out) (e : Int × Int) : Safe (mstep out e) := by
 unfold mstep
 split
 ·have h2 : Safe (out ++ rIn out) := by
   have h3 := safe_fls ((rMarked out).filter fun x => decide (rState out x = 1)) h
   have e1 : rIn out = ((rMarked out).filter fun x => decide (rState out x = 1)).map flE ++ (if (rMarked out).any (fun x => decide (rState out x > 0)) = true then [((3 : Int), (0 : Int))] else []) := rfl
   rw [e1, ← List.append_assoc]
   split
   ·exact safe_one h3 (fun h5 => by simp at h5)
   ·simpa using h3
  refine safe_one h2 fun _ _ x hx => ?_
  rw [rIn_marked] at hx
  exact rIn_state out x hx
 ·rename_i hb
  exact safe_one h (fun h5 h6 => (hb ⟨h5, h6⟩).elim)
theorem mend_safe (l : List (Int × Int)) : Safe (rMend l) := by
 have : ∀ (l out : List (Int × Int)), Safe out → Safe (l.foldl mstep out) := fun l => by
  induction l with
  | nil => intro out h; exact h
  | cons e l ih => intro out h; exact ih _ (safe_step h e)
 exact this l [] (fun x hx => by simp [chk, ck0] at hx)
/-- what was right is as it was -/
theorem mend_same (l : List (Int × Int)) (h : Safe l) : rMend l = l := by
 have : ∀ n, n ≤ l.length → Safe (l.take n) ∧ rMend (l.take n) = l.take n := fun n => by
  induction n with
  | zero => intro _; exact ⟨fun x hx => by simp [chk, ck0] at hx, rfl⟩
  | succ n ih =>
   intro hn
   obtain ⟨h1, h2⟩ := ih (by omega)
   obtain ⟨e, he⟩ : ∃ e, l[n]? = some e := ⟨_, List.getElem?_eq_getElem (by omega)⟩
   have hsub : ∀ x ∈ (chk (l.take (n + 1))).faults, x ∈ (chk l).faults := by
    have hm : ∀ m, n + 1 ≤ m → ∀ x ∈ (chk (l.take (n + 1))).faults, x ∈ (chk (l.take m)).faults := fun m => by
     induction m with
     | zero => intro h; omega
     | succ m ihm =>
      intro hm x hx
      by_cases e1 : n = m
      ·subst e1; exact hx
      ·have h3 := ihm (by omega) x hx
       cases hem : l[m]? with
       | none =>
        have hl : l.length ≤ m := by simpa using hem
        rw [List.take_of_length_le (by omega)] at h3 ⊢
        exact h3
       | some e' => rw [chk_snoc l m e' hem]; exact List.mem_append_left _ h3
    have := hm l.length hn
    rwa [List.take_length] at this
   have hs : Safe (l.take (n + 1)) := fun x hx => h x (hsub x hx)
   refine ⟨hs, ?_⟩
   have h3 : rMend (l.take (n + 1)) = mstep (rMend (l.take n)) e := snoc_foldl mstep [] l n e he
   rw [h3, h2]
   unfold mstep
   split
   ·rename_i h5
    have h0 : ∀ x ∈ rMarked (l.take n), rState (l.take n) x = 0 := fun x hx => by
     rcases rState_vals (l.take n) x with h6 | h6
     ·exact h6
     ·exfalso
      have hpos : rState (l.take n) x > 0 := by omega
      have hmem : (⟨(l.take n).length, x, rState (l.take n) x⟩ : Flt) ∈ (chk (l.take (n + 1))).faults := by
       rw [chk_snoc l n e he]
       refine List.mem_append_right _ ?_
       unfold rflt
       rw [if_neg (by omega), if_neg (by omega), if_neg (by omega), if_pos h5.1]
       refine List.mem_flatMap.2 ⟨x, hx, ?_⟩
       unfold rf1
       rw [if_pos hpos]; simp
      have h7 := hs _ hmem
      simp only at h7
      omega
    have e1 : rIn (l.take n) = [] := by
     unfold rIn
     rw [if_neg]
     ·rw [List.append_nil, List.map_eq_nil_iff]
      exact List.filter_eq_nil_iff.2 fun x hx => by rw [h0 x hx]; simp
     ·intro ha
      obtain ⟨x, hx, hq⟩ := List.any_eq_true.1 ha
      rw [h0 x hx] at hq
      simp at hq
    rw [e1, List.append_nil]
    exact tk_snoc he
   ·exact tk_snoc he
 have h2 := (this l.length (Nat.le_refl _)).2
 rwa [List.take_length] at h2
theorem mend_bd (l : List (Int × Int)) : (rMend l).length + (rMarked (rMend l)).length ≤ 2 * l.length := by
 have hstep : ∀ out e, (mstep out e).length + (rMarked (mstep out e)).length ≤ out.length + (rMarked out).length + 2 := fun out e => by
  unfold mstep
  split
  ·rename_i h5
   have h1 : rMarked (out ++ rIn out ++ [e]) = [] := by
    rw [rMarked_app, List.foldl_cons]
    have : rmk (rMarked (out ++ rIn out)) e = [] := by unfold rmk; rw [if_neg (by omega), if_pos h5.1]
    rw [this]; rfl
   have h2 : (rIn out).length ≤ (rMarked out).length + 1 := by
    unfold rIn
    rw [List.length_append, List.length_map]
    have := List.length_filter_le (fun x => decide (rState out x = 1)) (rMarked out)
    split <;> simp <;> omega
   rw [h1]
   simp only [List.length_append, List.length_cons, List.length_nil]
   omega
  ·rw [rMarked_app, List.foldl_cons]
   have : (rmk (rMarked out) e).length ≤ (rMarked out).length + 1 := by
    unfold rmk
    split
    ·omega
    ·split
     ·simp
     ·split
      ·exact rIns_len _ _
      ·omega
   simp only [List.length_append, List.length_cons, List.length_nil, List.foldl_nil]
   omega
 have : ∀ (l out : List (Int × Int)), (l.foldl mstep out).length + (rMarked (l.foldl mstep out)).length ≤ out.length + (rMarked out).length + 2 * l.length := fun l => by
  induction l with
  | nil => intro out; simp
  | cons e l ih =>
   intro out
   have h1 := ih (mstep out e)
   have h2 := hstep out e
   rw [List.foldl_cons, List.length_cons]; omega
 have h := this l []
 simpa [rMarked, rMend] using h
end Go.Proofs.Ytpbimgopiammaaa
end

section
namespace Go.Proofs.Ytpbimgopiammaaa
theorem loose_mem (l : List (Int × Int)) (z : Int) : z ∈ rLoose l ↔ rState l z > 0 := by
 have hL := chk_LI l
 rw [← loose_eq, srt_mem, hL.st z]
 cases hg : mget (chk l).lines z with
 | none =>
  have := (mget_iff _ _).1 hg
  simp only [List.mem_map, Option.getD_none]
  constructor
  ·rintro ⟨p, hp, rfl⟩; exact (this p hp rfl).elim
  ·intro h; omega
 | some v =>
  constructor
  ·intro _; rcases hL.v z v hg with rfl | rfl <;> simp
  ·intro _
   by_cases hm : z ∈ (chk l).lines.map Prod.fst
   ·exact hm
   ·have : mget (chk l).lines z = none := (mget_iff _ _).2 fun p hp e => hm (List.mem_map.2 ⟨p, hp, e⟩)
    rw [this] at hg; cases hg
theorem loose_up (l : List (Int × Int)) : (rLoose l).Pairwise (· < ·) := by
 rw [← loose_eq]; exact srt_rise (chk_LI l).nd
def wantB (out : List (Int × Int)) (x : Int) : Bool := decide (x ∈ rMarked out ∧ rState out x = 1)
theorem loose_filter (out : List (Int × Int)) : (rLoose out).filter (wantB out) = (rMarked out).filter (fun x => decide (rState out x = 1)) := by
 refine rise_eq ((loose_up out).sublist List.filter_sublist) ((rMarked_up out).sublist List.filter_sublist) fun z => ?_
 rw [List.mem_filter, List.mem_filter, loose_mem]
 unfold wantB
 rw [decide_eq_true_eq, decide_eq_true_eq]
 constructor
 ·rintro ⟨_, h1, h2⟩; exact ⟨h1, h2⟩
 ·rintro ⟨h1, h2⟩; exact ⟨by omega, h1, h2⟩
theorem loose_any (out : List (Int × Int)) : (rLoose out).any (fun x => decide (x ∈ rMarked out)) = (rMarked out).any (fun x => decide (rState out x > 0)) := by
 rw [Bool.eq_iff_iff, List.any_eq_true, List.any_eq_true]
 constructor
 ·rintro ⟨x, h1, h2⟩
  exact ⟨x, by simpa using h2, by simpa using (loose_mem out x).1 h1⟩
 ·rintro ⟨x, h1, h2⟩
  exact ⟨x, (loose_mem out x).2 (by simpa using h2), by simpa using h1⟩
theorem rIn_loose (out : List (Int × Int)) : rIn out = ((rLoose out).filter (wantB out)).map flE ++ (if (rLoose out).any (fun x => decide (x ∈ rMarked out)) = true then [((3 : Int), (0 : Int))] else []) := by
 rw [loose_filter, loose_any]; rfl
theorem marked_true (l : List (Int × Int)) : ∀ x v, mget (chk l).marked x = some v → v = true := by
 have hs : ∀ (s : Ck) (k n : Int), (∀ x v, mget s.marked x = some v → v = true) → ∀ x v, mget (s.step k n).marked x = some v → v = true := by
  intro s k n h
  unfold Ck.step
  split
  ·exact h
  split
  ·exact h
  split
  ·split
   ·exact h
   ·exact h
  split
  ·unfold Ck.fence; cases s.flush <;> exact h
  split
  ·intro x v hv
   have hv2 : mget (mput s.marked n true) x = some v := hv
   by_cases e : x = n
   ·subst e; rw [mget_same] at hv2; injection hv2 with hv2; exact hv2.symm
   ·rw [mget_other _ _ _ _ e] at hv2; exact h x v hv2
  ·intro x v hv
   have hv2 : mget ([] : List (Int × Bool)) x = some v := hv
   simp [mget] at hv2
 have : ∀ (l : List (Int × Int)) (s : Ck), (∀ x v, mget s.marked x = some v → v = true) → ∀ x v, mget (l.foldl (fun s e => s.step e.1 e.2) s).marked x = some v → v = true := fun l => by
  induction l with
  | nil => intro s h; exact h
  | cons e l ih => intro s h; exact ih _ (hs s e.1 e.2 h)
 exact this l ck0 (by simp [ck0, mget])
theorem marked_get (l : List (Int × Int)) (x : Int) : mget (chk l).marked x = if x ∈ rMarked l then some true else none := by
 have hM := chk_MI l
 by_cases h : x ∈ rMarked l
 ·rw [if_pos h]
  cases hg : mget (chk l).marked x with
  | none =>
   have := (mget_iff _ _).1 hg
   obtain ⟨p, hp, e⟩ := List.mem_map.1 ((hM.mem x).2 h)
   exact (this p hp e).elim
  | some v => rw [marked_true l x v hg]
 ·rw [if_neg h]
  exact (mget_iff _ _).2 fun p hp e => h ((hM.mem x).1 (List.mem_map.2 ⟨p, hp, e⟩))
theorem lines_get (l : List (Int × Int)) (x : Int) (h : rState l x > 0) : mget (chk l).lines x = some (rState l x) := by
 have hL := chk_LI l
 rw [hL.st x] at h ⊢
 cases hg : mget (chk l).lines x with
 | none => rw [hg] at h; simp at h
 | some v => rfl
theorem up_fresh {L : List Int} (h : L.Pairwise (· < ·)) (j : Nat) (x : Int) (hx : L[j]? = some x) : x ∉ L.take j := fun hm => by
 obtain ⟨i, hi⟩ := List.mem_iff_getElem?.1 hm
 rw [List.getElem?_take] at hi
 split at hi
 ·rename_i hij
  obtain ⟨h1, e1⟩ := List.getElem?_eq_some_iff.1 hi
  obtain ⟨h2, e2⟩ := List.getElem?_eq_some_iff.1 hx
  have := List.pairwise_iff_getElem.1 h i j h1 h2 hij
  omega
 ·cases hi
/-- behind some flushes: the state of another line, and the marks, are as they were -/
theorem fls_state (out : List (Int × Int)) (K : List Int) (x : Int) (hK : ∀ y ∈ K, 0 ≤ y) (hx : x ∉ K) : rState (out ++ K.map flE) x = rState out x := by
 rw [rState_app, rState_fls x K _ hK, if_neg (fun h => hx h.1)]
theorem fls_marked (out : List (Int × Int)) (K : List Int) : rMarked (out ++ K.map flE) = rMarked out := by rw [rMarked_app, rMarked_fl]
theorem want_nn (out : List (Int × Int)) (L : List Int) : ∀ y ∈ L.filter (wantB out), 0 ≤ y := fun y hy => by
 have := (List.mem_filter.1 hy).2
 unfold wantB at this
 exact rMarked_nn out y (of_decide_eq_true this).1
theorem want_len (out : List (Int × Int)) (j : Nat) : (((rLoose out).take j).filter (wantB out)).length ≤ (rMarked out).length := by
 have h1 : (((rLoose out).take j).filter (wantB out)).length ≤ ((rLoose out).filter (wantB out)).length := ((List.take_sublist _ _).filter _).length_le
 have h2 := List.length_filter_le (fun x => decide (rState out x = 1)) (rMarked out)
 rw [loose_filter] at h1
 omega
end Go.Proofs.Ytpbimgopiammaaa
end

section
namespace Go.Proofs.Ytpbimgopiammaaa
open Go.RowKit
set_option maxRecDepth 100000
set_option maxHeartbeats 2000000
def mdE (pc po p b1 b2 : Nat) (A : Option Addr) (c : Nat) (OA : Option Addr) (oc : Nat) (out : List (Int × Int)) : List Ent :=
 [blk pc [ptr p] 45, blk po [.slice OA out.length oc] 44, ownN 2 (.slice OA out.length oc) out.length ((evC out).map C1.v) 49, grp (ckE p b1 b2 A c (chk out))]
theorem evC_snoc (l : List (Int × Int)) (k m : Int) : evC l ++ [C1.i .i64 k, C1.i .i64 m] = evC (l ++ [(k, m)]) := by simp [evC]
theorem chk_snoc1 (l : List (Int × Int)) (k m : Int) : chk (l ++ [(k, m)]) = (chk l).step k m := by unfold chk; rw [List.foldl_append]; rfl
theorem oMdo (pc po p b1 b2 : Nat) (A : Option Addr) (c : Nat) (OA : Option Addr) (oc : Nat) (out : List (Int × Int)) (k m : Int) (w : World) (hE : Ents (mdE pc po p b1 b2 A c OA oc out) w) (hl : out.length ≤ 500) (hm : -9223372036854775808 ≤ m ∧ m ≤ 9223372036854775807) :
  Calls Try.prog 48 [.agg [.int .i64 k, .int .i64 m].toArray, ptr pc, ptr po].toArray w fun e w' => e = .returned (.tuple #[]) ∧ ∃ A' c' OA' oc', Heap w (ids (mdE pc po p b1 b2 A c OA oc out)) (mdE pc po p b1 b2 A' c' OA' oc' (out ++ [(k, m)])) w' := by
 have H := Heap.start hE
 unfold mdE at H
 have hb := chk_bd out out.length (Nat.le_refl _) (by omega)
 rw [List.take_length] at hb
 obtain ⟨q1, q2, q3⟩ := hb
 have hDo := fun {W : World} hE => oDo p b1 b2 A c (chk out) k m W hE (by omega) (by omega) (by omega) hm
 rw [← chk_snoc1] at hDo
 have hl2 : (out ++ [(k, m)]).length = out.length + 1 := by simp
 refine k_in (N := 11) Try.func48 rfl rfl rfl ?_
 refine k_sg ?_
 refine s_box H rfl rfl ?_
 intro p3 _ H'; clear H; have H := H'; clear H'
 refine k_nc ?_
 refine k_sg ?_
 refine s_run rfl rfl (r_lo H 1 rfl rfl rfl ag45) ?_
 refine s_run rfl rfl (r_la H 0 rfl rfl rfl ag49 sz49) ?_
 refine s_call rfl (hDo (H.grp_ents 4 rfl)) (ca19 rfl) ?_
 rintro e W1 ⟨rfl, A', c', H'⟩
 refine ⟨_, rfl, ?_⟩
 have H := H.grp_at 4 rfl H'; clear H'; simp only [List.set_cons_zero, List.set_cons_succ] at H
 refine k_nc ?_
 refine k_rg ?_
 refine s_run rfl rfl (r_lo H 2 rfl rfl rfl ag44) ?_
 refine s_run rfl rfl (r_la H 0 rfl rfl rfl ag49 sz49) ?_
 refine s_appN (enc := C1.v) (zs := [C1.i .i64 k, C1.i .i64 m]) H 3 rfl rfl rfl rfl C1.one (by omega) (by kernel_rfl) rfl rfl rfl (by omega) Try.underlying44 inf49 rfl ?_
 intro _ OA2 oc2 _ H'; simp only [List.set_cons_zero, List.set_cons_succ, List.take_succ_cons, List.take_zero, List.drop_succ_cons, List.drop_zero, List.cons_append, List.nil_append, List.append_nil, List.length_cons, List.length_nil, Nat.reduceAdd] at H'; clear H; have H := H'; clear H'
 refine s_st (u := .slice _ _ _) H 2 rfl rfl rfl rfl rfl rfl sz44 ?_
 clear H; intro _ H; simp only [jA, jB, jC, jD, jE, jF, jG, jH, jI, jJ, jK, Nat.reduceAdd] at H
 refine k_nil ?_
 refine fin0  rfl ?_
 rw [evC_snoc] at H
 refine ⟨rfl, A', c', some ⟨OA2, 0, none⟩, oc2, ?_⟩
 unfold mdE
 rw [hl2]
 exact H.drop
end Go.Proofs.Ytpbimgopiammaaa
end

section
namespace Go.Proofs.Ytpbimgopiammaaa
open Go.RowKit
set_option maxRecDepth 100000
set_option maxHeartbeats 4000000
theorem mend_bd2 (l : List (Int × Int)) (i : Nat) : (rMend (l.take i)).length + (rMarked (rMend (l.take i))).length ≤ 2 * i := by
 have h := mend_bd (l.take i)
 have h2 : (l.take i).length ≤ i := List.length_take_le _ _
 omega
theorem rMend_snoc (l : List (Int × Int)) (i : Nat) (e : Int × Int) (he : l[i]? = some e) : rMend (l.take (i + 1)) = mstep (rMend (l.take i)) e := snoc_foldl mstep [] l i e he
theorem loose_bd (l : List (Int × Int)) : (rLoose l).length ≤ l.length := by
 have := chk_lines l
 rw [← loose_eq, srt_len, List.length_map]; exact this
theorem key_bd {p b1 b2 : Nat} {A : Option Addr} {c : Nat} {s : Ck} {w : World} (hE : Ents (ckE p b1 b2 A c s) w) {x v : Int} (h : mget s.lines x = some v) : -9223372036854775808 ≤ x ∧ x ≤ 9223372036854775807 := by
 obtain ⟨es, clock, _, hk⟩ := (Heap.start hE).mp_get 1 rfl
 by_cases hm : x ∈ s.lines.map Prod.fst
 ·obtain ⟨q, hq, rfl⟩ := List.mem_map.1 hm
  exact hk.gd q hq
 ·have : mget s.lines x = none := (mget_iff _ _).2 fun q hq e => hm (List.mem_map.2 ⟨q, hq, e⟩)
  rw [this] at h; cases h
theorem oMend (A : Option Addr) (n c : Nat) (l : List (Int × Int)) (w : World) (hS : EvS A w l) (hl : l.length = n) (hn : n ≤ 100) (hb : ∀ e ∈ l, -9223372036854775808 ≤ e.2 ∧ e.2 ≤ 9223372036854775807) :
  Calls Try.prog 29 [.slice A n c].toArray w fun e w' => ∃ A' c', e = .returned (.slice A' (rMend l).length c') ∧ Heap w [] [ownN 2 (.slice A' (rMend l).length c') (rMend l).length ((evC (rMend l)).map C1.v) 49] w' := by
 have H := Heap.nil w
 refine k_in (N := 62) Try.func29 rfl rfl rfl ?_
 refine k_sg ?_
 refine s_run rfl rfl (ras rfl) ?_
 refine k_nc ?_
 refine k_sg ?_
 refine s_call rfl (oNew _) (ca18 rfl) ?_
 rintro e W1 ⟨p, b1, b2, rfl, H'⟩
 refine ⟨_, rfl, ?_⟩
 have H := H.more (A := [grp _]) (grp_heap H'); clear H'; simp only [List.cons_append, List.nil_append] at H
 refine s_al1 H rfl inf45 rfl ?_
 intro p3 _ H'; clear H; have H := H'; clear H'
 refine s_st (u := .pointer _) H 0 rfl rfl rfl rfl rfl rfl sz45 ?_
 clear H; intro _ H; simp only [jA, jB, jC, jD, jE, jF, jG, jH, jI, jJ, jK, Nat.reduceAdd] at H
 refine k_nc ?_
 refine k_sg ?_
 refine s_al1 H rfl inf44 rfl ?_
 intro p4 _ H'; clear H; have H := H'; clear H'
 refine k_nc ?_
 refine k_sg ?_
 refine s_run rfl rfl (r_mkf rfl) ?_
 refine s_run rfl rfl (r_as (v := .func _ _ _) rfl) ?_
 refine k_nc ?_
 refine k_seq ?_
 refine k_sg ?_
 refine s_run rfl rfl (rms rfl) ?_
 refine s_run rfl rfl (r_len rfl Try.underlying44) ?_
 refine s_run rfl rfl (rmi rfl) ?_
 refine k_nc ?_
 refine k_b ?_
 replace H := H.own_nil 2 49
 replace H : Heap w [] (mdE p3 p4 p b1 b2 none 0 none 0 []) _ := H.order [2, 1, 0, 3] rfl rfl
 refine k_loop (fun z f W => ∃ (i : Nat) (FA : Option Addr) (fc : Nat) (OA : Option Addr) (oc : Nat) (out : List (Int × Int)), i ≤ n ∧ z = n - i ∧ out = rMend (l.take i) ∧ f 3 = ptr p3 ∧ f 4 = ptr p4 ∧ f 5 = .func (.func 48) #[] [ptr p3, ptr p4].toArray ∧ f 13 = .slice A n c ∧ f 14 = .int .i64 n ∧ f 15 = .int .i64 i ∧ Heap w [] (mdE p3 p4 p b1 b2 FA fc OA oc out) W) n ⟨0, none, 0, none, 0, [], by omega, rfl, rfl, rfl, rfl, rfl, rfl, rfl, rfl, H⟩ ?_
 clear H
 rintro z f W ⟨i, FA, fc, OA, oc, out, hi, rfl, hout, f3, f4, f5, f13, f14, f15, H⟩
 have hbd := mend_bd2 l i
 rw [← hout] at hbd
 by_cases hlt : i < n
 ·obtain ⟨e, he⟩ : ∃ e, l[i]? = some e := ⟨_, List.getElem?_eq_getElem (by omega)⟩
  obtain ⟨b, o, hA, hrd⟩ := hS (by omega)
  have hre := hrd i e he
  have hbe := hb e (List.mem_of_getElem? he)
  have hst := rMend_snoc l i e he
  rw [← hout] at hst
  obtain ⟨k, m⟩ := e
  simp only at hre hbe
  unfold mstep at hst
  simp only at hst
  rw [hA] at f13
  obtain ⟨f, rfl⟩ := live6 f3 f4 f5 f13 f14 f15
  clear f3 f4 f5 f13 f14 f15
  have hD := fun {FA fc OA oc out k m} {W : World} hE hl hm => oMdo p3 p4 p b1 b2 FA fc OA oc out k m W hE hl hm
  by_cases h5 : k = 5 ∧ m ≥ 0
  ·rw [if_pos h5] at hst
   obtain ⟨k5, h0⟩ := h5
   subst k5
   obtain ⟨L, hL⟩ : ∃ L, rLoose out = L := ⟨_, rfl⟩
   have hLo := fun {FA fc} {W : World} hE => oLooseL p b1 b2 FA fc out W hE (by omega)
   have hLl := loose_bd out
   have hLup := loose_up out
   have hLm := loose_mem out
   have hwl := want_len out
   have hri := rIn_loose out
   rw [hL] at hLo hLl hLup hLm hwl hri
   unfold mdE at H
   refine k_sg ?_
   refine s_run rfl rfl (r_lssT rfl rfl (by omega)) ?_
   refine k_nc ?_
   refine k_seq ?_
   refine k_t rfl ?_
   refine k_skip ?_
   refine c_norm ?_
   refine k_seq ?_
   refine k_b ?_
   refine k_sg ?_
   refine s_run rfl rfl (r_ix (i := i) rfl rfl (by omega) (by omega) Try.underlying44 sz49) ?_
   refine s_run rfl rfl (r_lA (enc := fun v : Value => v) (zs := [.int .i64 5, .int .i64 m]) (hre.later H.only (by simp)) rfl rfl ag49 sz49) ?_
   refine s_al H rfl inf49 ?_
   intro p7 _ H'; clear H; have H := H'; clear H'
   refine s_sw H 0 rfl rfl rfl rfl rfl rfl rfl sz49 ?_
   clear H; intro _ H; simp only [jA, jB, jC, jD, jE, jF, jG, jH, jI, jJ, jK, Nat.reduceAdd] at H
   refine k_nc ?_
   refine k_seq ?_
   refine k_sg ?_
   refine s_run rfl rfl (r_fa0 rfl fo49_0) ?_
   refine s_run rfl rfl (r_lo H 0 rfl rfl rfl ag3) ?_
   refine s_run rfl rfl (r_eqlT rfl rfl (by omega)) ?_
   refine s_run rfl rfl (rmb rfl) ?_
   refine s_run rfl (g_on 22 (by kernel_rfl) rfl) (r_fa0 rfl fo49_1) ?_
   refine s_run rfl (g_on 22 (by kernel_rfl) rfl) (r_lo H 0 rfl rfl rfl ag3) ?_
   refine s_run rfl (g_on 22 (by kernel_rfl) rfl) (r_geqT rfl rfl (by omega)) ?_
   refine s_run rfl rfl (r_pkT (v := .bool _) rfl rfl) ?_
   refine k_nc ?_
   refine k_t rfl ?_
   refine k_sg ?_
   refine s_run rfl rfl (rab rfl) ?_
   refine k_nc ?_
   refine k_seq ?_
   refine k_sg ?_
   refine s_run rfl rfl (r_lo H 1 rfl rfl rfl ag45) ?_
   refine s_call rfl (hLo (H.grp_ents 4 rfl)) (ca21 rfl) ?_
   rintro e W1 ⟨LA, lc, rfl, H'⟩
   refine ⟨_, rfl, ?_⟩
   have H := H.more H'; clear H'; simp only [List.cons_append, List.nil_append] at H
   refine s_run rfl rfl (r_len rfl Try.underlying22) ?_
   refine s_run rfl rfl (rmi rfl) ?_
   refine k_nc ?_
   refine k_b ?_
   replace H : Heap w [] (mdE p3 p4 p b1 b2 FA fc OA oc out ++ [ownN 1 (.slice LA L.length lc) L.length (L.map (Value.int .i64)) 3, blk p7 [.int .i64 5, .int .i64 m] 49]) _ := H.order [2, 3, 4, 5, 0, 1] rfl rfl
   refine k_loop (fun z f W => ∃ (j : Nat) (FA : Option Addr) (fc : Nat) (OA : Option Addr) (oc : Nat) (K : List Int) (out2 : List (Int × Int)) (late : Bool), j ≤ L.length ∧ z = L.length - j ∧ K = (L.take j).filter (wantB out) ∧ out2 = out ++ K.map flE ∧ late = (L.take j).any (fun x => decide (x ∈ rMarked out)) ∧ f 3 = ptr p3 ∧ f 4 = ptr p4 ∧ f 5 = .func (.func 48) #[] [ptr p3, ptr p4].toArray ∧ f 7 = ptr p7 ∧ f 8 = .bool late ∧ f 13 = .slice (some ⟨b, o, none⟩) n c ∧ f 14 = .int .i64 n ∧ f 15 = .int .i64 i ∧ f 28 = .slice LA L.length lc ∧ f 29 = .int .i64 L.length ∧ f 30 = .int .i64 j ∧ Heap w [] (mdE p3 p4 p b1 b2 FA fc OA oc out2 ++ [ownN 1 (.slice LA L.length lc) L.length (L.map (Value.int .i64)) 3, blk p7 [.int .i64 5, .int .i64 m] 49]) W) L.length ⟨0, FA, fc, OA, oc, [], out, false, by omega, rfl, rfl, by simp, rfl, rfl, rfl, rfl, rfl, rfl, rfl, rfl, rfl, rfl, rfl, rfl, H⟩ ?_
   clear H
   rintro z f W ⟨j, FA, fc, OA, oc, K, out2, late, hj, rfl, hK, ho2, hlate, f3, f4, f5, f7, f8, f13, f14, f15, f28, f29, f30, H⟩
   have hKn : ∀ y ∈ K, 0 ≤ y := by rw [hK]; exact want_nn out _
   have hKl : K.length ≤ (rMarked out).length := by rw [hK]; exact hwl j
   have ho2l : out2.length = out.length + K.length := by rw [ho2]; simp
   have hmk : rMarked out2 = rMarked out := by rw [ho2]; exact fls_marked out K
   by_cases hjl : j < L.length
   ·obtain ⟨x, hx⟩ : ∃ x, L[j]? = some x := ⟨_, List.getElem?_eq_getElem hjl⟩
    have hpos := (hLm x).1 (List.mem_of_getElem? hx)
    have hxK : x ∉ K := fun h => by
     rw [hK] at h
     exact up_fresh hLup j x hx (List.mem_filter.1 h).1
    have hst2 : rState out2 x = rState out x := by rw [ho2]; exact fls_state out K x hKn hxK
    have hlg := lines_get out2 x (by rw [hst2]; exact hpos)
    rw [hst2] at hlg
    have hmg := marked_get out2 x
    rw [hmk] at hmg
    have hKs : (L.take (j + 1)).filter (wantB out) = K ++ (if wantB out x = true then [x] else []) := by
     rw [← tk_snoc hx, List.filter_append, ← hK]; congr 1; simp only [List.filter_cons, List.filter_nil]
    have hls : (L.take (j + 1)).any (fun x => decide (x ∈ rMarked out)) = (late || decide (x ∈ rMarked out)) := by
     rw [← tk_snoc hx, List.any_append, ← hlate]; simp
    have hvals := rState_vals out x
    have gx : -9223372036854775808 ≤ x ∧ x ≤ 9223372036854775807 := key_bd (H.grp_ents 3 rfl) hlg
    obtain ⟨f, rfl⟩ := lv11 f3 f4 f5 f7 f8 f13 f14 f15 f28 f29 f30
    clear f3 f4 f5 f7 f8 f13 f14 f15 f28 f29 f30
    have hLc : ∃ bL oL, LA = some ⟨bL, oL, none⟩ ∧ W.cell? ⟨bL, oL + j, none⟩ = some (.int .i64 x) := by
     obtain ⟨bL, oL, e, _, hr⟩ := H.own_sees 4 rfl (by omega)
     exact ⟨bL, oL, e, hr j x hx⟩
    obtain ⟨bL, oL, rfl, hLc⟩ := hLc
    have HW := Heap.nil W
    unfold mdE at H
    have gx2 : kS.Gd x := gx
    by_cases hxm : x ∈ rMarked out
    ·rw [if_pos hxm] at hmg
     rw [decide_eq_true hxm, Bool.or_true] at hls
     by_cases hx1 : rState out x = 1
     ·rw [if_pos (show wantB out x = true from decide_eq_true ⟨hxm, hx1⟩)] at hKs
      rw [hx1] at hlg
      refine k_sg ?_
      refine s_run rfl rfl (r_lssT rfl rfl (by omega)) ?_
      refine k_nc ?_
      refine k_seq ?_
      refine k_t rfl ?_
      refine k_skip ?_
      refine c_norm ?_
      refine k_seq ?_
      refine k_b ?_
      refine k_sg ?_
      refine s_run rfl rfl (r_ix1o (i := j) rfl rfl (by omega) (by omega) Try.underlying22 sz3) ?_
      refine s_run rfl rfl (r_lr HW rfl hLc (by simp) ag3) ?_
      refine s_run rfl rfl (rai rfl) ?_
      refine k_nc ?_
      refine k_seq ?_
      refine k_sg ?_
      refine s_run rfl rfl (r_lo H 0 rfl rfl rfl ag45) ?_
      refine s_run rfl rfl (r_nc rfl) ?_
      refine s_run rfl rfl (r_fa0 rfl fo90_1) ?_
      refine s_run rfl rfl (r_lo (Heap.start (H.grp_ents 3 rfl)) 0 rfl rfl rfl ag88) ?_
      refine s_run rfl rfl (rmi rfl) ?_
      refine s_run rfl rfl (r_lkS (Heap.start (H.grp_ents 3 rfl)) 2 rfl rfl rfl (gx2) (hmg) Try.underlying88 (zv_of inf4) rfl) ?_
      refine s_run rfl rfl (r_notT rfl) ?_
      refine k_nc ?_
      refine k_f rfl ?_
      refine k_skip ?_
      refine c_norm ?_
      refine k_sg ?_
      refine s_run rfl rfl (rab rfl) ?_
      refine k_nc ?_
      refine k_sg ?_
      refine s_run rfl rfl (r_lo H 0 rfl rfl rfl ag45) ?_
      refine s_run rfl rfl (r_nc rfl) ?_
      refine s_run rfl rfl (r_fa0 rfl fo90_0) ?_
      refine s_run rfl rfl (r_lo (Heap.start (H.grp_ents 3 rfl)) 0 rfl rfl rfl ag87) ?_
      refine s_run rfl rfl (rmi rfl) ?_
      refine s_run rfl rfl (r_lkS (Heap.start (H.grp_ents 3 rfl)) 1 rfl rfl rfl (gx2) (hlg) Try.underlying87 (zv_of inf92) rfl) ?_
      refine s_run rfl rfl (r_eqlT rfl rfl (by omega)) ?_
      refine k_nc ?_
      refine k_t rfl ?_
      refine k_rg ?_
      refine s_run rfl rfl (r_mv (v := .func _ _ _) rfl) ?_
      refine s_run rfl rfl (rmi rfl) ?_
      refine s_run rfl rfl (r_bd (bd49_0_1 _ _) rfl) ?_
      refine s_callV rfl rfl rfl Try.func48 (by kernel_rfl) (by kernel_rfl) (hD (Heap.part (A := mdE p3 p4 p b1 b2 FA fc OA oc out2) H) (by omega) gx) ?_
      rintro e W1 ⟨rfl, FA2, fc2, OA2, oc2, H'⟩
      refine ⟨_, rfl, ?_⟩
      have H := Heap.step (A := mdE p3 p4 p b1 b2 FA fc OA oc out2) H H' (fun _ h => h); clear H'
      refine k_nil ?_
      refine b_norm ?_
      refine c_norm ?_
      refine k_rg ?_
      refine s_run rfl rfl (r_add rfl rfl (wI (by omega))) ?_
      refine s_run rfl rfl (rmi rfl) ?_
      refine k_nil ?_
      refine c_round ?_
      refine ⟨_, _, ?_, rfl, j + 1, FA2, fc2, OA2, oc2, K ++ [x], out2 ++ [(2, x)], true, by omega, rfl, hKs.symm, by rw [ho2, List.map_append, List.append_assoc]; rfl, hls.symm, rfl, rfl, rfl, rfl, rfl, rfl, rfl, rfl, rfl, rfl, rfl, H⟩
      omega
     ·rw [if_neg (show ¬ wantB out x = true from fun h => hx1 (of_decide_eq_true h).2), List.append_nil] at hKs
      refine k_sg ?_
      refine s_run rfl rfl (r_lssT rfl rfl (by omega)) ?_
      refine k_nc ?_
      refine k_seq ?_
      refine k_t rfl ?_
      refine k_skip ?_
      refine c_norm ?_
      refine k_seq ?_
      refine k_b ?_
      refine k_sg ?_
      refine s_run rfl rfl (r_ix1o (i := j) rfl rfl (by omega) (by omega) Try.underlying22 sz3) ?_
      refine s_run rfl rfl (r_lr HW rfl hLc (by simp) ag3) ?_
      refine s_run rfl rfl (rai rfl) ?_
      refine k_nc ?_
      refine k_seq ?_
      refine k_sg ?_
      refine s_run rfl rfl (r_lo H 0 rfl rfl rfl ag45) ?_
      refine s_run rfl rfl (r_nc rfl) ?_
      refine s_run rfl rfl (r_fa0 rfl fo90_1) ?_
      refine s_run rfl rfl (r_lo (Heap.start (H.grp_ents 3 rfl)) 0 rfl rfl rfl ag88) ?_
      refine s_run rfl rfl (rmi rfl) ?_
      refine s_run rfl rfl (r_lkS (Heap.start (H.grp_ents 3 rfl)) 2 rfl rfl rfl (gx2) (hmg) Try.underlying88 (zv_of inf4) rfl) ?_
      refine s_run rfl rfl (r_notT rfl) ?_
      refine k_nc ?_
      refine k_f rfl ?_
      refine k_skip ?_
      refine c_norm ?_
      refine k_sg ?_
      refine s_run rfl rfl (rab rfl) ?_
      refine k_nc ?_
      refine k_sg ?_
      refine s_run rfl rfl (r_lo H 0 rfl rfl rfl ag45) ?_
      refine s_run rfl rfl (r_nc rfl) ?_
      refine s_run rfl rfl (r_fa0 rfl fo90_0) ?_
      refine s_run rfl rfl (r_lo (Heap.start (H.grp_ents 3 rfl)) 0 rfl rfl rfl ag87) ?_
      refine s_run rfl rfl (rmi rfl) ?_
      refine s_run rfl rfl (r_lkS (Heap.start (H.grp_ents 3 rfl)) 1 rfl rfl rfl (gx2) (hlg) Try.underlying87 (zv_of inf92) rfl) ?_
      refine s_run rfl rfl (r_eqlF rfl rfl (by omega)) ?_
      refine k_nc ?_
      refine k_f rfl ?_
      refine k_skip ?_
      refine b_norm ?_
      refine c_norm ?_
      refine k_rg ?_
      refine s_run rfl rfl (r_add rfl rfl (wI (by omega))) ?_
      refine s_run rfl rfl (rmi rfl) ?_
      refine k_nil ?_
      refine c_round ?_
      refine ⟨_, _, ?_, rfl, j + 1, FA, fc, OA, oc, K, out2, true, by omega, rfl, hKs.symm, ho2, hls.symm, rfl, rfl, rfl, rfl, rfl, rfl, rfl, rfl, rfl, rfl, rfl, H⟩
      omega
    ·rw [if_neg hxm] at hmg
     rw [decide_eq_false hxm, Bool.or_false] at hls
     rw [if_neg (show ¬ wantB out x = true from fun h => hxm (of_decide_eq_true h).1), List.append_nil] at hKs
     refine k_sg ?_
     refine s_run rfl rfl (r_lssT rfl rfl (by omega)) ?_
     refine k_nc ?_
     refine k_seq ?_
     refine k_t rfl ?_
     refine k_skip ?_
     refine c_norm ?_
     refine k_seq ?_
     refine k_b ?_
     refine k_sg ?_
     refine s_run rfl rfl (r_ix1o (i := j) rfl rfl (by omega) (by omega) Try.underlying22 sz3) ?_
     refine s_run rfl rfl (r_lr HW rfl hLc (by simp) ag3) ?_
     refine s_run rfl rfl (rai rfl) ?_
     refine k_nc ?_
     refine k_seq ?_
     refine k_sg ?_
     refine s_run rfl rfl (r_lo H 0 rfl rfl rfl ag45) ?_
     refine s_run rfl rfl (r_nc rfl) ?_
     refine s_run rfl rfl (r_fa0 rfl fo90_1) ?_
     refine s_run rfl rfl (r_lo (Heap.start (H.grp_ents 3 rfl)) 0 rfl rfl rfl ag88) ?_
     refine s_run rfl rfl (rmi rfl) ?_
     refine s_run rfl rfl (r_lkN (Heap.start (H.grp_ents 3 rfl)) 2 rfl rfl rfl (gx2) (hmg) Try.underlying88 (zv_of inf4)) ?_
     refine s_run rfl rfl (r_notF rfl) ?_
     refine k_nc ?_
     refine k_t rfl ?_
     refine k_exit ?_
     refine c_exit ?_
     refine b_hit ?_
     refine c_norm ?_
     refine k_rg ?_
     refine s_run rfl rfl (r_add rfl rfl (wI (by omega))) ?_
     refine s_run rfl rfl (rmi rfl) ?_
     refine k_nil ?_
     refine c_round ?_
     refine ⟨_, _, ?_, rfl, j + 1, FA, fc, OA, oc, K, out2, late, by omega, rfl, hKs.symm, ho2, hls.symm, rfl, rfl, rfl, rfl, rfl, rfl, rfl, rfl, rfl, rfl, rfl, H⟩
     omega
   ·obtain rfl : j = L.length := by omega
    rw [List.take_length] at hK hlate
    rw [← hK, ← hlate] at hri
    obtain ⟨f, rfl⟩ := lv11 f3 f4 f5 f7 f8 f13 f14 f15 f28 f29 f30
    clear f3 f4 f5 f7 f8 f13 f14 f15 f28 f29 f30
    unfold mdE at H
    cases late with
    | true =>
     rw [if_pos rfl] at hri
     have e3 : out ++ rIn out ++ [(5, m)] = out2 ++ [(3, 0)] ++ [(5, m)] := by rw [hri, ho2]; simp
     rw [e3] at hst
     have ho3 : (out2 ++ [((3 : Int), (0 : Int))]).length ≤ 500 := by simp; omega
     refine k_sg ?_
     refine s_run rfl rfl (r_lssF rfl rfl (by omega)) ?_
     refine k_nc ?_
     refine k_seq ?_
     refine k_f rfl ?_
     refine k_exit ?_
     refine c_exit ?_
     refine c_exit ?_
     refine b_hit ?_
     refine c_norm ?_
     refine k_sg ?_
     refine s_run rfl rfl (rmb rfl) ?_
     refine k_nc ?_
     refine k_t rfl ?_
     refine k_rg ?_
     refine s_run rfl rfl (r_mv (v := .func _ _ _) rfl) ?_
     refine s_run rfl rfl (r_bd (bd49_0 _) rfl) ?_
     refine s_callV rfl rfl rfl Try.func48 (by kernel_rfl) (by kernel_rfl) (hD (Heap.part (A := mdE p3 p4 p b1 b2 FA fc OA oc out2) H) (by omega) (by omega)) ?_
     rintro e W1 ⟨rfl, FA2, fc2, OA2, oc2, H'⟩
     refine ⟨_, rfl, ?_⟩
     have H := Heap.step (A := mdE p3 p4 p b1 b2 FA fc OA oc out2) H H' (fun _ h => h); clear H'; unfold mdE at H; simp only [List.cons_append, List.nil_append] at H
     refine k_nc ?_
     refine k_rg ?_
     refine s_run rfl rfl (r_mv (v := .func _ _ _) rfl) ?_
     refine s_run rfl rfl (r_la H 5 rfl rfl rfl ag49 sz49) ?_
     refine s_callV rfl rfl rfl Try.func48 (by kernel_rfl) (by kernel_rfl) (hD (Heap.part (A := mdE p3 p4 p b1 b2 FA2 fc2 OA2 oc2 (out2 ++ [(3, 0)])) H) ho3 hbe) ?_
     rintro e W1 ⟨rfl, FA3, fc3, OA3, oc3, H'⟩
     refine ⟨_, rfl, ?_⟩
     have H := Heap.step (A := mdE p3 p4 p b1 b2 FA2 fc2 OA2 oc2 (out2 ++ [(3, 0)])) H H' (fun _ h => h); clear H'
     refine k_nil ?_
     refine b_norm ?_
     refine c_norm ?_
     refine k_rg ?_
     refine s_run rfl rfl (r_add rfl rfl (wI (by omega))) ?_
     refine s_run rfl rfl (rmi rfl) ?_
     refine k_nil ?_
     refine c_round ?_
     refine ⟨_, _, ?_, rfl, i + 1, FA3, fc3, OA3, oc3, _, by omega, rfl, hst.symm, rfl, rfl, rfl, by rw [hA]; rfl, rfl, rfl, H.drops⟩
     omega
    | false =>
     rw [if_neg (by simp), List.append_nil] at hri
     have e3 : out ++ rIn out ++ [(5, m)] = out2 ++ [(5, m)] := by rw [hri, ho2]
     rw [e3] at hst
     refine k_sg ?_
     refine s_run rfl rfl (r_lssF rfl rfl (by omega)) ?_
     refine k_nc ?_
     refine k_seq ?_
     refine k_f rfl ?_
     refine k_exit ?_
     refine c_exit ?_
     refine c_exit ?_
     refine b_hit ?_
     refine c_norm ?_
     refine k_sg ?_
     refine s_run rfl rfl (rmb rfl) ?_
     refine k_nc ?_
     refine k_f rfl ?_
     refine k_skip ?_
     refine c_norm ?_
     refine k_rg ?_
     refine s_run rfl rfl (r_mv (v := .func _ _ _) rfl) ?_
     refine s_run rfl rfl (r_la H 5 rfl rfl rfl ag49 sz49) ?_
     refine s_callV rfl rfl rfl Try.func48 (by kernel_rfl) (by kernel_rfl) (hD (Heap.part (A := mdE p3 p4 p b1 b2 FA fc OA oc out2) H) (by omega) hbe) ?_
     rintro e W1 ⟨rfl, FA2, fc2, OA2, oc2, H'⟩
     refine ⟨_, rfl, ?_⟩
     have H := Heap.step (A := mdE p3 p4 p b1 b2 FA fc OA oc out2) H H' (fun _ h => h); clear H'
     refine k_nil ?_
     refine b_norm ?_
     refine c_norm ?_
     refine k_rg ?_
     refine s_run rfl rfl (r_add rfl rfl (wI (by omega))) ?_
     refine s_run rfl rfl (rmi rfl) ?_
     refine k_nil ?_
     refine c_round ?_
     refine ⟨_, _, ?_, rfl, i + 1, FA2, fc2, OA2, oc2, _, by omega, rfl, hst.symm, rfl, rfl, rfl, by rw [hA]; rfl, rfl, rfl, H.drops⟩
     omega
  ·rw [if_neg h5] at hst
   unfold mdE at H
   by_cases k5 : k = 5
   ·refine k_sg ?_
    refine s_run rfl rfl (r_lssT rfl rfl (by omega)) ?_
    refine k_nc ?_
    refine k_seq ?_
    refine k_t rfl ?_
    refine k_skip ?_
    refine c_norm ?_
    refine k_seq ?_
    refine k_b ?_
    refine k_sg ?_
    refine s_run rfl rfl (r_ix (i := i) rfl rfl (by omega) (by omega) Try.underlying44 sz49) ?_
    refine s_run rfl rfl (r_lA (enc := fun v : Value => v) (zs := [.int .i64 k, .int .i64 m]) (hre.later H.only (by simp)) rfl rfl ag49 sz49) ?_
    refine s_al H rfl inf49 ?_
    intro p7 _ H'; clear H; have H := H'; clear H'
    refine s_sw H 0 rfl rfl rfl rfl rfl rfl rfl sz49 ?_
    clear H; intro _ H; simp only [jA, jB, jC, jD, jE, jF, jG, jH, jI, jJ, jK, Nat.reduceAdd] at H
    refine k_nc ?_
    refine k_seq ?_
    refine k_sg ?_
    refine s_run rfl rfl (r_fa0 rfl fo49_0) ?_
    refine s_run rfl rfl (r_lo H 0 rfl rfl rfl ag3) ?_
    refine s_run rfl rfl (r_eqlT rfl rfl (by omega)) ?_
    refine s_run rfl rfl (rmb rfl) ?_
    refine s_run rfl (g_on 22 (by kernel_rfl) rfl) (r_fa0 rfl fo49_1) ?_
    refine s_run rfl (g_on 22 (by kernel_rfl) rfl) (r_lo H 0 rfl rfl rfl ag3) ?_
    refine s_run rfl (g_on 22 (by kernel_rfl) rfl) (r_geqF rfl rfl (by omega)) ?_
    refine s_run rfl rfl (r_pkT (v := .bool _) rfl rfl) ?_
    refine k_nc ?_
    refine k_f rfl ?_
    refine k_skip ?_
    refine c_norm ?_
    refine k_rg ?_
    refine s_run rfl rfl (r_mv (v := .func _ _ _) rfl) ?_
    refine s_run rfl rfl (r_la H 0 rfl rfl rfl ag49 sz49) ?_
    refine s_callV rfl rfl rfl Try.func48 (by kernel_rfl) (by kernel_rfl) (hD (Heap.part (A := mdE p3 p4 p b1 b2 FA fc OA oc out) (H.order [1, 2, 3, 4, 0] rfl rfl)) (by omega) hbe) ?_
    rintro e W1 ⟨rfl, FA2, fc2, OA2, oc2, H'⟩
    refine ⟨_, rfl, ?_⟩
    have H := Heap.step (A := mdE p3 p4 p b1 b2 FA fc OA oc out) (L := [_]) (H.order [1, 2, 3, 4, 0] rfl rfl) H' (fun _ h => h); clear H'
    refine k_nil ?_
    refine b_norm ?_
    refine c_norm ?_
    refine k_rg ?_
    refine s_run rfl rfl (r_add rfl rfl (wI (by omega))) ?_
    refine s_run rfl rfl (rmi rfl) ?_
    refine k_nil ?_
    refine c_round ?_
    refine ⟨_, _, ?_, rfl, i + 1, FA2, fc2, OA2, oc2, _, by omega, rfl, hst.symm, rfl, rfl, rfl, by rw [hA]; rfl, rfl, rfl, H.drops⟩
    omega
   ·refine k_sg ?_
    refine s_run rfl rfl (r_lssT rfl rfl (by omega)) ?_
    refine k_nc ?_
    refine k_seq ?_
    refine k_t rfl ?_
    refine k_skip ?_
    refine c_norm ?_
    refine k_seq ?_
    refine k_b ?_
    refine k_sg ?_
    refine s_run rfl rfl (r_ix (i := i) rfl rfl (by omega) (by omega) Try.underlying44 sz49) ?_
    refine s_run rfl rfl (r_lA (enc := fun v : Value => v) (zs := [.int .i64 k, .int .i64 m]) (hre.later H.only (by simp)) rfl rfl ag49 sz49) ?_
    refine s_al H rfl inf49 ?_
    intro p7 _ H'; clear H; have H := H'; clear H'
    refine s_sw H 0 rfl rfl rfl rfl rfl rfl rfl sz49 ?_
    clear H; intro _ H; simp only [jA, jB, jC, jD, jE, jF, jG, jH, jI, jJ, jK, Nat.reduceAdd] at H
    refine k_nc ?_
    refine k_seq ?_
    refine k_sg ?_
    refine s_run rfl rfl (r_fa0 rfl fo49_0) ?_
    refine s_run rfl rfl (r_lo H 0 rfl rfl rfl ag3) ?_
    refine s_run rfl rfl (r_eqlF rfl rfl (by omega)) ?_
    refine s_run rfl rfl (rmb rfl) ?_
    refine s_off rfl (g_off 22 (by kernel_rfl) rfl rfl) ?_
    refine s_off rfl (g_off 22 (by kernel_rfl) rfl rfl) ?_
    refine s_off rfl (g_off 22 (by kernel_rfl) rfl rfl) ?_
    refine s_run rfl rfl (r_pkF (v := .bool _) rfl rfl) ?_
    refine k_nc ?_
    refine k_f rfl ?_
    refine k_skip ?_
    refine c_norm ?_
    refine k_rg ?_
    refine s_run rfl rfl (r_mv (v := .func _ _ _) rfl) ?_
    refine s_run rfl rfl (r_la H 0 rfl rfl rfl ag49 sz49) ?_
    refine s_callV rfl rfl rfl Try.func48 (by kernel_rfl) (by kernel_rfl) (hD (Heap.part (A := mdE p3 p4 p b1 b2 FA fc OA oc out) (H.order [1, 2, 3, 4, 0] rfl rfl)) (by omega) hbe) ?_
    rintro e W1 ⟨rfl, FA2, fc2, OA2, oc2, H'⟩
    refine ⟨_, rfl, ?_⟩
    have H := Heap.step (A := mdE p3 p4 p b1 b2 FA fc OA oc out) (L := [_]) (H.order [1, 2, 3, 4, 0] rfl rfl) H' (fun _ h => h); clear H'
    refine k_nil ?_
    refine b_norm ?_
    refine c_norm ?_
    refine k_rg ?_
    refine s_run rfl rfl (r_add rfl rfl (wI (by omega))) ?_
    refine s_run rfl rfl (rmi rfl) ?_
    refine k_nil ?_
    refine c_round ?_
    refine ⟨_, _, ?_, rfl, i + 1, FA2, fc2, OA2, oc2, _, by omega, rfl, hst.symm, rfl, rfl, rfl, by rw [hA]; rfl, rfl, rfl, H.drops⟩
    omega
 ·obtain rfl : i = n := by omega
  have et : l.take i = l := by rw [← hl]; exact List.take_length
  rw [et] at hout
  subst hout
  obtain ⟨f, rfl⟩ := live6 f3 f4 f5 f13 f14 f15
  clear f3 f4 f5 f13 f14 f15
  unfold mdE at H
  refine k_sg ?_
  refine s_run rfl rfl (r_lssF rfl rfl (by omega)) ?_
  refine k_nc ?_
  refine k_seq ?_
  refine k_f rfl ?_
  refine k_exit ?_
  refine c_exit ?_
  refine c_exit ?_
  refine b_hit ?_
  refine c_norm ?_
  refine k_sg ?_
  refine s_run rfl rfl (r_lo H 1 rfl rfl rfl ag44) ?_
  refine s_run rfl rfl (ras rfl) ?_
  refine k_nc ?_
  refine k_ret ?_
  refine fin1r (v := .slice _ _ _) rfl rfl ?_
  exact ⟨OA, oc, rfl, ((H.order [2, 0, 1, 3] rfl rfl : Heap w [] ([_] ++ [_, _, _]) _)).drops⟩
end Go.Proofs.Ytpbimgopiammaaa
end
