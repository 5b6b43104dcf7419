/- Parts of the proof, one behind the other. -/
import Derived.Test.YtpbimgopiammaaaKOrderChecksb
set_option linter.unusedSimpArgs false
set_option linter.unusedVariables false
set_option linter.unusedSectionVars false
section
namespace Go.Proofs.Ytpbimgopiammaaa
open Go.RowKit
set_option maxRecDepth 100000
set_option maxHeartbeats 2000000
def rst (x s : Int) (e : Int × Int) : Int := if e.2 < 0 then s else if e.1 = 1 then (if e.2 = x then 1 else s) else if e.1 = 2 then (if e.2 = x ∧ s = 1 then 2 else s) else if e.1 = 3 then (if s = 2 then 0 else s) else s
def rState (l : List (Int × Int)) (x : Int) : Int := l.foldl (rst x) 0
theorem rState_at (A : Option Addr) (n c : Nat) (l : List (Int × Int)) (x : Int) (w : World) (hS : l.length ≠ 0 → ∃ b o, A = some ⟨b, o, none⟩ ∧ evP b o w l) (hl : l.length = n) (hn : n ≤ 100000) :
  Calls Try.prog 44 [.slice A n c, .int .i64 x].toArray w fun e w' => e = .returned (.int .i64 (rState l x)) ∧ Only [] w w' := by
 have H := Heap.nil w
 refine k_in (N := 51) Try.func44 rfl rfl rfl ?_
 refine k_sg ?_
 refine s_run rfl rfl (rai rfl) ?_
 refine k_nc ?_
 refine k_sg ?_
 refine s_run rfl rfl (rai rfl) ?_
 refine k_nc ?_
 refine k_seq ?_
 refine k_sg ?_
 refine s_run rfl rfl (rai rfl) ?_
 refine k_nc ?_
 refine k_b ?_
 refine k_loop (fun z f W => ∃ (i : Nat) (s : Int), i ≤ n ∧ z = n - i ∧ s = rState (l.take i) x ∧ f 0 = .slice A n c ∧ f 1 = .int .i64 x ∧ f 5 = .int .i64 s ∧ f 6 = .int .i64 i ∧ Heap w [] [] W) n ⟨0, 0, by omega, rfl, rfl, rfl, rfl, rfl, rfl, H⟩ ?_
 clear H
 rintro z f W ⟨i, s, hi, rfl, hs, f0, f1, f5, f6, H⟩
 by_cases hlt : i < n
 ·obtain ⟨e, he⟩ : ∃ e, l[i]? = some e := ⟨_, List.getElem?_eq_getElem (by omega)⟩
  obtain ⟨b, o, hA, hrd⟩ := hS (by omega)
  have hc0 := hrd i e he 0 _ rfl
  have hc1 := hrd i e he 1 _ rfl
  have hst : rState (l.take (i + 1)) x = rst x (rState (l.take i) x) e := snoc_foldl (rst x) 0 _ _ _ he
  rw [← hs] at hst
  rw [hA] at f0
  obtain ⟨f, rfl⟩ := live4 f0 f1 f5 f6
  clear f0 f1 f5 f6
  obtain ⟨k, m⟩ := e
  simp only at hc0 hc1
  unfold rst at hst
  simp only at hst
  by_cases h0 : m < 0
  ·
   rw [if_pos h0] at hst
   refine k_seq ?_
   refine k_sg ?_
   refine s_run rfl rfl (rmi rfl) ?_
   refine s_run rfl rfl (rms rfl) ?_
   refine s_run rfl rfl (r_len rfl Try.underlying53) ?_
   refine s_run rfl rfl (r_lssT rfl rfl (by omega)) ?_
   refine k_nc ?_
   refine k_t rfl ?_
   refine k_skip ?_
   refine c_norm ?_
   refine k_seq ?_
   refine k_b ?_
   refine k_seq ?_
   refine k_sg ?_
   refine s_run rfl rfl (rms rfl) ?_
   refine s_run rfl rfl (rmi rfl) ?_
   refine s_run rfl rfl (r_ix (i := i) rfl rfl (by omega) (by omega) Try.underlying53 sz67) ?_
   refine s_run rfl rfl (r_fa rfl fo67_1) ?_
   refine s_run rfl rfl (r_lr H rfl hc1 (by simp) ag3) ?_
   refine s_run rfl rfl (r_lssT rfl rfl (by omega)) ?_
   refine k_nc ?_
   refine k_t rfl ?_
   refine k_exit ?_
   refine c_exit ?_
   refine b_hit ?_
   refine c_norm ?_
   refine k_rg ?_
   refine s_run rfl rfl (rmi rfl) ?_
   refine s_run rfl rfl (r_add rfl rfl (wI (by omega))) ?_
   refine s_run rfl rfl (rai rfl) ?_
   refine k_nil ?_
   refine c_round ?_
   refine ⟨_, _, ?_, rfl, i + 1, s, by omega, rfl, hst.symm, by rw [hA]; rfl, rfl, rfl, rfl, H⟩
   omega
  rw [if_neg h0] at hst
  by_cases k1 : k = 1
  ·rw [if_pos k1] at hst
   by_cases hx : m = x
   ·
    rw [if_pos hx] at hst
    refine k_seq ?_
    refine k_sg ?_
    refine s_run rfl rfl (rmi rfl) ?_
    refine s_run rfl rfl (rms rfl) ?_
    refine s_run rfl rfl (r_len rfl Try.underlying53) ?_
    refine s_run rfl rfl (r_lssT rfl rfl (by omega)) ?_
    refine k_nc ?_
    refine k_t rfl ?_
    refine k_skip ?_
    refine c_norm ?_
    refine k_seq ?_
    refine k_b ?_
    refine k_seq ?_
    refine k_sg ?_
    refine s_run rfl rfl (rms rfl) ?_
    refine s_run rfl rfl (rmi rfl) ?_
    refine s_run rfl rfl (r_ix (i := i) rfl rfl (by omega) (by omega) Try.underlying53 sz67) ?_
    refine s_run rfl rfl (r_fa rfl fo67_1) ?_
    refine s_run rfl rfl (r_lr H rfl hc1 (by simp) ag3) ?_
    refine s_run rfl rfl (r_lssF rfl rfl (by omega)) ?_
    refine k_nc ?_
    refine k_f rfl ?_
    refine k_skip ?_
    refine c_norm ?_
    refine k_sg ?_
    refine s_run rfl rfl (rms rfl) ?_
    refine s_run rfl rfl (rmi rfl) ?_
    refine s_run rfl rfl (r_ix (i := i) rfl rfl (by omega) (by omega) Try.underlying53 sz67) ?_
    refine s_run rfl rfl (r_fa rfl fo67_0) ?_
    refine s_run rfl rfl (r_lr H rfl hc0 (by simp) ag3) ?_
    refine k_nc ?_
    refine k_b ?_
    refine k_sg ?_
    refine s_run rfl rfl (r_eqlT rfl rfl (by omega)) ?_
    refine s_run rfl rfl (rab rfl) ?_
    refine k_nc ?_
    refine k_t rfl ?_
    refine k_sg ?_
    refine s_run rfl rfl (rms rfl) ?_
    refine s_run rfl rfl (rmi rfl) ?_
    refine s_run rfl rfl (r_ix (i := i) rfl rfl (by omega) (by omega) Try.underlying53 sz67) ?_
    refine s_run rfl rfl (r_fa rfl fo67_1) ?_
    refine s_run rfl rfl (r_lr H rfl hc1 (by simp) ag3) ?_
    refine s_run rfl rfl (rmi rfl) ?_
    refine s_run rfl rfl (r_eqlT rfl rfl (by omega)) ?_
    refine k_nc ?_
    refine k_t rfl ?_
    refine k_rg ?_
    refine s_run rfl rfl (rai rfl) ?_
    refine k_nil ?_
    refine b_norm ?_
    refine b_norm ?_
    refine c_norm ?_
    refine k_rg ?_
    refine s_run rfl rfl (rmi rfl) ?_
    refine s_run rfl rfl (r_add rfl rfl (wI (by omega))) ?_
    refine s_run rfl rfl (rai rfl) ?_
    refine k_nil ?_
    refine c_round ?_
    refine ⟨_, _, ?_, rfl, i + 1, 1, by omega, rfl, hst.symm, by rw [hA]; rfl, rfl, rfl, rfl, H⟩
    omega
   ·
    rw [if_neg hx] at hst
    refine k_seq ?_
    refine k_sg ?_
    refine s_run rfl rfl (rmi rfl) ?_
    refine s_run rfl rfl (rms rfl) ?_
    refine s_run rfl rfl (r_len rfl Try.underlying53) ?_
    refine s_run rfl rfl (r_lssT rfl rfl (by omega)) ?_
    refine k_nc ?_
    refine k_t rfl ?_
    refine k_skip ?_
    refine c_norm ?_
    refine k_seq ?_
    refine k_b ?_
    refine k_seq ?_
    refine k_sg ?_
    refine s_run rfl rfl (rms rfl) ?_
    refine s_run rfl rfl (rmi rfl) ?_
    refine s_run rfl rfl (r_ix (i := i) rfl rfl (by omega) (by omega) Try.underlying53 sz67) ?_
    refine s_run rfl rfl (r_fa rfl fo67_1) ?_
    refine s_run rfl rfl (r_lr H rfl hc1 (by simp) ag3) ?_
    refine s_run rfl rfl (r_lssF rfl rfl (by omega)) ?_
    refine k_nc ?_
    refine k_f rfl ?_
    refine k_skip ?_
    refine c_norm ?_
    refine k_sg ?_
    refine s_run rfl rfl (rms rfl) ?_
    refine s_run rfl rfl (rmi rfl) ?_
    refine s_run rfl rfl (r_ix (i := i) rfl rfl (by omega) (by omega) Try.underlying53 sz67) ?_
    refine s_run rfl rfl (r_fa rfl fo67_0) ?_
    refine s_run rfl rfl (r_lr H rfl hc0 (by simp) ag3) ?_
    refine k_nc ?_
    refine k_b ?_
    refine k_sg ?_
    refine s_run rfl rfl (r_eqlT rfl rfl (by omega)) ?_
    refine s_run rfl rfl (rab rfl) ?_
    refine k_nc ?_
    refine k_t rfl ?_
    refine k_sg ?_
    refine s_run rfl rfl (rms rfl) ?_
    refine s_run rfl rfl (rmi rfl) ?_
    refine s_run rfl rfl (r_ix (i := i) rfl rfl (by omega) (by omega) Try.underlying53 sz67) ?_
    refine s_run rfl rfl (r_fa rfl fo67_1) ?_
    refine s_run rfl rfl (r_lr H rfl hc1 (by simp) ag3) ?_
    refine s_run rfl rfl (rmi rfl) ?_
    refine s_run rfl rfl (r_eqlF rfl rfl (by omega)) ?_
    refine k_nc ?_
    refine k_f rfl ?_
    refine k_skip ?_
    refine b_norm ?_
    refine b_norm ?_
    refine c_norm ?_
    refine k_rg ?_
    refine s_run rfl rfl (rmi rfl) ?_
    refine s_run rfl rfl (r_add rfl rfl (wI (by omega))) ?_
    refine s_run rfl rfl (rai rfl) ?_
    refine k_nil ?_
    refine c_round ?_
    refine ⟨_, _, ?_, rfl, i + 1, s, by omega, rfl, hst.symm, by rw [hA]; rfl, rfl, rfl, rfl, H⟩
    omega
  rw [if_neg k1] at hst
  by_cases k2 : k = 2
  ·rw [if_pos k2] at hst
   by_cases hx : m = x
   ·by_cases s1 : s = 1
    ·
     rw [if_pos ⟨hx, s1⟩] at hst
     refine k_seq ?_
     refine k_sg ?_
     refine s_run rfl rfl (rmi rfl) ?_
     refine s_run rfl rfl (rms rfl) ?_
     refine s_run rfl rfl (r_len rfl Try.underlying53) ?_
     refine s_run rfl rfl (r_lssT rfl rfl (by omega)) ?_
     refine k_nc ?_
     refine k_t rfl ?_
     refine k_skip ?_
     refine c_norm ?_
     refine k_seq ?_
     refine k_b ?_
     refine k_seq ?_
     refine k_sg ?_
     refine s_run rfl rfl (rms rfl) ?_
     refine s_run rfl rfl (rmi rfl) ?_
     refine s_run rfl rfl (r_ix (i := i) rfl rfl (by omega) (by omega) Try.underlying53 sz67) ?_
     refine s_run rfl rfl (r_fa rfl fo67_1) ?_
     refine s_run rfl rfl (r_lr H rfl hc1 (by simp) ag3) ?_
     refine s_run rfl rfl (r_lssF rfl rfl (by omega)) ?_
     refine k_nc ?_
     refine k_f rfl ?_
     refine k_skip ?_
     refine c_norm ?_
     refine k_sg ?_
     refine s_run rfl rfl (rms rfl) ?_
     refine s_run rfl rfl (rmi rfl) ?_
     refine s_run rfl rfl (r_ix (i := i) rfl rfl (by omega) (by omega) Try.underlying53 sz67) ?_
     refine s_run rfl rfl (r_fa rfl fo67_0) ?_
     refine s_run rfl rfl (r_lr H rfl hc0 (by simp) ag3) ?_
     refine k_nc ?_
     refine k_b ?_
     refine k_sg ?_
     refine s_run rfl rfl (r_eqlF rfl rfl (by omega)) ?_
     refine s_run rfl rfl (rab rfl) ?_
     refine k_nc ?_
     refine k_f rfl ?_
     refine k_sg ?_
     refine s_run rfl rfl (r_eqlT rfl rfl (by omega)) ?_
     refine s_run rfl rfl (rab rfl) ?_
     refine k_nc ?_
     refine k_t rfl ?_
     refine k_sg ?_
     refine s_run rfl rfl (rms rfl) ?_
     refine s_run rfl rfl (rmi rfl) ?_
     refine s_run rfl rfl (r_ix (i := i) rfl rfl (by omega) (by omega) Try.underlying53 sz67) ?_
     refine s_run rfl rfl (r_fa rfl fo67_1) ?_
     refine s_run rfl rfl (r_lr H rfl hc1 (by simp) ag3) ?_
     refine s_run rfl rfl (rmi rfl) ?_
     refine s_run rfl rfl (r_eqlT rfl rfl (by omega)) ?_
     refine s_run rfl rfl (rmb rfl) ?_
     refine s_run rfl (g_on 42 (by kernel_rfl) rfl) (rmi rfl) ?_
     refine s_run rfl (g_on 42 (by kernel_rfl) rfl) (r_eqlT rfl rfl (by omega)) ?_
     refine s_run rfl rfl (r_pkT (v := .bool _) rfl rfl) ?_
     refine k_nc ?_
     refine k_t rfl ?_
     refine k_rg ?_
     refine s_run rfl rfl (rai rfl) ?_
     refine k_nil ?_
     refine b_norm ?_
     refine b_norm ?_
     refine c_norm ?_
     refine k_rg ?_
     refine s_run rfl rfl (rmi rfl) ?_
     refine s_run rfl rfl (r_add rfl rfl (wI (by omega))) ?_
     refine s_run rfl rfl (rai rfl) ?_
     refine k_nil ?_
     refine c_round ?_
     refine ⟨_, _, ?_, rfl, i + 1, 2, by omega, rfl, hst.symm, by rw [hA]; rfl, rfl, rfl, rfl, H⟩
     omega
    ·
     rw [if_neg (fun h => s1 h.2)] at hst
     refine k_seq ?_
     refine k_sg ?_
     refine s_run rfl rfl (rmi rfl) ?_
     refine s_run rfl rfl (rms rfl) ?_
     refine s_run rfl rfl (r_len rfl Try.underlying53) ?_
     refine s_run rfl rfl (r_lssT rfl rfl (by omega)) ?_
     refine k_nc ?_
     refine k_t rfl ?_
     refine k_skip ?_
     refine c_norm ?_
     refine k_seq ?_
     refine k_b ?_
     refine k_seq ?_
     refine k_sg ?_
     refine s_run rfl rfl (rms rfl) ?_
     refine s_run rfl rfl (rmi rfl) ?_
     refine s_run rfl rfl (r_ix (i := i) rfl rfl (by omega) (by omega) Try.underlying53 sz67) ?_
     refine s_run rfl rfl (r_fa rfl fo67_1) ?_
     refine s_run rfl rfl (r_lr H rfl hc1 (by simp) ag3) ?_
     refine s_run rfl rfl (r_lssF rfl rfl (by omega)) ?_
     refine k_nc ?_
     refine k_f rfl ?_
     refine k_skip ?_
     refine c_norm ?_
     refine k_sg ?_
     refine s_run rfl rfl (rms rfl) ?_
     refine s_run rfl rfl (rmi rfl) ?_
     refine s_run rfl rfl (r_ix (i := i) rfl rfl (by omega) (by omega) Try.underlying53 sz67) ?_
     refine s_run rfl rfl (r_fa rfl fo67_0) ?_
     refine s_run rfl rfl (r_lr H rfl hc0 (by simp) ag3) ?_
     refine k_nc ?_
     refine k_b ?_
     refine k_sg ?_
     refine s_run rfl rfl (r_eqlF rfl rfl (by omega)) ?_
     refine s_run rfl rfl (rab rfl) ?_
     refine k_nc ?_
     refine k_f rfl ?_
     refine k_sg ?_
     refine s_run rfl rfl (r_eqlT rfl rfl (by omega)) ?_
     refine s_run rfl rfl (rab rfl) ?_
     refine k_nc ?_
     refine k_t rfl ?_
     refine k_sg ?_
     refine s_run rfl rfl (rms rfl) ?_
     refine s_run rfl rfl (rmi rfl) ?_
     refine s_run rfl rfl (r_ix (i := i) rfl rfl (by omega) (by omega) Try.underlying53 sz67) ?_
     refine s_run rfl rfl (r_fa rfl fo67_1) ?_
     refine s_run rfl rfl (r_lr H rfl hc1 (by simp) ag3) ?_
     refine s_run rfl rfl (rmi rfl) ?_
     refine s_run rfl rfl (r_eqlT rfl rfl (by omega)) ?_
     refine s_run rfl rfl (rmb rfl) ?_
     refine s_run rfl (g_on 42 (by kernel_rfl) rfl) (rmi rfl) ?_
     refine s_run rfl (g_on 42 (by kernel_rfl) rfl) (r_eqlF rfl rfl (by omega)) ?_
     refine s_run rfl rfl (r_pkT (v := .bool _) rfl rfl) ?_
     refine k_nc ?_
     refine k_f rfl ?_
     refine k_skip ?_
     refine b_norm ?_
     refine b_norm ?_
     refine c_norm ?_
     refine k_rg ?_
     refine s_run rfl rfl (rmi rfl) ?_
     refine s_run rfl rfl (r_add rfl rfl (wI (by omega))) ?_
     refine s_run rfl rfl (rai rfl) ?_
     refine k_nil ?_
     refine c_round ?_
     refine ⟨_, _, ?_, rfl, i + 1, s, by omega, rfl, hst.symm, by rw [hA]; rfl, rfl, rfl, rfl, H⟩
     omega
   ·
    rw [if_neg (fun h => hx h.1)] at hst
    refine k_seq ?_
    refine k_sg ?_
    refine s_run rfl rfl (rmi rfl) ?_
    refine s_run rfl rfl (rms rfl) ?_
    refine s_run rfl rfl (r_len rfl Try.underlying53) ?_
    refine s_run rfl rfl (r_lssT rfl rfl (by omega)) ?_
    refine k_nc ?_
    refine k_t rfl ?_
    refine k_skip ?_
    refine c_norm ?_
    refine k_seq ?_
    refine k_b ?_
    refine k_seq ?_
    refine k_sg ?_
    refine s_run rfl rfl (rms rfl) ?_
    refine s_run rfl rfl (rmi rfl) ?_
    refine s_run rfl rfl (r_ix (i := i) rfl rfl (by omega) (by omega) Try.underlying53 sz67) ?_
    refine s_run rfl rfl (r_fa rfl fo67_1) ?_
    refine s_run rfl rfl (r_lr H rfl hc1 (by simp) ag3) ?_
    refine s_run rfl rfl (r_lssF rfl rfl (by omega)) ?_
    refine k_nc ?_
    refine k_f rfl ?_
    refine k_skip ?_
    refine c_norm ?_
    refine k_sg ?_
    refine s_run rfl rfl (rms rfl) ?_
    refine s_run rfl rfl (rmi rfl) ?_
    refine s_run rfl rfl (r_ix (i := i) rfl rfl (by omega) (by omega) Try.underlying53 sz67) ?_
    refine s_run rfl rfl (r_fa rfl fo67_0) ?_
    refine s_run rfl rfl (r_lr H rfl hc0 (by simp) ag3) ?_
    refine k_nc ?_
    refine k_b ?_
    refine k_sg ?_
    refine s_run rfl rfl (r_eqlF rfl rfl (by omega)) ?_
    refine s_run rfl rfl (rab rfl) ?_
    refine k_nc ?_
    refine k_f rfl ?_
    refine k_sg ?_
    refine s_run rfl rfl (r_eqlT rfl rfl (by omega)) ?_
    refine s_run rfl rfl (rab rfl) ?_
    refine k_nc ?_
    refine k_t rfl ?_
    refine k_sg ?_
    refine s_run rfl rfl (rms rfl) ?_
    refine s_run rfl rfl (rmi rfl) ?_
    refine s_run rfl rfl (r_ix (i := i) rfl rfl (by omega) (by omega) Try.underlying53 sz67) ?_
    refine s_run rfl rfl (r_fa rfl fo67_1) ?_
    refine s_run rfl rfl (r_lr H rfl hc1 (by simp) ag3) ?_
    refine s_run rfl rfl (rmi rfl) ?_
    refine s_run rfl rfl (r_eqlF rfl rfl (by omega)) ?_
    refine s_run rfl rfl (rmb rfl) ?_
    refine s_off rfl (g_off 42 (by kernel_rfl) rfl rfl) ?_
    refine s_off rfl (g_off 42 (by kernel_rfl) rfl rfl) ?_
    refine s_run rfl rfl (r_pkF (v := .bool _) rfl rfl) ?_
    refine k_nc ?_
    refine k_f rfl ?_
    refine k_skip ?_
    refine b_norm ?_
    refine b_norm ?_
    refine c_norm ?_
    refine k_rg ?_
    refine s_run rfl rfl (rmi rfl) ?_
    refine s_run rfl rfl (r_add rfl rfl (wI (by omega))) ?_
    refine s_run rfl rfl (rai rfl) ?_
    refine k_nil ?_
    refine c_round ?_
    refine ⟨_, _, ?_, rfl, i + 1, s, by omega, rfl, hst.symm, by rw [hA]; rfl, rfl, rfl, rfl, H⟩
    omega
  rw [if_neg k2] at hst
  by_cases k3 : k = 3
  ·rw [if_pos k3] at hst
   by_cases s2 : s = 2
   ·
    rw [if_pos s2] at hst
    refine k_seq ?_
    refine k_sg ?_
    refine s_run rfl rfl (rmi rfl) ?_
    refine s_run rfl rfl (rms rfl) ?_
    refine s_run rfl rfl (r_len rfl Try.underlying53) ?_
    refine s_run rfl rfl (r_lssT rfl rfl (by omega)) ?_
    refine k_nc ?_
    refine k_t rfl ?_
    refine k_skip ?_
    refine c_norm ?_
    refine k_seq ?_
    refine k_b ?_
    refine k_seq ?_
    refine k_sg ?_
    refine s_run rfl rfl (rms rfl) ?_
    refine s_run rfl rfl (rmi rfl) ?_
    refine s_run rfl rfl (r_ix (i := i) rfl rfl (by omega) (by omega) Try.underlying53 sz67) ?_
    refine s_run rfl rfl (r_fa rfl fo67_1) ?_
    refine s_run rfl rfl (r_lr H rfl hc1 (by simp) ag3) ?_
    refine s_run rfl rfl (r_lssF rfl rfl (by omega)) ?_
    refine k_nc ?_
    refine k_f rfl ?_
    refine k_skip ?_
    refine c_norm ?_
    refine k_sg ?_
    refine s_run rfl rfl (rms rfl) ?_
    refine s_run rfl rfl (rmi rfl) ?_
    refine s_run rfl rfl (r_ix (i := i) rfl rfl (by omega) (by omega) Try.underlying53 sz67) ?_
    refine s_run rfl rfl (r_fa rfl fo67_0) ?_
    refine s_run rfl rfl (r_lr H rfl hc0 (by simp) ag3) ?_
    refine k_nc ?_
    refine k_b ?_
    refine k_sg ?_
    refine s_run rfl rfl (r_eqlF rfl rfl (by omega)) ?_
    refine s_run rfl rfl (rab rfl) ?_
    refine k_nc ?_
    refine k_f rfl ?_
    refine k_sg ?_
    refine s_run rfl rfl (r_eqlF rfl rfl (by omega)) ?_
    refine s_run rfl rfl (rab rfl) ?_
    refine k_nc ?_
    refine k_f rfl ?_
    refine k_sg ?_
    refine s_run rfl rfl (r_eqlT rfl rfl (by omega)) ?_
    refine s_run rfl rfl (rab rfl) ?_
    refine k_nc ?_
    refine k_t rfl ?_
    refine k_sg ?_
    refine s_run rfl rfl (rmi rfl) ?_
    refine s_run rfl rfl (r_eqlT rfl rfl (by omega)) ?_
    refine k_nc ?_
    refine k_t rfl ?_
    refine k_rg ?_
    refine s_run rfl rfl (rai rfl) ?_
    refine k_nil ?_
    refine b_norm ?_
    refine b_norm ?_
    refine c_norm ?_
    refine k_rg ?_
    refine s_run rfl rfl (rmi rfl) ?_
    refine s_run rfl rfl (r_add rfl rfl (wI (by omega))) ?_
    refine s_run rfl rfl (rai rfl) ?_
    refine k_nil ?_
    refine c_round ?_
    refine ⟨_, _, ?_, rfl, i + 1, 0, by omega, rfl, hst.symm, by rw [hA]; rfl, rfl, rfl, rfl, H⟩
    omega
   ·
    rw [if_neg s2] at hst
    refine k_seq ?_
    refine k_sg ?_
    refine s_run rfl rfl (rmi rfl) ?_
    refine s_run rfl rfl (rms rfl) ?_
    refine s_run rfl rfl (r_len rfl Try.underlying53) ?_
    refine s_run rfl rfl (r_lssT rfl rfl (by omega)) ?_
    refine k_nc ?_
    refine k_t rfl ?_
    refine k_skip ?_
    refine c_norm ?_
    refine k_seq ?_
    refine k_b ?_
    refine k_seq ?_
    refine k_sg ?_
    refine s_run rfl rfl (rms rfl) ?_
    refine s_run rfl rfl (rmi rfl) ?_
    refine s_run rfl rfl (r_ix (i := i) rfl rfl (by omega) (by omega) Try.underlying53 sz67) ?_
    refine s_run rfl rfl (r_fa rfl fo67_1) ?_
    refine s_run rfl rfl (r_lr H rfl hc1 (by simp) ag3) ?_
    refine s_run rfl rfl (r_lssF rfl rfl (by omega)) ?_
    refine k_nc ?_
    refine k_f rfl ?_
    refine k_skip ?_
    refine c_norm ?_
    refine k_sg ?_
    refine s_run rfl rfl (rms rfl) ?_
    refine s_run rfl rfl (rmi rfl) ?_
    refine s_run rfl rfl (r_ix (i := i) rfl rfl (by omega) (by omega) Try.underlying53 sz67) ?_
    refine s_run rfl rfl (r_fa rfl fo67_0) ?_
    refine s_run rfl rfl (r_lr H rfl hc0 (by simp) ag3) ?_
    refine k_nc ?_
    refine k_b ?_
    refine k_sg ?_
    refine s_run rfl rfl (r_eqlF rfl rfl (by omega)) ?_
    refine s_run rfl rfl (rab rfl) ?_
    refine k_nc ?_
    refine k_f rfl ?_
    refine k_sg ?_
    refine s_run rfl rfl (r_eqlF rfl rfl (by omega)) ?_
    refine s_run rfl rfl (rab rfl) ?_
    refine k_nc ?_
    refine k_f rfl ?_
    refine k_sg ?_
    refine s_run rfl rfl (r_eqlT rfl rfl (by omega)) ?_
    refine s_run rfl rfl (rab rfl) ?_
    refine k_nc ?_
    refine k_t rfl ?_
    refine k_sg ?_
    refine s_run rfl rfl (rmi rfl) ?_
    refine s_run rfl rfl (r_eqlF rfl rfl (by omega)) ?_
    refine k_nc ?_
    refine k_f rfl ?_
    refine k_skip ?_
    refine b_norm ?_
    refine b_norm ?_
    refine c_norm ?_
    refine k_rg ?_
    refine s_run rfl rfl (rmi rfl) ?_
    refine s_run rfl rfl (r_add rfl rfl (wI (by omega))) ?_
    refine s_run rfl rfl (rai rfl) ?_
    refine k_nil ?_
    refine c_round ?_
    refine ⟨_, _, ?_, rfl, i + 1, s, by omega, rfl, hst.symm, by rw [hA]; rfl, rfl, rfl, rfl, H⟩
    omega
  ·
   rw [if_neg k3] at hst
   refine k_seq ?_
   refine k_sg ?_
   refine s_run rfl rfl (rmi rfl) ?_
   refine s_run rfl rfl (rms rfl) ?_
   refine s_run rfl rfl (r_len rfl Try.underlying53) ?_
   refine s_run rfl rfl (r_lssT rfl rfl (by omega)) ?_
   refine k_nc ?_
   refine k_t rfl ?_
   refine k_skip ?_
   refine c_norm ?_
   refine k_seq ?_
   refine k_b ?_
   refine k_seq ?_
   refine k_sg ?_
   refine s_run rfl rfl (rms rfl) ?_
   refine s_run rfl rfl (rmi rfl) ?_
   refine s_run rfl rfl (r_ix (i := i) rfl rfl (by omega) (by omega) Try.underlying53 sz67) ?_
   refine s_run rfl rfl (r_fa rfl fo67_1) ?_
   refine s_run rfl rfl (r_lr H rfl hc1 (by simp) ag3) ?_
   refine s_run rfl rfl (r_lssF rfl rfl (by omega)) ?_
   refine k_nc ?_
   refine k_f rfl ?_
   refine k_skip ?_
   refine c_norm ?_
   refine k_sg ?_
   refine s_run rfl rfl (rms rfl) ?_
   refine s_run rfl rfl (rmi rfl) ?_
   refine s_run rfl rfl (r_ix (i := i) rfl rfl (by omega) (by omega) Try.underlying53 sz67) ?_
   refine s_run rfl rfl (r_fa rfl fo67_0) ?_
   refine s_run rfl rfl (r_lr H rfl hc0 (by simp) ag3) ?_
   refine k_nc ?_
   refine k_b ?_
   refine k_sg ?_
   refine s_run rfl rfl (r_eqlF rfl rfl (by omega)) ?_
   refine s_run rfl rfl (rab rfl) ?_
   refine k_nc ?_
   refine k_f rfl ?_
   refine k_sg ?_
   refine s_run rfl rfl (r_eqlF rfl rfl (by omega)) ?_
   refine s_run rfl rfl (rab rfl) ?_
   refine k_nc ?_
   refine k_f rfl ?_
   refine k_sg ?_
   refine s_run rfl rfl (r_eqlF rfl rfl (by omega)) ?_
   refine s_run rfl rfl (rab rfl) ?_
   refine k_nc ?_
   refine k_f rfl ?_
   refine k_skip ?_
   refine b_norm ?_
   refine b_norm ?_
   refine c_norm ?_
   refine k_rg ?_
   refine s_run rfl rfl (rmi rfl) ?_
   refine s_run rfl rfl (r_add rfl rfl (wI (by omega))) ?_
   refine s_run rfl rfl (rai rfl) ?_
   refine k_nil ?_
   refine c_round ?_
   refine ⟨_, _, ?_, rfl, i + 1, s, by omega, rfl, hst.symm, by rw [hA]; rfl, rfl, rfl, rfl, H⟩
   omega
 ·obtain rfl : i = n := by omega
  have et : l.take i = l := by rw [← hl]; exact List.take_length
  rw [et] at hs
  subst hs
  obtain ⟨f, rfl⟩ := live4 f0 f1 f5 f6
  clear f0 f1 f5 f6
  refine k_seq ?_
  refine k_sg ?_
  refine s_run rfl rfl (rmi rfl) ?_
  refine s_run rfl rfl (rms rfl) ?_
  refine s_run rfl rfl (r_len rfl Try.underlying53) ?_
  refine s_run rfl rfl (r_lssF rfl rfl (by omega)) ?_
  refine k_nc ?_
  refine k_f rfl ?_
  refine k_exit ?_
  refine c_exit ?_
  refine c_exit ?_
  refine b_hit ?_
  refine c_norm ?_
  refine k_sg ?_
  refine s_run rfl rfl (rmi rfl) ?_
  refine s_run rfl rfl (rai rfl) ?_
  refine k_nc ?_
  refine k_ret ?_
  refine fin1r (v := .int _ _) rfl rfl ?_
  exact ⟨rfl, H.only⟩
end Go.Proofs.Ytpbimgopiammaaa
end

section
namespace Go.Proofs.Ytpbimgopiammaaa
theorem mget_same {α β : Type} [DecidableEq α] : ∀ (l : List (α × β)) (a : α) (v : β), mget (mput l a v) a = some v
 | [], a, v => by simp [mput, mget]
 | p :: l, a, v => by
  unfold mput
  split
  ·simp [mget]
  ·rename_i h
   rw [mget, if_neg h]; exact mget_same l a v
theorem mget_other {α β : Type} [DecidableEq α] : ∀ (l : List (α × β)) (a b : α) (v : β), b ≠ a → mget (mput l a v) b = mget l b
 | [], a, b, v, h => by simp [mput, mget, Ne.symm h]
 | p :: l, a, b, v, h => by
  unfold mput
  split
  ·rename_i e
   subst e
   simp [mget, Ne.symm h]
  ·rw [mget, mget, mget_other l a b v h]
theorem mget_keep (l : List (Int × Int)) (x : Int) : (l.map Prod.fst).Nodup → mget (l.filter keepQ) x = if mget l x = some 2 then none else mget l x := by
 induction l with
 | nil => intro _; rfl
 | cons p l ih =>
  intro h
  simp only [List.map_cons, List.nodup_cons] at h
  by_cases hp : p.1 = x
  ·have hno : mget (l.filter keepQ) x = none := (mget_iff _ _).2 fun q hq e => h.1 (by
    rw [hp, ← e]; exact List.mem_map.2 ⟨q, (List.mem_filter.1 hq).1, rfl⟩)
   by_cases h2 : p.2 = 2
   ·have hk : keepQ p = false := by simp [keepQ, h2]
    rw [List.filter_cons_of_neg (by rw [hk]; simp), hno, mget, if_pos hp, h2, if_pos rfl]
   ·have hk : keepQ p = true := by simp [keepQ, h2]
    rw [List.filter_cons_of_pos hk, mget, mget, if_pos hp, if_pos hp, if_neg (fun e => h2 (by injection e))]
  ·rw [mget, if_neg hp, ← ih h.2]
   by_cases hk : keepQ p = true
   ·rw [List.filter_cons_of_pos hk, mget, if_neg hp]
   ·rw [List.filter_cons_of_neg hk]
theorem mput_keys {α β : Type} [DecidableEq α] : ∀ (l : List (α × β)) (a : α) (v : β), (l.map Prod.fst).Nodup → ((mput l a v).map Prod.fst).Nodup ∧ ∀ z, z ∈ (mput l a v).map Prod.fst ↔ z = a ∨ z ∈ l.map Prod.fst
 | [], a, v, _ => by simp [mput]
 | p :: l, a, v, h => by
  simp only [List.map_cons, List.nodup_cons] at h
  unfold mput
  split
  ·rename_i e
   subst e
   exact ⟨by simpa using h, fun z => by simp⟩
  ·rename_i e
   obtain ⟨h1, h2⟩ := mput_keys l a v h.2
   refine ⟨?_, fun z => ?_⟩
   ·simp only [List.map_cons, List.nodup_cons]
    refine ⟨fun hz => ?_, h1⟩
    rcases (h2 p.1).1 hz with hz | hz
    ·exact e hz
    ·exact h.1 hz
   ·simp only [List.map_cons, List.mem_cons, h2 z]
    constructor
    ·rintro (h | h | h)
     ·exact .inr (.inl h)
     ·exact .inl h
     ·exact .inr (.inr h)
    ·rintro (h | h | h)
     ·exact .inr (.inl h)
     ·exact .inl h
     ·exact .inr (.inr h)
end Go.Proofs.Ytpbimgopiammaaa
end

section
namespace Go.Proofs.Ytpbimgopiammaaa
structure LI (s : Ck) (R : Int → Int) : Prop where
 nd : (s.lines.map Prod.fst).Nodup
 v : ∀ x v, mget s.lines x = some v → v = 1 ∨ v = 2
 st : ∀ x, R x = (mget s.lines x).getD 0
theorem LI.same {s s' : Ck} {R R' : Int → Int} (h : LI s R) (hl : s'.lines = s.lines) (hR : ∀ x, R' x = R x) : LI s' R' :=
 ⟨by rw [hl]; exact h.nd, fun x v hv => h.v x v (by rw [← hl]; exact hv), fun x => by rw [hR, hl]; exact h.st x⟩
theorem LI.put {s s' : Ck} {R R' : Int → Int} (h : LI s R) (n v : Int) (hv : v = 1 ∨ v = 2) (hl : s'.lines = mput s.lines n v) (h1 : R' n = v) (h2 : ∀ x, x ≠ n → R' x = R x) : LI s' R' := by
 refine ⟨by rw [hl]; exact (mput_keys s.lines n v h.nd).1, fun x u hu => ?_, fun x => ?_⟩
 ·rw [hl] at hu
  by_cases e : x = n
  ·subst e; rw [mget_same] at hu; injection hu with hu; rw [← hu]; exact hv
  ·rw [mget_other _ _ _ _ e] at hu; exact h.v x u hu
 ·rw [hl]
  by_cases e : x = n
  ·subst e; rw [mget_same, h1]; rfl
  ·rw [mget_other _ _ _ _ e, h2 x e]; exact h.st x
theorem cms_lines (s : Ck) : ∀ l : List Int, (l.foldl Ck.cm1 s).lines = s.lines := fun l => by
 induction l generalizing s with
 | nil => rfl
 | cons x l ih => rw [List.foldl_cons, ih, (cm1_same s x).1]
theorem LI.step {s : Ck} {R : Int → Int} (h : LI s R) (k n : Int) : LI (s.step k n) (fun x => rst x (R x) (k, n)) := by
 unfold Ck.step
 by_cases hbad : k < 1 ∨ 5 < k ∨ n < 0
 ·rw [if_pos hbad]
  refine h.same rfl fun x => ?_
  unfold rst
  by_cases h0 : n < 0
  ·rw [if_pos h0]
  ·rw [if_neg h0, if_neg (by show ¬ k = 1; omega), if_neg (by show ¬ k = 2; omega), if_neg (by show ¬ k = 3; omega)]
 rw [if_neg hbad]
 have h0 : ¬ n < 0 := fun h => hbad (.inr (.inr h))
 by_cases k1 : k = 1
 ·rw [if_pos k1]
  refine h.put n 1 (.inl rfl) rfl ?_ fun x hx => ?_
  ·unfold rst; rw [if_neg h0, if_pos k1, if_pos rfl]
  ·unfold rst; rw [if_neg h0, if_pos k1, if_neg (fun e => hx e.symm)]
 rw [if_neg k1]
 by_cases k2 : k = 2
 ·rw [if_pos k2]
  by_cases hm : mget s.lines n = some 1
  ·rw [if_pos hm]
   have hn : R n = 1 := by rw [h.st, hm]; rfl
   refine h.put n 2 (.inr rfl) rfl ?_ fun x hx => ?_
   ·unfold rst; rw [if_neg h0, if_neg k1, if_pos k2, if_pos ⟨rfl, hn⟩]
   ·unfold rst; rw [if_neg h0, if_neg k1, if_pos k2, if_neg (fun e => hx e.1.symm)]
  ·rw [if_neg hm]
   refine h.same rfl fun x => ?_
   unfold rst; rw [if_neg h0, if_neg k1, if_pos k2, if_neg]
   rintro ⟨e, e2⟩
   have e' : n = x := e
   subst e'
   rw [h.st] at e2
   cases hg : mget s.lines n with
   | none => rw [hg] at e2; simp at e2
   | some v => rw [hg] at e2 hm; simp at e2 hm; exact hm e2
 rw [if_neg k2]
 by_cases k3 : k = 3
 ·rw [if_pos k3]
  have hl : s.fence.bump.lines = s.lines.filter keepQ := rfl
  refine ⟨by rw [hl]; exact (List.filter_sublist.map _).nodup h.nd, fun x v hv => ?_, fun x => ?_⟩
  ·rw [hl, mget_keep _ _ h.nd] at hv
   split at hv
   ·cases hv
   ·exact h.v x v hv
  ·rw [hl, mget_keep _ _ h.nd]
   unfold rst; rw [if_neg h0, if_neg k1, if_neg k2, if_pos k3, h.st]
   cases hg : mget s.lines x with
   | none => simp
   | some v => by_cases e : v = 2 <;> simp [e]
 rw [if_neg k3]
 have hs : ∀ x, rst x (R x) (k, n) = R x := fun x => by unfold rst; rw [if_neg h0, if_neg k1, if_neg k2, if_neg k3]
 by_cases k4 : k = 4
 ·rw [if_pos k4]; exact h.same rfl hs
 ·rw [if_neg k4]; exact h.same (cms_lines s _) hs
theorem LI.steps : ∀ (l : List (Int × Int)) {s : Ck} {R : Int → Int}, LI s R → LI (l.foldl (fun s e => s.step e.1 e.2) s) (fun x => l.foldl (rst x) (R x))
 | [], _, _, h => h
 | e :: l, _, _, h => LI.steps l (h.step e.1 e.2)
theorem chk_LI (l : List (Int × Int)) : LI (chk l) (rState l) :=
 LI.steps l (s := ck0) (R := fun _ => 0) ⟨by simp [ck0], fun x v h => by simp [ck0, mget] at h, fun x => rfl⟩
end Go.Proofs.Ytpbimgopiammaaa
end

section
namespace Go.Proofs.Ytpbimgopiammaaa
open Go.RowKit
set_option maxRecDepth 100000
set_option maxHeartbeats 2000000
def rfl1 (s : Bool) (e : Int × Int) : Bool := if e.2 < 0 then s else if e.1 = 2 then true else if e.1 = 3 then false else s
def rFlushed (l : List (Int × Int)) : Bool := l.foldl rfl1 false
theorem rFlushed_at (A : Option Addr) (n c : Nat) (l : List (Int × Int)) (w : World) (hS : l.length ≠ 0 → ∃ b o, A = some ⟨b, o, none⟩ ∧ evP b o w l) (hl : l.length = n) (hn : n ≤ 100000) :
  Calls Try.prog 46 [.slice A n c].toArray w fun e w' => e = .returned (.bool (rFlushed l)) ∧ Only [] w w' := by
 have H := Heap.nil w
 refine k_in (N := 40) Try.func46 rfl rfl rfl ?_
 refine k_sg ?_
 refine s_run rfl rfl (rab rfl) ?_
 refine k_nc ?_
 refine k_sg ?_
 refine s_run rfl rfl (rab rfl) ?_
 refine k_nc ?_
 refine k_seq ?_
 refine k_sg ?_
 refine s_run rfl rfl (rai rfl) ?_
 refine k_nc ?_
 refine k_b ?_
 refine k_loop (fun z f W => ∃ (i : Nat) (s : Bool), i ≤ n ∧ z = n - i ∧ s = rFlushed (l.take i) ∧ f 0 = .slice A n c ∧ f 3 = .bool s ∧ f 4 = .int .i64 i ∧ Heap w [] [] W) n ⟨0, false, by omega, rfl, rfl, rfl, rfl, rfl, H⟩ ?_
 clear H
 rintro z f W ⟨i, s, hi, rfl, hs, f0, f3, f4, H⟩
 by_cases hlt : i < n
 ·obtain ⟨e, he⟩ : ∃ e, l[i]? = some e := ⟨_, List.getElem?_eq_getElem (by omega)⟩
  obtain ⟨b, o, hA, hrd⟩ := hS (by omega)
  have hc0 := hrd i e he 0 _ rfl
  have hc1 := hrd i e he 1 _ rfl
  have hst : rFlushed (l.take (i + 1)) = rfl1 (rFlushed (l.take i)) e := snoc_foldl rfl1 false _ _ _ he
  rw [← hs] at hst
  rw [hA] at f0
  obtain ⟨f, rfl⟩ := live3 f0 f3 f4
  clear f0 f3 f4
  obtain ⟨k, m⟩ := e
  simp only at hc0 hc1
  unfold rfl1 at hst
  simp only at hst
  by_cases h0 : m < 0
  ·
   rw [if_pos h0] at hst
   refine k_seq ?_
   refine k_sg ?_
   refine s_run rfl rfl (rmi rfl) ?_
   refine s_run rfl rfl (rms rfl) ?_
   refine s_run rfl rfl (r_len rfl Try.underlying53) ?_
   refine s_run rfl rfl (r_lssT rfl rfl (by omega)) ?_
   refine k_nc ?_
   refine k_t rfl ?_
   refine k_skip ?_
   refine c_norm ?_
   refine k_seq ?_
   refine k_b ?_
   refine k_seq ?_
   refine k_sg ?_
   refine s_run rfl rfl (rms rfl) ?_
   refine s_run rfl rfl (rmi rfl) ?_
   refine s_run rfl rfl (r_ix (i := i) rfl rfl (by omega) (by omega) Try.underlying53 sz67) ?_
   refine s_run rfl rfl (r_fa rfl fo67_1) ?_
   refine s_run rfl rfl (r_lr H rfl hc1 (by simp) ag3) ?_
   refine s_run rfl rfl (r_geqF rfl rfl (by omega)) ?_
   refine s_run rfl rfl (rmb rfl) ?_
   refine s_off rfl (g_off 17 (by kernel_rfl) rfl rfl) ?_
   refine s_off rfl (g_off 17 (by kernel_rfl) rfl rfl) ?_
   refine s_off rfl (g_off 17 (by kernel_rfl) rfl rfl) ?_
   refine s_off rfl (g_off 17 (by kernel_rfl) rfl rfl) ?_
   refine s_off rfl (g_off 17 (by kernel_rfl) rfl rfl) ?_
   refine s_off rfl (g_off 17 (by kernel_rfl) rfl rfl) ?_
   refine s_run rfl rfl (r_pkF (v := .bool _) rfl rfl) ?_
   refine k_nc ?_
   refine k_f rfl ?_
   refine k_skip ?_
   refine c_norm ?_
   refine k_sg ?_
   refine s_run rfl rfl (rms rfl) ?_
   refine s_run rfl rfl (rmi rfl) ?_
   refine s_run rfl rfl (r_ix (i := i) rfl rfl (by omega) (by omega) Try.underlying53 sz67) ?_
   refine s_run rfl rfl (r_fa rfl fo67_1) ?_
   refine s_run rfl rfl (r_lr H rfl hc1 (by simp) ag3) ?_
   refine s_run rfl rfl (r_geqF rfl rfl (by omega)) ?_
   refine s_run rfl rfl (rmb rfl) ?_
   refine s_off rfl (g_off 31 (by kernel_rfl) rfl rfl) ?_
   refine s_off rfl (g_off 31 (by kernel_rfl) rfl rfl) ?_
   refine s_off rfl (g_off 31 (by kernel_rfl) rfl rfl) ?_
   refine s_off rfl (g_off 31 (by kernel_rfl) rfl rfl) ?_
   refine s_off rfl (g_off 31 (by kernel_rfl) rfl rfl) ?_
   refine s_off rfl (g_off 31 (by kernel_rfl) rfl rfl) ?_
   refine s_run rfl rfl (r_pkF (v := .bool _) rfl rfl) ?_
   refine k_nc ?_
   refine k_f rfl ?_
   refine k_skip ?_
   refine b_norm ?_
   refine c_norm ?_
   refine k_rg ?_
   refine s_run rfl rfl (rmi rfl) ?_
   refine s_run rfl rfl (r_add rfl rfl (wI (by omega))) ?_
   refine s_run rfl rfl (rai rfl) ?_
   refine k_nil ?_
   refine c_round ?_
   refine ⟨_, _, ?_, rfl, i + 1, s, by omega, rfl, hst.symm, by rw [hA]; rfl, rfl, rfl, H⟩
   omega
  rw [if_neg h0] at hst
  by_cases k2 : k = 2
  ·
   rw [if_pos k2] at hst
   refine k_seq ?_
   refine k_sg ?_
   refine s_run rfl rfl (rmi rfl) ?_
   refine s_run rfl rfl (rms rfl) ?_
   refine s_run rfl rfl (r_len rfl Try.underlying53) ?_
   refine s_run rfl rfl (r_lssT rfl rfl (by omega)) ?_
   refine k_nc ?_
   refine k_t rfl ?_
   refine k_skip ?_
   refine c_norm ?_
   refine k_seq ?_
   refine k_b ?_
   refine k_seq ?_
   refine k_sg ?_
   refine s_run rfl rfl (rms rfl) ?_
   refine s_run rfl rfl (rmi rfl) ?_
   refine s_run rfl rfl (r_ix (i := i) rfl rfl (by omega) (by omega) Try.underlying53 sz67) ?_
   refine s_run rfl rfl (r_fa rfl fo67_1) ?_
   refine s_run rfl rfl (r_lr H rfl hc1 (by simp) ag3) ?_
   refine s_run rfl rfl (r_geqT rfl rfl (by omega)) ?_
   refine s_run rfl rfl (rmb rfl) ?_
   refine s_run rfl (g_on 17 (by kernel_rfl) rfl) (rms rfl) ?_
   refine s_run rfl (g_on 17 (by kernel_rfl) rfl) (rmi rfl) ?_
   refine s_run rfl (g_on 17 (by kernel_rfl) rfl) (r_ix (i := i) rfl rfl (by omega) (by omega) Try.underlying53 sz67) ?_
   refine s_run rfl (g_on 17 (by kernel_rfl) rfl) (r_fa rfl fo67_0) ?_
   refine s_run rfl (g_on 17 (by kernel_rfl) rfl) (r_lr H rfl hc0 (by simp) ag3) ?_
   refine s_run rfl (g_on 17 (by kernel_rfl) rfl) (r_eqlT rfl rfl (by omega)) ?_
   refine s_run rfl rfl (r_pkT (v := .bool _) rfl rfl) ?_
   refine k_nc ?_
   refine k_t rfl ?_
   refine k_rg ?_
   refine s_run rfl rfl (rab rfl) ?_
   refine k_nc ?_
   refine k_sg ?_
   refine s_run rfl rfl (rms rfl) ?_
   refine s_run rfl rfl (rmi rfl) ?_
   refine s_run rfl rfl (r_ix (i := i) rfl rfl (by omega) (by omega) Try.underlying53 sz67) ?_
   refine s_run rfl rfl (r_fa rfl fo67_1) ?_
   refine s_run rfl rfl (r_lr H rfl hc1 (by simp) ag3) ?_
   refine s_run rfl rfl (r_geqT rfl rfl (by omega)) ?_
   refine s_run rfl rfl (rmb rfl) ?_
   refine s_run rfl (g_on 31 (by kernel_rfl) rfl) (rms rfl) ?_
   refine s_run rfl (g_on 31 (by kernel_rfl) rfl) (rmi rfl) ?_
   refine s_run rfl (g_on 31 (by kernel_rfl) rfl) (r_ix (i := i) rfl rfl (by omega) (by omega) Try.underlying53 sz67) ?_
   refine s_run rfl (g_on 31 (by kernel_rfl) rfl) (r_fa rfl fo67_0) ?_
   refine s_run rfl (g_on 31 (by kernel_rfl) rfl) (r_lr H rfl hc0 (by simp) ag3) ?_
   refine s_run rfl (g_on 31 (by kernel_rfl) rfl) (r_eqlF rfl rfl (by omega)) ?_
   refine s_run rfl rfl (r_pkT (v := .bool _) rfl rfl) ?_
   refine k_nc ?_
   refine k_f rfl ?_
   refine k_skip ?_
   refine b_norm ?_
   refine c_norm ?_
   refine k_rg ?_
   refine s_run rfl rfl (rmi rfl) ?_
   refine s_run rfl rfl (r_add rfl rfl (wI (by omega))) ?_
   refine s_run rfl rfl (rai rfl) ?_
   refine k_nil ?_
   refine c_round ?_
   refine ⟨_, _, ?_, rfl, i + 1, true, by omega, rfl, hst.symm, by rw [hA]; rfl, rfl, rfl, H⟩
   omega
  rw [if_neg k2] at hst
  by_cases k3 : k = 3
  ·
   rw [if_pos k3] at hst
   refine k_seq ?_
   refine k_sg ?_
   refine s_run rfl rfl (rmi rfl) ?_
   refine s_run rfl rfl (rms rfl) ?_
   refine s_run rfl rfl (r_len rfl Try.underlying53) ?_
   refine s_run rfl rfl (r_lssT rfl rfl (by omega)) ?_
   refine k_nc ?_
   refine k_t rfl ?_
   refine k_skip ?_
   refine c_norm ?_
   refine k_seq ?_
   refine k_b ?_
   refine k_seq ?_
   refine k_sg ?_
   refine s_run rfl rfl (rms rfl) ?_
   refine s_run rfl rfl (rmi rfl) ?_
   refine s_run rfl rfl (r_ix (i := i) rfl rfl (by omega) (by omega) Try.underlying53 sz67) ?_
   refine s_run rfl rfl (r_fa rfl fo67_1) ?_
   refine s_run rfl rfl (r_lr H rfl hc1 (by simp) ag3) ?_
   refine s_run rfl rfl (r_geqT rfl rfl (by omega)) ?_
   refine s_run rfl rfl (rmb rfl) ?_
   refine s_run rfl (g_on 17 (by kernel_rfl) rfl) (rms rfl) ?_
   refine s_run rfl (g_on 17 (by kernel_rfl) rfl) (rmi rfl) ?_
   refine s_run rfl (g_on 17 (by kernel_rfl) rfl) (r_ix (i := i) rfl rfl (by omega) (by omega) Try.underlying53 sz67) ?_
   refine s_run rfl (g_on 17 (by kernel_rfl) rfl) (r_fa rfl fo67_0) ?_
   refine s_run rfl (g_on 17 (by kernel_rfl) rfl) (r_lr H rfl hc0 (by simp) ag3) ?_
   refine s_run rfl (g_on 17 (by kernel_rfl) rfl) (r_eqlF rfl rfl (by omega)) ?_
   refine s_run rfl rfl (r_pkT (v := .bool _) rfl rfl) ?_
   refine k_nc ?_
   refine k_f rfl ?_
   refine k_skip ?_
   refine c_norm ?_
   refine k_sg ?_
   refine s_run rfl rfl (rms rfl) ?_
   refine s_run rfl rfl (rmi rfl) ?_
   refine s_run rfl rfl (r_ix (i := i) rfl rfl (by omega) (by omega) Try.underlying53 sz67) ?_
   refine s_run rfl rfl (r_fa rfl fo67_1) ?_
   refine s_run rfl rfl (r_lr H rfl hc1 (by simp) ag3) ?_
   refine s_run rfl rfl (r_geqT rfl rfl (by omega)) ?_
   refine s_run rfl rfl (rmb rfl) ?_
   refine s_run rfl (g_on 31 (by kernel_rfl) rfl) (rms rfl) ?_
   refine s_run rfl (g_on 31 (by kernel_rfl) rfl) (rmi rfl) ?_
   refine s_run rfl (g_on 31 (by kernel_rfl) rfl) (r_ix (i := i) rfl rfl (by omega) (by omega) Try.underlying53 sz67) ?_
   refine s_run rfl (g_on 31 (by kernel_rfl) rfl) (r_fa rfl fo67_0) ?_
   refine s_run rfl (g_on 31 (by kernel_rfl) rfl) (r_lr H rfl hc0 (by simp) ag3) ?_
   refine s_run rfl (g_on 31 (by kernel_rfl) rfl) (r_eqlT rfl rfl (by omega)) ?_
   refine s_run rfl rfl (r_pkT (v := .bool _) rfl rfl) ?_
   refine k_nc ?_
   refine k_t rfl ?_
   refine k_rg ?_
   refine s_run rfl rfl (rab rfl) ?_
   refine k_nil ?_
   refine b_norm ?_
   refine c_norm ?_
   refine k_rg ?_
   refine s_run rfl rfl (rmi rfl) ?_
   refine s_run rfl rfl (r_add rfl rfl (wI (by omega))) ?_
   refine s_run rfl rfl (rai rfl) ?_
   refine k_nil ?_
   refine c_round ?_
   refine ⟨_, _, ?_, rfl, i + 1, false, by omega, rfl, hst.symm, by rw [hA]; rfl, rfl, rfl, H⟩
   omega
  ·
   rw [if_neg k3] at hst
   refine k_seq ?_
   refine k_sg ?_
   refine s_run rfl rfl (rmi rfl) ?_
   refine s_run rfl rfl (rms rfl) ?_
   refine s_run rfl rfl (r_len rfl Try.underlying53) ?_
   refine s_run rfl rfl (r_lssT rfl rfl (by omega)) ?_
   refine k_nc ?_
   refine k_t rfl ?_
   refine k_skip ?_
   refine c_norm ?_
   refine k_seq ?_
   refine k_b ?_
   refine k_seq ?_
   refine k_sg ?_
   refine s_run rfl rfl (rms rfl) ?_
   refine s_run rfl rfl (rmi rfl) ?_
   refine s_run rfl rfl (r_ix (i := i) rfl rfl (by omega) (by omega) Try.underlying53 sz67) ?_
   refine s_run rfl rfl (r_fa rfl fo67_1) ?_
   refine s_run rfl rfl (r_lr H rfl hc1 (by simp) ag3) ?_
   refine s_run rfl rfl (r_geqT rfl rfl (by omega)) ?_
   refine s_run rfl rfl (rmb rfl) ?_
   refine s_run rfl (g_on 17 (by kernel_rfl) rfl) (rms rfl) ?_
   refine s_run rfl (g_on 17 (by kernel_rfl) rfl) (rmi rfl) ?_
   refine s_run rfl (g_on 17 (by kernel_rfl) rfl) (r_ix (i := i) rfl rfl (by omega) (by omega) Try.underlying53 sz67) ?_
   refine s_run rfl (g_on 17 (by kernel_rfl) rfl) (r_fa rfl fo67_0) ?_
   refine s_run rfl (g_on 17 (by kernel_rfl) rfl) (r_lr H rfl hc0 (by simp) ag3) ?_
   refine s_run rfl (g_on 17 (by kernel_rfl) rfl) (r_eqlF rfl rfl (by omega)) ?_
   refine s_run rfl rfl (r_pkT (v := .bool _) rfl rfl) ?_
   refine k_nc ?_
   refine k_f rfl ?_
   refine k_skip ?_
   refine c_norm ?_
   refine k_sg ?_
   refine s_run rfl rfl (rms rfl) ?_
   refine s_run rfl rfl (rmi rfl) ?_
   refine s_run rfl rfl (r_ix (i := i) rfl rfl (by omega) (by omega) Try.underlying53 sz67) ?_
   refine s_run rfl rfl (r_fa rfl fo67_1) ?_
   refine s_run rfl rfl (r_lr H rfl hc1 (by simp) ag3) ?_
   refine s_run rfl rfl (r_geqT rfl rfl (by omega)) ?_
   refine s_run rfl rfl (rmb rfl) ?_
   refine s_run rfl (g_on 31 (by kernel_rfl) rfl) (rms rfl) ?_
   refine s_run rfl (g_on 31 (by kernel_rfl) rfl) (rmi rfl) ?_
   refine s_run rfl (g_on 31 (by kernel_rfl) rfl) (r_ix (i := i) rfl rfl (by omega) (by omega) Try.underlying53 sz67) ?_
   refine s_run rfl (g_on 31 (by kernel_rfl) rfl) (r_fa rfl fo67_0) ?_
   refine s_run rfl (g_on 31 (by kernel_rfl) rfl) (r_lr H rfl hc0 (by simp) ag3) ?_
   refine s_run rfl (g_on 31 (by kernel_rfl) rfl) (r_eqlF rfl rfl (by omega)) ?_
   refine s_run rfl rfl (r_pkT (v := .bool _) rfl rfl) ?_
   refine k_nc ?_
   refine k_f rfl ?_
   refine k_skip ?_
   refine b_norm ?_
   refine c_norm ?_
   refine k_rg ?_
   refine s_run rfl rfl (rmi rfl) ?_
   refine s_run rfl rfl (r_add rfl rfl (wI (by omega))) ?_
   refine s_run rfl rfl (rai rfl) ?_
   refine k_nil ?_
   refine c_round ?_
   refine ⟨_, _, ?_, rfl, i + 1, s, by omega, rfl, hst.symm, by rw [hA]; rfl, rfl, rfl, H⟩
   omega
 ·obtain rfl : i = n := by omega
  have et : l.take i = l := by rw [← hl]; exact List.take_length
  rw [et] at hs
  subst hs
  obtain ⟨f, rfl⟩ := live3 f0 f3 f4
  clear f0 f3 f4
  refine k_seq ?_
  refine k_sg ?_
  refine s_run rfl rfl (rmi rfl) ?_
  refine s_run rfl rfl (rms rfl) ?_
  refine s_run rfl rfl (r_len rfl Try.underlying53) ?_
  refine s_run rfl rfl (r_lssF rfl rfl (by omega)) ?_
  refine k_nc ?_
  refine k_f rfl ?_
  refine k_exit ?_
  refine c_exit ?_
  refine c_exit ?_
  refine b_hit ?_
  refine c_norm ?_
  refine k_sg ?_
  refine s_run rfl rfl (rmb rfl) ?_
  refine s_run rfl rfl (rab rfl) ?_
  refine k_nc ?_
  refine k_ret ?_
  refine fin1r (v := .bool _) rfl rfl ?_
  exact ⟨rfl, H.only⟩
end Go.Proofs.Ytpbimgopiammaaa
end

section
namespace Go.Proofs.Ytpbimgopiammaaa
theorem cms_flush (s : Ck) : ∀ l : List Int, (l.foldl Ck.cm1 s).flush = s.flush := fun l => by
 induction l generalizing s with
 | nil => rfl
 | cons x l ih => rw [List.foldl_cons, ih, (cm1_same s x).2.2.1]
theorem step_flush (s : Ck) (k n : Int) : (s.step k n).flush = rfl1 s.flush (k, n) := by
 unfold Ck.step rfl1
 by_cases hbad : k < 1 ∨ 5 < k ∨ n < 0
 ·rw [if_pos hbad]
  by_cases h0 : n < 0
  ·rw [if_pos h0]; rfl
  ·rw [if_neg h0, if_neg (by show ¬ k = 2; omega), if_neg (by show ¬ k = 3; omega)]; rfl
 rw [if_neg hbad, if_neg (show ¬ n < 0 from fun h => hbad (.inr (.inr h)))]
 by_cases k1 : k = 1
 ·rw [if_pos k1, if_neg (by show ¬ k = 2; omega), if_neg (by show ¬ k = 3; omega)]; rfl
 rw [if_neg k1]
 by_cases k2 : k = 2
 ·rw [if_pos k2, if_pos k2]; rfl
 rw [if_neg k2, if_neg k2]
 by_cases k3 : k = 3
 ·rw [if_pos k3, if_pos k3]; rfl
 rw [if_neg k3, if_neg k3]
 by_cases k4 : k = 4
 ·rw [if_pos k4]; rfl
 ·rw [if_neg k4]; exact cms_flush s _
theorem steps_flush : ∀ (l : List (Int × Int)) (s : Ck), (l.foldl (fun s e => s.step e.1 e.2) s).flush = l.foldl rfl1 s.flush
 | [], _ => rfl
 | e :: l, s => by rw [List.foldl_cons, List.foldl_cons, steps_flush l, step_flush]
theorem chk_flush (l : List (Int × Int)) : (chk l).flush = rFlushed l := steps_flush l ck0
end Go.Proofs.Ytpbimgopiammaaa
end

section
namespace Go.Proofs.Ytpbimgopiammaaa
def rmk (out : List Int) (e : Int × Int) : List Int := if e.2 < 0 then out else if e.1 = 5 then [] else if e.1 = 4 then rIns out e.2 else out
structure MI (s : Ck) (M : List Int) : Prop where
 nd : (s.marked.map Prod.fst).Nodup
 up : M.Pairwise (· < ·)
 mem : ∀ x, x ∈ s.marked.map Prod.fst ↔ x ∈ M
theorem MI.same {s s' : Ck} {M M' : List Int} (h : MI s M) (hl : s'.marked = s.marked) (hM : M' = M) : MI s' M' := by
 subst hM
 exact ⟨by rw [hl]; exact h.nd, h.up, fun x => by rw [hl]; exact h.mem x⟩
theorem MI.step {s : Ck} {M : List Int} (h : MI s M) (k n : Int) : MI (s.step k n) (rmk M (k, n)) := by
 unfold Ck.step rmk
 by_cases hbad : k < 1 ∨ 5 < k ∨ n < 0
 ·rw [if_pos hbad]
  by_cases h0 : n < 0
  ·rw [if_pos h0]; exact h.same rfl rfl
  ·rw [if_neg h0, if_neg (by show ¬ k = 5; omega), if_neg (by show ¬ k = 4; omega)]; exact h.same rfl rfl
 rw [if_neg hbad, if_neg (show ¬ n < 0 from fun h => hbad (.inr (.inr h)))]
 by_cases k1 : k = 1
 ·rw [if_pos k1, if_neg (by show ¬ k = 5; omega), if_neg (by show ¬ k = 4; omega)]; exact h.same rfl rfl
 rw [if_neg k1]
 by_cases k2 : k = 2
 ·rw [if_pos k2]
  have hM : (if (k, n).1 = 5 then [] else if (k, n).1 = 4 then rIns M (k, n).2 else M) = M := by rw [if_neg (by show ¬ k = 5; omega), if_neg (by show ¬ k = 4; omega)]
  rw [hM]
  split
  ·exact h.same rfl rfl
  ·exact h.same rfl rfl
 rw [if_neg k2]
 by_cases k3 : k = 3
 ·rw [if_pos k3, if_neg (by show ¬ k = 5; omega), if_neg (by show ¬ k = 4; omega)]
  refine h.same ?_ rfl
  show s.fence.marked = _
  unfold Ck.fence; cases s.flush <;> rfl
 rw [if_neg k3]
 by_cases k4 : k = 4
 ·rw [if_pos k4, if_neg (by show ¬ k = 5; omega), if_pos k4]
  obtain ⟨h1, h2⟩ := mput_keys s.marked n true h.nd
  exact ⟨h1, rIns_rise M n h.up, fun x => by
   show x ∈ (mput s.marked n true).map Prod.fst ↔ _
   rw [h2 x, rIns_mem, h.mem x]⟩
 ·rw [if_neg k4, if_pos (by show k = 5; omega)]
  exact ⟨by show (([] : List (Int × Bool)).map Prod.fst).Nodup; simp, by simp, fun x => by show x ∈ ([] : List (Int × Bool)).map Prod.fst ↔ _; simp⟩
end Go.Proofs.Ytpbimgopiammaaa
end

section
namespace Go.Proofs.Ytpbimgopiammaaa
def rMarked (l : List (Int × Int)) : List Int := l.foldl rmk []
theorem MI.steps : ∀ (l : List (Int × Int)) {s : Ck} {M : List Int}, MI s M → MI (l.foldl (fun s e => s.step e.1 e.2) s) (l.foldl rmk M)
 | [], _, _, h => h
 | e :: l, _, _, h => MI.steps l (h.step e.1 e.2)
theorem chk_MI (l : List (Int × Int)) : MI (chk l) (rMarked l) :=
 MI.steps l (s := ck0) (M := []) ⟨by simp [ck0], by simp, fun x => by simp [ck0]⟩
theorem MI.srt {s : Ck} {M : List Int} (h : MI s M) : srt (s.marked.map Prod.fst) = M :=
 rise_eq (srt_rise h.nd) h.up fun z => by rw [srt_mem, h.mem]
/-- the faults that a marked line makes -/
def rf1 (b : List (Int × Int)) (at_ : Int) (x : Int) : List Flt := if rState b x > 0 then [⟨at_, x, rState b x⟩] else []
/-- the faults of an event behind others -/
def rflt (b : List (Int × Int)) (e : Int × Int) : List Flt :=
 if e.1 < 1 ∨ 5 < e.1 ∨ e.2 < 0 then [⟨b.length, e.2, 5⟩]
 else if e.1 = 2 ∧ rState b e.2 ≠ 1 then [⟨b.length, e.2, 3⟩]
 else if e.1 = 3 ∧ rFlushed b = false then [⟨b.length, 0, 4⟩]
 else if e.1 = 5 then (rMarked b).flatMap (rf1 b b.length)
 else []
theorem cms_faults {b : List (Int × Int)} {s : Ck} (hl : s.lines = (chk b).lines) (ha : (s.at_ : Int) = b.length) : ∀ M : List Int, (M.foldl Ck.cm1 s).faults = s.faults ++ M.flatMap (rf1 b b.length) := fun M => by
 induction M generalizing s with
 | nil => simp
 | cons x M ih =>
  have h := chk_LI b
  obtain ⟨c1, c2, c3, c4, c5⟩ := cm1_same s x
  rw [List.foldl_cons, ih (c1.trans hl) (by rw [c4]; exact ha), List.flatMap_cons, ← List.append_assoc]
  congr 1
  unfold Ck.cm1 rf1
  rw [h.st x, ← hl]
  cases hg : mget s.lines x with
  | none => simp
  | some v =>
   rcases h.v x v (by rw [← hl]; exact hg) with rfl | rfl
   ·simp [Ck.fault, ha]
   ·simp [Ck.fault, ha]
theorem chk_at (l : List (Int × Int)) : (chk l).at_ = l.length := by
 have : ∀ (l : List (Int × Int)) (s : Ck), (l.foldl (fun s e => s.step e.1 e.2) s).at_ = s.at_ + l.length := fun l => by
  induction l with
  | nil => intro s; rfl
  | cons e l ih => intro s; rw [List.foldl_cons, ih, (step_bd s e.1 e.2).2.1, List.length_cons]; omega
 have h := this l ck0
 rw [show ck0.at_ = 0 from rfl, Nat.zero_add] at h
 exact h
theorem chk_faults (b : List (Int × Int)) (k n : Int) : ((chk b).step k n).faults = (chk b).faults ++ rflt b (k, n) := by
 have hL := chk_LI b
 have hM := chk_MI b
 have hF := chk_flush b
 have hA := chk_at b
 have hA' : ((chk b).at_ : Int) = b.length := by rw [hA]
 unfold Ck.step rflt
 by_cases hbad : k < 1 ∨ 5 < k ∨ n < 0
 ·rw [if_pos hbad, if_pos hbad]; simp [Ck.fault, Ck.bump, hA]
 rw [if_neg hbad, if_neg hbad]
 by_cases k1 : k = 1
 ·subst k1; simp [Ck.bump]
 rw [if_neg k1]
 by_cases k2 : k = 2
 ·subst k2
  rw [if_pos rfl]
  by_cases hm : mget (chk b).lines n = some 1
  ·rw [if_pos hm, if_neg (by rintro ⟨_, h⟩; apply h; show rState b n = 1; rw [hL.st, hm]; rfl), if_neg (by simp), if_neg (by simp)]
   simp [Ck.bump]
  ·rw [if_neg hm, if_pos ⟨rfl, fun h => hm (by
    have h' : rState b n = 1 := h
    rw [hL.st] at h'
    cases hg : mget (chk b).lines n with
    | none => rw [hg] at h'; simp at h'
    | some v => rw [hg] at h'; simp at h'; rw [h'])⟩]
   simp [Ck.fault, Ck.bump, hA]
 rw [if_neg k2]
 rw [if_neg (show ¬ ((k, n).1 = 2 ∧ rState b (k, n).2 ≠ 1) from fun h => k2 h.1)]
 by_cases k3 : k = 3
 ·subst k3
  rw [if_pos rfl]
  unfold Ck.fence
  rw [hF]
  by_cases hf : rFlushed b = true
  ·rw [if_pos hf, if_neg (by rintro ⟨_, h⟩; rw [hf] at h; cases h), if_neg (by simp)]
   simp [Ck.bump]
  ·rw [if_neg hf, if_pos ⟨rfl, by simpa using hf⟩]
   simp [Ck.fault, Ck.bump, hA]
 rw [if_neg k3]
 rw [if_neg (show ¬ ((k, n).1 = 3 ∧ rFlushed b = false) from fun h => k3 h.1)]
 by_cases k4 : k = 4
 ·subst k4; simp [Ck.bump]
 ·rw [if_neg k4, if_pos (by show k = 5; omega)]
  show ((srt ((chk b).marked.map Prod.fst)).foldl Ck.cm1 (chk b)).faults = _
  rw [cms_faults rfl hA', hM.srt]
/-- the document's loose lines -/
def rls (l : List (Int × Int)) (out : List Int) (e : Int × Int) : List Int := if e.2 ≥ 0 ∧ rState l e.2 > 0 ∧ e.1 = 1 then rIns out e.2 else out
def rLoose (l : List (Int × Int)) : List Int := l.foldl (rls l) []
theorem rls_fold (l : List (Int × Int)) : ∀ (m : List (Int × Int)) (out : List Int), out.Pairwise (· < ·) → (m.foldl (rls l) out).Pairwise (· < ·) ∧ ∀ x, x ∈ m.foldl (rls l) out ↔ x ∈ out ∨ ∃ e ∈ m, e.2 = x ∧ e.2 ≥ 0 ∧ rState l e.2 > 0 ∧ e.1 = 1
 | [], out, h => ⟨h, fun x => by simp⟩
 | e :: m, out, h => by
  rw [List.foldl_cons]
  unfold rls
  split
  ·rename_i hc
   obtain ⟨h1, h2⟩ := rls_fold l m (rIns out e.2) (rIns_rise out e.2 h)
   refine ⟨h1, fun x => ?_⟩
   show x ∈ m.foldl (rls l) _ ↔ _
   rw [h2 x, rIns_mem]
   constructor
   ·rintro ((rfl | h) | ⟨e', h3, h4⟩)
    ·exact .inr ⟨e, by simp, rfl, hc⟩
    ·exact .inl h
    ·exact .inr ⟨e', by simp [h3], h4⟩
   ·rintro (h | ⟨e', h3, h4⟩)
    ·exact .inl (.inr h)
    ·rcases List.mem_cons.1 h3 with rfl | h3
     ·exact .inl (.inl h4.1.symm)
     ·exact .inr ⟨e', h3, h4⟩
  ·rename_i hc
   obtain ⟨h1, h2⟩ := rls_fold l m out h
   refine ⟨h1, fun x => ?_⟩
   show x ∈ m.foldl (rls l) _ ↔ _
   rw [h2 x]
   constructor
   ·rintro (h | ⟨e', h3, h4⟩)
    ·exact .inl h
    ·exact .inr ⟨e', by simp [h3], h4⟩
   ·rintro (h | ⟨e', h3, h4⟩)
    ·exact .inl h
    ·rcases List.mem_cons.1 h3 with rfl | h3
     ·exact (hc h4.2).elim
     ·exact .inr ⟨e', h3, h4⟩
theorem rst_zero (x : Int) : ∀ (l : List (Int × Int)), (∀ e ∈ l, ¬ (e.2 = x ∧ e.2 ≥ 0 ∧ e.1 = 1)) → l.foldl (rst x) 0 = 0
 | [], _ => rfl
 | e :: l, h => by
  have h1 : rst x 0 e = 0 := by
   have h0 := h e (by simp)
   unfold rst
   split
   ·rfl
   split
   ·rename_i hn hk
    rw [if_neg (fun hx => h0 ⟨hx, by omega, hk⟩)]
   split
   ·rw [if_neg (by rintro ⟨_, h⟩; cases h)]
   split
   ·rw [if_neg (by intro h; cases h)]
   ·rfl
  rw [List.foldl_cons, h1]
  exact rst_zero x l fun e he => h e (by simp [he])
theorem loose_eq (l : List (Int × Int)) : srt ((chk l).lines.map Prod.fst) = rLoose l := by
 have hL := chk_LI l
 obtain ⟨h1, h2⟩ := rls_fold l l [] (by simp)
 refine rise_eq (srt_rise hL.nd) h1 fun z => ?_
 rw [srt_mem]
 show _ ↔ z ∈ l.foldl (rls l) []
 rw [h2 z]
 have hz : z ∈ (chk l).lines.map Prod.fst ↔ rState l z > 0 := by
  rw [hL.st z]
  cases hg : mget (chk l).lines z with
  | none =>
   have := (mget_iff _ _).1 hg
   simp only [List.mem_map, Option.getD_none]
   constructor
   ·rintro ⟨p, hp, rfl⟩; exact (this p hp rfl).elim
   ·intro h; omega
  | some v =>
   constructor
   ·intro _; rcases hL.v z v hg with rfl | rfl <;> simp
   ·intro _
    by_cases hm : z ∈ (chk l).lines.map Prod.fst
    ·exact hm
    ·have : mget (chk l).lines z = none := (mget_iff _ _).2 fun p hp e => hm (List.mem_map.2 ⟨p, hp, e⟩)
     rw [this] at hg; cases hg
 rw [hz]
 constructor
 ·intro hp
  right
  by_cases hex : ∃ e ∈ l, e.2 = z ∧ e.2 ≥ 0 ∧ e.1 = 1
  ·obtain ⟨e, he, e2, e3, e4⟩ := hex
   exact ⟨e, he, e2, e3, by rw [e2]; exact hp, e4⟩
  ·have := rst_zero z l fun e he hc => hex ⟨e, he, hc⟩
   have h3 : rState l z = 0 := this
   omega
 ·rintro (h | ⟨e, he, e2, e3, e4, e5⟩)
  ·simp at h
  ·rw [← e2]; exact e4
end Go.Proofs.Ytpbimgopiammaaa
end

section
namespace Go.Proofs.Ytpbimgopiammaaa
open Go.RowKit
set_option maxRecDepth 100000
set_option maxHeartbeats 2000000
theorem rIns_at : ∀ (l : List Int) (x : Int) (n : Nat), n ≤ l.length → (∀ j y, j < n → l[j]? = some y → y < x) → (∀ y, l[n]? = some y → ¬ y < x) →
  rIns l x = if l[n]? = some x then l else l.take n ++ x :: l.drop n
 | [], x, n, hn, _, _ => by simp at hn; subst hn; rfl
 | y :: l, x, 0, _, _, h => by
  have := h y rfl
  rw [rIns, if_neg this]
  by_cases e : y = x
  ·rw [if_pos e, if_pos (by rw [e]; rfl)]
  ·rw [if_neg e, if_neg (by simpa using e)]; rfl
 | y :: l, x, n + 1, hn, h1, h2 => by
  rw [rIns, if_pos (h1 0 y (by omega) rfl), rIns_at l x n (by simpa using hn) (fun j z hj hz => h1 (j + 1) z (by omega) (by simpa using hz)) (fun z hz => h2 z (by simpa using hz))]
  rw [show (y :: l)[n + 1]? = l[n]? from rfl]
  split
  ·rfl
  ·rfl
theorem rInsert {F : List Nat} (A : Option Addr) (n c : Nat) (l : List Int) (x : Int) (w : World) (hS : Sees (Value.int .i64) w F A l) (hF : ∀ i ∈ F, i < w.heap.size) (hl : l.length = n) (hn : n ≤ 100000) (hc : n ≤ c) :
  Calls Try.prog 45 [.slice A n c, .int .i64 x].toArray w fun e w' => ∃ A' c', e = .returned (.slice A' (rIns l x).length c') ∧ (rIns l x).length ≤ c' ∧ Sees (Value.int .i64) w' F A' (rIns l x) ∧ Only [] w w' := by
 have H := Heap.nil w
 have hS0 := hS.mono (G := []) (by simp)
 refine k_in (N := 48) Try.func45 rfl rfl rfl ?_
 refine k_sg ?_
 refine s_run rfl rfl (ras rfl) ?_
 refine k_nc ?_
 refine k_sg ?_
 refine s_run rfl rfl (rai rfl) ?_
 refine k_nc ?_
 refine k_seq ?_
 refine k_b ?_
 refine k_loop (fun z f W => ∃ (i : Nat), i ≤ n ∧ z = n - i ∧ (∀ j y, j < i → l[j]? = some y → y < x) ∧ f 0 = .slice A n c ∧ f 1 = .int .i64 x ∧ f 5 = .int .i64 i ∧ Heap w [] [] W) n ⟨0, by omega, rfl, by omega, rfl, rfl, rfl, H⟩ ?_
 clear H
 rintro z f W ⟨i, hi, rfl, hlo, f0, f1, f5, H⟩
 have hp := rIns_at l x i (by omega) hlo
 by_cases hlt : i < n
 ·obtain ⟨y, hy⟩ : ∃ y, l[i]? = some y := ⟨_, List.getElem?_eq_getElem (by omega)⟩
  obtain ⟨b, o, hA, _, hrd⟩ := hS (by omega)
  have hc0 := hrd i y hy
  rw [hA] at f0
  obtain ⟨f, rfl⟩ := live3 f0 f1 f5
  clear f0 f1 f5
  by_cases h : y < x
  ·refine k_seq ?_
   refine k_sg ?_
   refine s_run rfl rfl (rmi rfl) ?_
   refine s_run rfl rfl (rms rfl) ?_
   refine s_run rfl rfl (r_len rfl Try.underlying22) ?_
   refine s_run rfl rfl (r_lssT rfl rfl (by omega)) ?_
   refine s_run rfl rfl (rmb rfl) ?_
   refine s_run rfl (g_on 11 (by kernel_rfl) rfl) (rms rfl) ?_
   refine s_run rfl (g_on 11 (by kernel_rfl) rfl) (rmi rfl) ?_
   refine s_run rfl (g_on 11 (by kernel_rfl) rfl) (r_ix1o (i := i) rfl rfl (by omega) (by omega) Try.underlying22 sz3) ?_
   refine s_run rfl (g_on 11 (by kernel_rfl) rfl) (r_lr H rfl hc0 (by simp) ag3) ?_
   refine s_run rfl (g_on 11 (by kernel_rfl) rfl) (rmi rfl) ?_
   refine s_run rfl (g_on 11 (by kernel_rfl) rfl) (r_lssT rfl rfl (by omega)) ?_
   refine s_run rfl rfl (r_pkT (v := .bool _) rfl rfl) ?_
   refine k_nc ?_
   refine k_t rfl ?_
   refine k_skip ?_
   refine c_norm ?_
   refine k_b ?_
   refine k_rg ?_
   refine s_run rfl rfl (rmi rfl) ?_
   refine s_run rfl rfl (r_add rfl rfl (wI (by omega))) ?_
   refine s_run rfl rfl (rai rfl) ?_
   refine k_nil ?_
   refine b_norm ?_
   refine c_round ?_
   refine ⟨_, _, ?_, rfl, i + 1, by omega, rfl, fun j u hj hu => ?_, by rw [hA]; rfl, rfl, rfl, H⟩
   ·omega
   ·by_cases e : j = i
    ·subst e; rw [hy] at hu; injection hu with hu; subst hu; exact h
    ·exact hlo j u (by omega) hu
  ·replace hp := hp (fun u hu => by rw [hy] at hu; injection hu with hu; subst hu; exact h)
   by_cases e : y = x
   ·rw [if_pos (by rw [hy, e])] at hp
    rw [hp]
    refine k_seq ?_
    refine k_sg ?_
    refine s_run rfl rfl (rmi rfl) ?_
    refine s_run rfl rfl (rms rfl) ?_
    refine s_run rfl rfl (r_len rfl Try.underlying22) ?_
    refine s_run rfl rfl (r_lssT rfl rfl (by omega)) ?_
    refine s_run rfl rfl (rmb rfl) ?_
    refine s_run rfl (g_on 11 (by kernel_rfl) rfl) (rms rfl) ?_
    refine s_run rfl (g_on 11 (by kernel_rfl) rfl) (rmi rfl) ?_
    refine s_run rfl (g_on 11 (by kernel_rfl) rfl) (r_ix1o (i := i) rfl rfl (by omega) (by omega) Try.underlying22 sz3) ?_
    refine s_run rfl (g_on 11 (by kernel_rfl) rfl) (r_lr H rfl hc0 (by simp) ag3) ?_
    refine s_run rfl (g_on 11 (by kernel_rfl) rfl) (rmi rfl) ?_
    refine s_run rfl (g_on 11 (by kernel_rfl) rfl) (r_lssF rfl rfl (by omega)) ?_
    refine s_run rfl rfl (r_pkT (v := .bool _) rfl rfl) ?_
    refine k_nc ?_
    refine k_f rfl ?_
    refine k_exit ?_
    refine c_exit ?_
    refine c_exit ?_
    refine b_hit ?_
    refine c_norm ?_
    refine k_seq ?_
    refine k_sg ?_
    refine s_run rfl rfl (rmi rfl) ?_
    refine s_run rfl rfl (rms rfl) ?_
    refine s_run rfl rfl (r_len rfl Try.underlying22) ?_
    refine s_run rfl rfl (r_lssT rfl rfl (by omega)) ?_
    refine s_run rfl rfl (rmb rfl) ?_
    refine s_run rfl (g_on 25 (by kernel_rfl) rfl) (rms rfl) ?_
    refine s_run rfl (g_on 25 (by kernel_rfl) rfl) (rmi rfl) ?_
    refine s_run rfl (g_on 25 (by kernel_rfl) rfl) (r_ix1o (i := i) rfl rfl (by omega) (by omega) Try.underlying22 sz3) ?_
    refine s_run rfl (g_on 25 (by kernel_rfl) rfl) (r_lr H rfl hc0 (by simp) ag3) ?_
    refine s_run rfl (g_on 25 (by kernel_rfl) rfl) (rmi rfl) ?_
    refine s_run rfl (g_on 25 (by kernel_rfl) rfl) (r_eqlT rfl rfl (by omega)) ?_
    refine s_run rfl rfl (r_pkT (v := .bool _) rfl rfl) ?_
    refine k_nc ?_
    refine k_t rfl ?_
    refine k_sg ?_
    refine s_run rfl rfl (rms rfl) ?_
    refine s_run rfl rfl (ras rfl) ?_
    refine k_nc ?_
    refine k_ret ?_
    refine c_ret ?_
    refine fin1r (v := .slice _ _ _) rfl rfl ?_
    exact ⟨_, _, by rw [hl, hA], by omega, hS.later H.only (by simp), H.only⟩
   ·rw [if_neg (by rw [hy]; intro h2; injection h2 with h2; exact e h2)] at hp
    have hlen : (rIns l x).length = i + 1 + (n - i) := by rw [hp]; simp; omega
    have hS2 := hS0.slo (c := c) i (by omega)
    rw [hA] at hS hS0 hS2
    refine k_seq ?_
    refine k_sg ?_
    refine s_run rfl rfl (rmi rfl) ?_
    refine s_run rfl rfl (rms rfl) ?_
    refine s_run rfl rfl (r_len rfl Try.underlying22) ?_
    refine s_run rfl rfl (r_lssT rfl rfl (by omega)) ?_
    refine s_run rfl rfl (rmb rfl) ?_
    refine s_run rfl (g_on 11 (by kernel_rfl) rfl) (rms rfl) ?_
    refine s_run rfl (g_on 11 (by kernel_rfl) rfl) (rmi rfl) ?_
    refine s_run rfl (g_on 11 (by kernel_rfl) rfl) (r_ix1o (i := i) rfl rfl (by omega) (by omega) Try.underlying22 sz3) ?_
    refine s_run rfl (g_on 11 (by kernel_rfl) rfl) (r_lr H rfl hc0 (by simp) ag3) ?_
    refine s_run rfl (g_on 11 (by kernel_rfl) rfl) (rmi rfl) ?_
    refine s_run rfl (g_on 11 (by kernel_rfl) rfl) (r_lssF rfl rfl (by omega)) ?_
    refine s_run rfl rfl (r_pkT (v := .bool _) rfl rfl) ?_
    refine k_nc ?_
    refine k_f rfl ?_
    refine k_exit ?_
    refine c_exit ?_
    refine c_exit ?_
    refine b_hit ?_
    refine c_norm ?_
    refine k_seq ?_
    refine k_sg ?_
    refine s_run rfl rfl (rmi rfl) ?_
    refine s_run rfl rfl (rms rfl) ?_
    refine s_run rfl rfl (r_len rfl Try.underlying22) ?_
    refine s_run rfl rfl (r_lssT rfl rfl (by omega)) ?_
    refine s_run rfl rfl (rmb rfl) ?_
    refine s_run rfl (g_on 25 (by kernel_rfl) rfl) (rms rfl) ?_
    refine s_run rfl (g_on 25 (by kernel_rfl) rfl) (rmi rfl) ?_
    refine s_run rfl (g_on 25 (by kernel_rfl) rfl) (r_ix1o (i := i) rfl rfl (by omega) (by omega) Try.underlying22 sz3) ?_
    refine s_run rfl (g_on 25 (by kernel_rfl) rfl) (r_lr H rfl hc0 (by simp) ag3) ?_
    refine s_run rfl (g_on 25 (by kernel_rfl) rfl) (rmi rfl) ?_
    refine s_run rfl (g_on 25 (by kernel_rfl) rfl) (r_eqlF rfl rfl (by omega)) ?_
    refine s_run rfl rfl (r_pkT (v := .bool _) rfl rfl) ?_
    refine k_nc ?_
    refine k_f rfl ?_
    refine k_skip ?_
    refine c_norm ?_
    refine k_sg ?_
    refine s_bs0 1 (by omega) H rfl Try.underlying22 inf3 ?_
    intro _ _ H'; clear H; have H := H'; clear H'
    refine s_run rfl rfl (rms rfl) ?_
    refine s_run rfl rfl (rmi rfl) ?_
    refine s_run rfl rfl (r_sloA rfl rfl rfl (by omega) Try.underlying22 sz3) ?_
    refine s_apps (enc := (Value.int .i64)) (xs := []) H 0 rfl rfl rfl rfl (hS2) ((by rw [List.length_drop, hl])) (fun _ => rfl) (by omega) Try.underlying22 inf3 rfl ?_
    intro _ _ _ hA H'; simp only [List.set_cons_zero, List.set_cons_succ, List.take_succ_cons, List.take_zero, List.drop_succ_cons, List.drop_zero, List.cons_append, List.nil_append, List.append_nil, List.length_cons, List.length_nil, Nat.reduceAdd] at H'; clear H; have H := H'; clear H'
    refine s_run rfl rfl (ras rfl) ?_
    refine k_nc ?_
    refine k_sg ?_
    refine s_run rfl rfl (rms rfl) ?_
    refine s_run rfl rfl (rmi rfl) ?_
    refine s_run rfl rfl (rmi rfl) ?_
    refine s_run rfl rfl (r_shm rfl rfl rfl rfl rfl (by omega) (by omega) Try.underlying22 sz3) ?_
    refine s_run rfl rfl (rmi rfl) ?_
    refine s_apF (enc := (Value.int .i64)) H ((hS0.later H.only (by simp)).head i) ((by rw [List.length_take]; omega)) rfl rfl rfl rfl rfl rfl (by omega) Try.underlying22 inf3 rfl ?_
    intro _ An cn _ H'; clear H; have H := H'; clear H'
    refine s_run rfl rfl (rms rfl) ?_
    refine s_apW (enc := (Value.int .i64)) H 0 rfl rfl rfl rfl ((H.own_sees 1 rfl)) ((by simp; omega)) (fun _ => rfl) (by omega) Try.underlying22 inf3 rfl ?_
    intro A2 c2 _ H'; simp only [List.set_cons_zero, List.set_cons_succ, List.take_succ_cons, List.take_zero, List.drop_succ_cons, List.drop_zero, List.cons_append, List.nil_append, List.append_nil, List.length_cons, List.length_nil, Nat.reduceAdd] at H'; clear H; have H := H'; clear H'
    refine s_run rfl rfl (ras rfl) ?_
    refine k_nc ?_
    refine k_ret ?_
    refine fin1r (v := .slice _ _ _) rfl rfl ?_
    have e3 : l.take i ++ [x] ++ l.drop i = rIns l x := by rw [hp]; simp
    rw [e3] at H
    have hcap := own_cap H 0 rfl
    refine ⟨A2, c2, by rw [hlen, Nat.zero_add], by rw [hlen]; omega, H.own_fresh 0 rfl hF, H.only⟩
 ·obtain rfl : i = n := by omega
  replace hp := hp (fun u hu => by rw [List.getElem?_eq_none (by omega)] at hu; cases hu)
  rw [if_neg (by rw [List.getElem?_eq_none (by omega)]; simp)] at hp
  have hlen : (rIns l x).length = i + 1 + (i - i) := by rw [hp]; simp; omega
  have hS2 := hS0.slo (c := c) i (by omega)
  obtain ⟨f, rfl⟩ := live3 f0 f1 f5
  clear f0 f1 f5
  refine k_seq ?_
  refine k_sg ?_
  refine s_run rfl rfl (rmi rfl) ?_
  refine s_run rfl rfl (rms rfl) ?_
  refine s_run rfl rfl (r_len rfl Try.underlying22) ?_
  refine s_run rfl rfl (r_lssF rfl rfl (by omega)) ?_
  refine s_run rfl rfl (rmb rfl) ?_
  refine s_off rfl (g_off 11 (by kernel_rfl) rfl rfl) ?_
  refine s_off rfl (g_off 11 (by kernel_rfl) rfl rfl) ?_
  refine s_off rfl (g_off 11 (by kernel_rfl) rfl rfl) ?_
  refine s_off rfl (g_off 11 (by kernel_rfl) rfl rfl) ?_
  refine s_off rfl (g_off 11 (by kernel_rfl) rfl rfl) ?_
  refine s_off rfl (g_off 11 (by kernel_rfl) rfl rfl) ?_
  refine s_run rfl rfl (r_pkF (v := .bool _) rfl rfl) ?_
  refine k_nc ?_
  refine k_f rfl ?_
  refine k_exit ?_
  refine c_exit ?_
  refine c_exit ?_
  refine b_hit ?_
  refine c_norm ?_
  refine k_seq ?_
  refine k_sg ?_
  refine s_run rfl rfl (rmi rfl) ?_
  refine s_run rfl rfl (rms rfl) ?_
  refine s_run rfl rfl (r_len rfl Try.underlying22) ?_
  refine s_run rfl rfl (r_lssF rfl rfl (by omega)) ?_
  refine s_run rfl rfl (rmb rfl) ?_
  refine s_off rfl (g_off 25 (by kernel_rfl) rfl rfl) ?_
  refine s_off rfl (g_off 25 (by kernel_rfl) rfl rfl) ?_
  refine s_off rfl (g_off 25 (by kernel_rfl) rfl rfl) ?_
  refine s_off rfl (g_off 25 (by kernel_rfl) rfl rfl) ?_
  refine s_off rfl (g_off 25 (by kernel_rfl) rfl rfl) ?_
  refine s_off rfl (g_off 25 (by kernel_rfl) rfl rfl) ?_
  refine s_run rfl rfl (r_pkF (v := .bool _) rfl rfl) ?_
  refine k_nc ?_
  refine k_f rfl ?_
  refine k_skip ?_
  refine c_norm ?_
  refine k_sg ?_
  refine s_bs0 1 (by omega) H rfl Try.underlying22 inf3 ?_
  intro _ _ H'; clear H; have H := H'; clear H'
  refine s_run rfl rfl (rms rfl) ?_
  refine s_run rfl rfl (rmi rfl) ?_
  refine s_run rfl rfl (r_sloA rfl rfl rfl (by omega) Try.underlying22 sz3) ?_
  refine s_apps (enc := (Value.int .i64)) (xs := []) H 0 rfl rfl rfl rfl (hS2) ((by rw [List.length_drop, hl])) (fun _ => rfl) (by omega) Try.underlying22 inf3 rfl ?_
  intro _ _ _ hA H'; simp only [List.set_cons_zero, List.set_cons_succ, List.take_succ_cons, List.take_zero, List.drop_succ_cons, List.drop_zero, List.cons_append, List.nil_append, List.append_nil, List.length_cons, List.length_nil, Nat.reduceAdd] at H'; clear H; have H := H'; clear H'
  refine s_run rfl rfl (ras rfl) ?_
  refine k_nc ?_
  refine k_sg ?_
  refine s_run rfl rfl (rms rfl) ?_
  refine s_run rfl rfl (rmi rfl) ?_
  refine s_run rfl rfl (rmi rfl) ?_
  refine s_run rfl rfl (r_shm rfl rfl rfl rfl rfl (by omega) (by omega) Try.underlying22 sz3) ?_
  refine s_run rfl rfl (rmi rfl) ?_
  refine s_apF (enc := (Value.int .i64)) H ((hS0.later H.only (by simp)).head i) ((by rw [List.length_take]; omega)) rfl rfl rfl rfl rfl rfl (by omega) Try.underlying22 inf3 rfl ?_
  intro _ An cn _ H'; clear H; have H := H'; clear H'
  refine s_run rfl rfl (rms rfl) ?_
  refine s_apW (enc := (Value.int .i64)) H 0 rfl rfl rfl rfl ((H.own_sees 1 rfl)) ((by simp; omega)) (fun _ => rfl) (by omega) Try.underlying22 inf3 rfl ?_
  intro A2 c2 _ H'; simp only [List.set_cons_zero, List.set_cons_succ, List.take_succ_cons, List.take_zero, List.drop_succ_cons, List.drop_zero, List.cons_append, List.nil_append, List.append_nil, List.length_cons, List.length_nil, Nat.reduceAdd] at H'; clear H; have H := H'; clear H'
  refine s_run rfl rfl (ras rfl) ?_
  refine k_nc ?_
  refine k_ret ?_
  refine fin1r (v := .slice _ _ _) rfl rfl ?_
  have e3 : l.take i ++ [x] ++ l.drop i = rIns l x := by rw [hp]; simp
  rw [e3] at H
  have hcap := own_cap H 0 rfl
  refine ⟨A2, c2, by rw [hlen, Nat.zero_add], by rw [hlen]; omega, H.own_fresh 0 rfl hF, H.only⟩
end Go.Proofs.Ytpbimgopiammaaa
end

section
namespace Go.Proofs.Ytpbimgopiammaaa
open Go.RowKit
set_option maxRecDepth 100000
set_option maxHeartbeats 2000000
/-- events that are read -/
def EvS (A : Option Addr) (w : World) (l : List (Int × Int)) : Prop := l.length ≠ 0 → ∃ b o, A = some ⟨b, o, none⟩ ∧ evP b o w l
theorem EvS.later {A : Option Addr} {w W : World} {l : List (Int × Int)} (h : EvS A w l) (hO : Only [] w W) : EvS A W l := fun h0 => by
 obtain ⟨b, o, e, hr⟩ := h h0
 exact ⟨b, o, e, fun i x hx => (hr i x hx).later hO (by simp)⟩
theorem EvS.take {A : Option Addr} {w : World} {l : List (Int × Int)} (h : EvS A w l) (k : Nat) : EvS A w (l.take k) := fun h0 => by
 obtain ⟨b, o, e, hr⟩ := h (by rw [List.length_take] at h0; omega)
 refine ⟨b, o, e, fun i x hx => hr i x ?_⟩
 rw [List.getElem?_take] at hx
 split at hx
 ·exact hx
 ·cases hx
theorem rIns_len : ∀ (l : List Int) (x : Int), (rIns l x).length ≤ l.length + 1
 | [], x => by simp [rIns]
 | y :: l, x => by
  have := rIns_len l x
  unfold rIns
  split
  ·simp only [List.length_cons]; omega
  ·split
   ·simp
   ·simp
theorem rMarked_at {F : List Nat} (A : Option Addr) (n c : Nat) (l : List (Int × Int)) (w : World) (hS : EvS A w l) (hF : ∀ i ∈ F, i < w.heap.size) (hl : l.length = n) (hn : n ≤ 90000) :
  Calls Try.prog 47 [.slice A n c].toArray w fun e w' => ∃ A' c', e = .returned (.slice A' (rMarked l).length c') ∧ (rMarked l).length ≤ n ∧ Sees (Value.int .i64) w' F A' (rMarked l) ∧ Only [] w w' := by
 have H := Heap.nil w
 refine k_in (N := 37) Try.func47 rfl rfl rfl ?_
 refine k_sg ?_
 refine s_run rfl rfl (ras rfl) ?_
 refine k_nc ?_
 refine k_sg ?_
 refine s_run rfl rfl (ras rfl) ?_
 refine k_nc ?_
 refine k_seq ?_
 refine k_sg ?_
 refine s_run rfl rfl (rai rfl) ?_
 refine k_nc ?_
 refine k_b ?_
 refine k_loop (fun z f W => ∃ (i : Nat) (s : List Int) (A' : Option Addr) (c' : Nat), i ≤ n ∧ z = n - i ∧ s = rMarked (l.take i) ∧ s.length ≤ i ∧ s.length ≤ c' ∧ Sees (Value.int .i64) W F A' s ∧ f 0 = .slice A n c ∧ f 3 = .slice A' s.length c' ∧ f 4 = .int .i64 i ∧ Heap w [] [] W) n ⟨0, [], none, 0, by omega, rfl, rfl, by simp, by simp, Sees.nil, rfl, rfl, rfl, H⟩ ?_
 clear H
 rintro z f W ⟨i, s, A', c', hi, rfl, hs, hsl, hsc, hSs, f0, f3, f4, H⟩
 by_cases hlt : i < n
 ·obtain ⟨e, he⟩ : ∃ e, l[i]? = some e := ⟨_, List.getElem?_eq_getElem (by omega)⟩
  obtain ⟨b, o, hA, hrd⟩ := hS (by omega)
  have hc0 := hrd i e he 0 _ rfl
  have hc1 := hrd i e he 1 _ rfl
  have hst : rMarked (l.take (i + 1)) = rmk (rMarked (l.take i)) e := snoc_foldl rmk [] _ _ _ he
  rw [← hs] at hst
  rw [hA] at f0
  obtain ⟨f, rfl⟩ := live3 f0 f3 f4
  clear f0 f3 f4
  obtain ⟨k, m⟩ := e
  simp only at hc0 hc1
  unfold rmk at hst
  simp only at hst
  by_cases h0 : m < 0
  ·rw [if_pos h0] at hst
   refine k_seq ?_
   refine k_sg ?_
   refine s_run rfl rfl (rmi rfl) ?_
   refine s_run rfl rfl (rms rfl) ?_
   refine s_run rfl rfl (r_len rfl Try.underlying53) ?_
   refine s_run rfl rfl (r_lssT rfl rfl (by omega)) ?_
   refine k_nc ?_
   refine k_t rfl ?_
   refine k_skip ?_
   refine c_norm ?_
   refine k_seq ?_
   refine k_b ?_
   refine k_seq ?_
   refine k_sg ?_
   refine s_run rfl rfl (rms rfl) ?_
   refine s_run rfl rfl (rmi rfl) ?_
   refine s_run rfl rfl (r_ix (i := i) rfl rfl (by omega) (by omega) Try.underlying53 sz67) ?_
   refine s_run rfl rfl (r_fa rfl fo67_1) ?_
   refine s_run rfl rfl (r_lr H rfl hc1 (by simp) ag3) ?_
   refine s_run rfl rfl (r_lssT rfl rfl (by omega)) ?_
   refine k_nc ?_
   refine k_t rfl ?_
   refine k_exit ?_
   refine c_exit ?_
   refine b_hit ?_
   refine c_norm ?_
   refine k_rg ?_
   refine s_run rfl rfl (rmi rfl) ?_
   refine s_run rfl rfl (r_add rfl rfl (wI (by omega))) ?_
   refine s_run rfl rfl (rai rfl) ?_
   refine k_nil ?_
   refine c_round ?_
   refine ⟨_, _, ?_, rfl, i + 1, s, A', c', by omega, rfl, hst.symm, by omega, hsc, hSs, by rw [hA]; rfl, rfl, rfl, H⟩
   omega
  rw [if_neg h0] at hst
  by_cases k5 : k = 5
  ·rw [if_pos k5] at hst
   refine k_seq ?_
   refine k_sg ?_
   refine s_run rfl rfl (rmi rfl) ?_
   refine s_run rfl rfl (rms rfl) ?_
   refine s_run rfl rfl (r_len rfl Try.underlying53) ?_
   refine s_run rfl rfl (r_lssT rfl rfl (by omega)) ?_
   refine k_nc ?_
   refine k_t rfl ?_
   refine k_skip ?_
   refine c_norm ?_
   refine k_seq ?_
   refine k_b ?_
   refine k_seq ?_
   refine k_sg ?_
   refine s_run rfl rfl (rms rfl) ?_
   refine s_run rfl rfl (rmi rfl) ?_
   refine s_run rfl rfl (r_ix (i := i) rfl rfl (by omega) (by omega) Try.underlying53 sz67) ?_
   refine s_run rfl rfl (r_fa rfl fo67_1) ?_
   refine s_run rfl rfl (r_lr H rfl hc1 (by simp) ag3) ?_
   refine s_run rfl rfl (r_lssF rfl rfl (by omega)) ?_
   refine k_nc ?_
   refine k_f rfl ?_
   refine k_skip ?_
   refine c_norm ?_
   refine k_seq ?_
   refine k_sg ?_
   refine s_run rfl rfl (rms rfl) ?_
   refine s_run rfl rfl (rmi rfl) ?_
   refine s_run rfl rfl (r_ix (i := i) rfl rfl (by omega) (by omega) Try.underlying53 sz67) ?_
   refine s_run rfl rfl (r_fa rfl fo67_0) ?_
   refine s_run rfl rfl (r_lr H rfl hc0 (by simp) ag3) ?_
   refine s_run rfl rfl (r_eqlT rfl rfl (by omega)) ?_
   refine k_nc ?_
   refine k_t rfl ?_
   refine k_rg ?_
   refine s_run rfl rfl (ras rfl) ?_
   refine k_nc ?_
   refine k_sg ?_
   refine s_run rfl rfl (rms rfl) ?_
   refine s_run rfl rfl (rmi rfl) ?_
   refine s_run rfl rfl (r_ix (i := i) rfl rfl (by omega) (by omega) Try.underlying53 sz67) ?_
   refine s_run rfl rfl (r_fa rfl fo67_0) ?_
   refine s_run rfl rfl (r_lr H rfl hc0 (by simp) ag3) ?_
   refine s_run rfl rfl (r_eqlF rfl rfl (by omega)) ?_
   refine k_nc ?_
   refine k_f rfl ?_
   refine k_skip ?_
   refine b_norm ?_
   refine c_norm ?_
   refine k_rg ?_
   refine s_run rfl rfl (rmi rfl) ?_
   refine s_run rfl rfl (r_add rfl rfl (wI (by omega))) ?_
   refine s_run rfl rfl (rai rfl) ?_
   refine k_nil ?_
   refine c_round ?_
   refine ⟨_, _, ?_, rfl, i + 1, [], none, 0, by omega, rfl, hst.symm, by simp, by simp, Sees.nil, by rw [hA]; rfl, rfl, rfl, H⟩
   omega
  rw [if_neg k5] at hst
  by_cases k4 : k = 4
  ·rw [if_pos k4] at hst
   have hI := fun {W' : World} h h2 => rInsert (F := F) A' s.length c' s m W' h h2 rfl (by omega) hsc
   have hil := rIns_len s m
   refine k_seq ?_
   refine k_sg ?_
   refine s_run rfl rfl (rmi rfl) ?_
   refine s_run rfl rfl (rms rfl) ?_
   refine s_run rfl rfl (r_len rfl Try.underlying53) ?_
   refine s_run rfl rfl (r_lssT rfl rfl (by omega)) ?_
   refine k_nc ?_
   refine k_t rfl ?_
   refine k_skip ?_
   refine c_norm ?_
   refine k_seq ?_
   refine k_b ?_
   refine k_seq ?_
   refine k_sg ?_
   refine s_run rfl rfl (rms rfl) ?_
   refine s_run rfl rfl (rmi rfl) ?_
   refine s_run rfl rfl (r_ix (i := i) rfl rfl (by omega) (by omega) Try.underlying53 sz67) ?_
   refine s_run rfl rfl (r_fa rfl fo67_1) ?_
   refine s_run rfl rfl (r_lr H rfl hc1 (by simp) ag3) ?_
   refine s_run rfl rfl (r_lssF rfl rfl (by omega)) ?_
   refine k_nc ?_
   refine k_f rfl ?_
   refine k_skip ?_
   refine c_norm ?_
   refine k_seq ?_
   refine k_sg ?_
   refine s_run rfl rfl (rms rfl) ?_
   refine s_run rfl rfl (rmi rfl) ?_
   refine s_run rfl rfl (r_ix (i := i) rfl rfl (by omega) (by omega) Try.underlying53 sz67) ?_
   refine s_run rfl rfl (r_fa rfl fo67_0) ?_
   refine s_run rfl rfl (r_lr H rfl hc0 (by simp) ag3) ?_
   refine s_run rfl rfl (r_eqlF rfl rfl (by omega)) ?_
   refine k_nc ?_
   refine k_f rfl ?_
   refine k_skip ?_
   refine c_norm ?_
   refine k_sg ?_
   refine s_run rfl rfl (rms rfl) ?_
   refine s_run rfl rfl (rmi rfl) ?_
   refine s_run rfl rfl (r_ix (i := i) rfl rfl (by omega) (by omega) Try.underlying53 sz67) ?_
   refine s_run rfl rfl (r_fa rfl fo67_0) ?_
   refine s_run rfl rfl (r_lr H rfl hc0 (by simp) ag3) ?_
   refine s_run rfl rfl (r_eqlT rfl rfl (by omega)) ?_
   refine k_nc ?_
   refine k_t rfl ?_
   refine k_rg ?_
   refine s_run rfl rfl (rms rfl) ?_
   refine s_run rfl rfl (rms rfl) ?_
   refine s_run rfl rfl (rmi rfl) ?_
   refine s_run rfl rfl (r_ix (i := i) rfl rfl (by omega) (by omega) Try.underlying53 sz67) ?_
   refine s_run rfl rfl (r_fa rfl fo67_1) ?_
   refine s_run rfl rfl (r_lr H rfl hc1 (by simp) ag3) ?_
   refine s_call rfl (hI hSs (fun i h => Nat.lt_of_lt_of_le (hF i h) H.only.size)) (ca45 rfl) ?_
   rintro e W1 ⟨A2, c2, rfl, hc2, hS2, H'⟩
   refine ⟨_, rfl, ?_⟩
   have H := H.same H'; clear H'
   refine s_run rfl rfl (ras rfl) ?_
   refine k_nil ?_
   refine b_norm ?_
   refine c_norm ?_
   refine k_rg ?_
   refine s_run rfl rfl (rmi rfl) ?_
   refine s_run rfl rfl (r_add rfl rfl (wI (by omega))) ?_
   refine s_run rfl rfl (rai rfl) ?_
   refine k_nil ?_
   refine c_round ?_
   refine ⟨_, _, ?_, rfl, i + 1, _, A2, c2, by omega, rfl, hst.symm, by omega, hc2, hS2, by rw [hA]; rfl, rfl, rfl, H⟩
   omega
  ·rw [if_neg k4] at hst
   refine k_seq ?_
   refine k_sg ?_
   refine s_run rfl rfl (rmi rfl) ?_
   refine s_run rfl rfl (rms rfl) ?_
   refine s_run rfl rfl (r_len rfl Try.underlying53) ?_
   refine s_run rfl rfl (r_lssT rfl rfl (by omega)) ?_
   refine k_nc ?_
   refine k_t rfl ?_
   refine k_skip ?_
   refine c_norm ?_
   refine k_seq ?_
   refine k_b ?_
   refine k_seq ?_
   refine k_sg ?_
   refine s_run rfl rfl (rms rfl) ?_
   refine s_run rfl rfl (rmi rfl) ?_
   refine s_run rfl rfl (r_ix (i := i) rfl rfl (by omega) (by omega) Try.underlying53 sz67) ?_
   refine s_run rfl rfl (r_fa rfl fo67_1) ?_
   refine s_run rfl rfl (r_lr H rfl hc1 (by simp) ag3) ?_
   refine s_run rfl rfl (r_lssF rfl rfl (by omega)) ?_
   refine k_nc ?_
   refine k_f rfl ?_
   refine k_skip ?_
   refine c_norm ?_
   refine k_seq ?_
   refine k_sg ?_
   refine s_run rfl rfl (rms rfl) ?_
   refine s_run rfl rfl (rmi rfl) ?_
   refine s_run rfl rfl (r_ix (i := i) rfl rfl (by omega) (by omega) Try.underlying53 sz67) ?_
   refine s_run rfl rfl (r_fa rfl fo67_0) ?_
   refine s_run rfl rfl (r_lr H rfl hc0 (by simp) ag3) ?_
   refine s_run rfl rfl (r_eqlF rfl rfl (by omega)) ?_
   refine k_nc ?_
   refine k_f rfl ?_
   refine k_skip ?_
   refine c_norm ?_
   refine k_sg ?_
   refine s_run rfl rfl (rms rfl) ?_
   refine s_run rfl rfl (rmi rfl) ?_
   refine s_run rfl rfl (r_ix (i := i) rfl rfl (by omega) (by omega) Try.underlying53 sz67) ?_
   refine s_run rfl rfl (r_fa rfl fo67_0) ?_
   refine s_run rfl rfl (r_lr H rfl hc0 (by simp) ag3) ?_
   refine s_run rfl rfl (r_eqlF rfl rfl (by omega)) ?_
   refine k_nc ?_
   refine k_f rfl ?_
   refine k_skip ?_
   refine b_norm ?_
   refine c_norm ?_
   refine k_rg ?_
   refine s_run rfl rfl (rmi rfl) ?_
   refine s_run rfl rfl (r_add rfl rfl (wI (by omega))) ?_
   refine s_run rfl rfl (rai rfl) ?_
   refine k_nil ?_
   refine c_round ?_
   refine ⟨_, _, ?_, rfl, i + 1, s, A', c', by omega, rfl, hst.symm, by omega, hsc, hSs, by rw [hA]; rfl, rfl, rfl, H⟩
   omega
 ·obtain rfl : i = n := by omega
  have et : l.take i = l := by rw [← hl]; exact List.take_length
  rw [et] at hs
  subst hs
  obtain ⟨f, rfl⟩ := live3 f0 f3 f4
  clear f0 f3 f4
  refine k_seq ?_
  refine k_sg ?_
  refine s_run rfl rfl (rmi rfl) ?_
  refine s_run rfl rfl (rms rfl) ?_
  refine s_run rfl rfl (r_len rfl Try.underlying53) ?_
  refine s_run rfl rfl (r_lssF rfl rfl (by omega)) ?_
  refine k_nc ?_
  refine k_f rfl ?_
  refine k_exit ?_
  refine c_exit ?_
  refine c_exit ?_
  refine b_hit ?_
  refine c_norm ?_
  refine k_sg ?_
  refine s_run rfl rfl (rms rfl) ?_
  refine s_run rfl rfl (ras rfl) ?_
  refine k_nc ?_
  refine k_ret ?_
  refine fin1r (v := .slice _ _ _) rfl rfl ?_
  exact ⟨A', c', rfl, hsl, hSs, H.only⟩
theorem rLoose_at {F : List Nat} (A : Option Addr) (n c : Nat) (l : List (Int × Int)) (w : World) (hS : EvS A w l) (hF : ∀ i ∈ F, i < w.heap.size) (hl : l.length = n) (hn : n ≤ 90000) :
  Calls Try.prog 22 [.slice A n c].toArray w fun e w' => ∃ A' c', e = .returned (.slice A' (rLoose l).length c') ∧ (rLoose l).length ≤ n ∧ Sees (Value.int .i64) w' F A' (rLoose l) ∧ Only [] w w' := by
 have H := Heap.nil w
 refine k_in (N := 43) Try.func22 rfl rfl rfl ?_
 refine k_sg ?_
 refine s_run rfl rfl (ras rfl) ?_
 refine k_nc ?_
 refine k_sg ?_
 refine s_run rfl rfl (ras rfl) ?_
 refine k_nc ?_
 refine k_seq ?_
 refine k_sg ?_
 refine s_run rfl rfl (rai rfl) ?_
 refine k_nc ?_
 refine k_b ?_
 refine k_loop (fun z f W => ∃ (i : Nat) (s : List Int) (A' : Option Addr) (c' : Nat), i ≤ n ∧ z = n - i ∧ s = (l.take i).foldl (rls l) [] ∧ s.length ≤ i ∧ s.length ≤ c' ∧ Sees (Value.int .i64) W F A' s ∧ f 0 = .slice A n c ∧ f 3 = .slice A' s.length c' ∧ f 4 = .int .i64 i ∧ Heap w [] [] W) n ⟨0, [], none, 0, by omega, rfl, rfl, by simp, by simp, Sees.nil, rfl, rfl, rfl, H⟩ ?_
 clear H
 rintro z f W ⟨i, s, A', c', hi, rfl, hs, hsl, hsc, hSs, f0, f3, f4, H⟩
 by_cases hlt : i < n
 ·obtain ⟨e, he⟩ : ∃ e, l[i]? = some e := ⟨_, List.getElem?_eq_getElem (by omega)⟩
  obtain ⟨b, o, hA, hrd⟩ := hS (by omega)
  have hc0 := hrd i e he 0 _ rfl
  have hc1 := hrd i e he 1 _ rfl
  have hst : (l.take (i + 1)).foldl (rls l) [] = rls l ((l.take i).foldl (rls l) []) e := snoc_foldl (rls l) [] _ _ _ he
  rw [← hs] at hst
  have hSt := fun {W' : World} h x => rState_at A n c l x W' h hl (by omega)
  have hSl := fun {W' : World} (h : Only [] w W') => hS.later h
  rw [hA] at f0 hSt hSl
  obtain ⟨f, rfl⟩ := live3 f0 f3 f4
  clear f0 f3 f4
  obtain ⟨k, m⟩ := e
  simp only at hc0 hc1
  unfold rls at hst
  simp only at hst
  by_cases h0 : m ≥ 0
  ·by_cases h1 : rState l m > 0
   ·by_cases k1 : k = 1
    ·rw [if_pos ⟨h0, h1, k1⟩] at hst
     have hI := fun {W' : World} h h2 => rInsert (F := F) A' s.length c' s m W' h h2 rfl (by omega) hsc
     have hil := rIns_len s m
     refine k_seq ?_
     refine k_sg ?_
     refine s_run rfl rfl (rmi rfl) ?_
     refine s_run rfl rfl (rms rfl) ?_
     refine s_run rfl rfl (r_len rfl Try.underlying53) ?_
     refine s_run rfl rfl (r_lssT rfl rfl (by omega)) ?_
     refine k_nc ?_
     refine k_t rfl ?_
     refine k_skip ?_
     refine c_norm ?_
     refine k_seq ?_
     refine k_b ?_
     refine k_sg ?_
     refine s_run rfl rfl (rms rfl) ?_
     refine s_run rfl rfl (rmi rfl) ?_
     refine s_run rfl rfl (r_ix (i := i) rfl rfl (by omega) (by omega) Try.underlying53 sz67) ?_
     refine s_run rfl rfl (r_fa rfl fo67_1) ?_
     refine s_run rfl rfl (r_lr H rfl hc1 (by simp) ag3) ?_
     refine s_run rfl rfl (r_geqT rfl rfl (by omega)) ?_
     refine s_run rfl rfl (rmb rfl) ?_
     refine s_run rfl (g_on 17 (by kernel_rfl) rfl) (rms rfl) ?_
     refine s_run rfl (g_on 17 (by kernel_rfl) rfl) (rms rfl) ?_
     refine s_run rfl (g_on 17 (by kernel_rfl) rfl) (rmi rfl) ?_
     refine s_run rfl (g_on 17 (by kernel_rfl) rfl) (r_ix (i := i) rfl rfl (by omega) (by omega) Try.underlying53 sz67) ?_
     refine s_run rfl (g_on 17 (by kernel_rfl) rfl) (r_fa rfl fo67_1) ?_
     refine s_run rfl (g_on 17 (by kernel_rfl) rfl) (r_lr H rfl hc1 (by simp) ag3) ?_
     refine s_call (g_on 17 (by kernel_rfl) rfl) (hSt (hSl H.only) m) (ca44 rfl) ?_
     rintro e W1 ⟨rfl, H'⟩
     refine ⟨_, rfl, ?_⟩
     have H := H.same H'; have hSs := hSs.later H' (by simp); clear H'
     refine s_run rfl (g_on 17 (by kernel_rfl) rfl) (r_gtrT rfl rfl (by omega)) ?_
     refine s_run rfl rfl (r_pkT (v := .bool _) rfl rfl) ?_
     refine s_run rfl rfl (rmb rfl) ?_
     refine s_run rfl (g_on 27 (by kernel_rfl) rfl) (rms rfl) ?_
     refine s_run rfl (g_on 27 (by kernel_rfl) rfl) (rmi rfl) ?_
     refine s_run rfl (g_on 27 (by kernel_rfl) rfl) (r_ix (i := i) rfl rfl (by omega) (by omega) Try.underlying53 sz67) ?_
     refine s_run rfl (g_on 27 (by kernel_rfl) rfl) (r_fa rfl fo67_0) ?_
     refine s_run rfl (g_on 27 (by kernel_rfl) rfl) (r_lr H rfl hc0 (by simp) ag3) ?_
     refine s_run rfl (g_on 27 (by kernel_rfl) rfl) (r_eqlT rfl rfl (by omega)) ?_
     refine s_run rfl rfl (r_pkT (v := .bool _) rfl rfl) ?_
     refine k_nc ?_
     refine k_t rfl ?_
     refine k_rg ?_
     refine s_run rfl rfl (rms rfl) ?_
     refine s_run rfl rfl (rms rfl) ?_
     refine s_run rfl rfl (rmi rfl) ?_
     refine s_run rfl rfl (r_ix (i := i) rfl rfl (by omega) (by omega) Try.underlying53 sz67) ?_
     refine s_run rfl rfl (r_fa rfl fo67_1) ?_
     refine s_run rfl rfl (r_lr H rfl hc1 (by simp) ag3) ?_
     refine s_call rfl (hI hSs (fun i h => Nat.lt_of_lt_of_le (hF i h) H.only.size)) (ca45 rfl) ?_
     rintro e W1 ⟨A2, c2, rfl, hc2, hS2, H'⟩
     refine ⟨_, rfl, ?_⟩
     have H := H.same H'; clear H'
     refine s_run rfl rfl (ras rfl) ?_
     refine k_nil ?_
     refine b_norm ?_
     refine c_norm ?_
     refine k_rg ?_
     refine s_run rfl rfl (rmi rfl) ?_
     refine s_run rfl rfl (r_add rfl rfl (wI (by omega))) ?_
     refine s_run rfl rfl (rai rfl) ?_
     refine k_nil ?_
     refine c_round ?_
     refine ⟨_, _, ?_, rfl, i + 1, _, A2, c2, by omega, rfl, hst.symm, by omega, hc2, hS2, by rw [hA]; rfl, rfl, rfl, H⟩
     omega
    ·rw [if_neg (fun h => k1 h.2.2)] at hst
     refine k_seq ?_
     refine k_sg ?_
     refine s_run rfl rfl (rmi rfl) ?_
     refine s_run rfl rfl (rms rfl) ?_
     refine s_run rfl rfl (r_len rfl Try.underlying53) ?_
     refine s_run rfl rfl (r_lssT rfl rfl (by omega)) ?_
     refine k_nc ?_
     refine k_t rfl ?_
     refine k_skip ?_
     refine c_norm ?_
     refine k_seq ?_
     refine k_b ?_
     refine k_sg ?_
     refine s_run rfl rfl (rms rfl) ?_
     refine s_run rfl rfl (rmi rfl) ?_
     refine s_run rfl rfl (r_ix (i := i) rfl rfl (by omega) (by omega) Try.underlying53 sz67) ?_
     refine s_run rfl rfl (r_fa rfl fo67_1) ?_
     refine s_run rfl rfl (r_lr H rfl hc1 (by simp) ag3) ?_
     refine s_run rfl rfl (r_geqT rfl rfl (by omega)) ?_
     refine s_run rfl rfl (rmb rfl) ?_
     refine s_run rfl (g_on 17 (by kernel_rfl) rfl) (rms rfl) ?_
     refine s_run rfl (g_on 17 (by kernel_rfl) rfl) (rms rfl) ?_
     refine s_run rfl (g_on 17 (by kernel_rfl) rfl) (rmi rfl) ?_
     refine s_run rfl (g_on 17 (by kernel_rfl) rfl) (r_ix (i := i) rfl rfl (by omega) (by omega) Try.underlying53 sz67) ?_
     refine s_run rfl (g_on 17 (by kernel_rfl) rfl) (r_fa rfl fo67_1) ?_
     refine s_run rfl (g_on 17 (by kernel_rfl) rfl) (r_lr H rfl hc1 (by simp) ag3) ?_
     refine s_call (g_on 17 (by kernel_rfl) rfl) (hSt (hSl H.only) m) (ca44 rfl) ?_
     rintro e W1 ⟨rfl, H'⟩
     refine ⟨_, rfl, ?_⟩
     have H := H.same H'; have hSs := hSs.later H' (by simp); clear H'
     refine s_run rfl (g_on 17 (by kernel_rfl) rfl) (r_gtrT rfl rfl (by omega)) ?_
     refine s_run rfl rfl (r_pkT (v := .bool _) rfl rfl) ?_
     refine s_run rfl rfl (rmb rfl) ?_
     refine s_run rfl (g_on 27 (by kernel_rfl) rfl) (rms rfl) ?_
     refine s_run rfl (g_on 27 (by kernel_rfl) rfl) (rmi rfl) ?_
     refine s_run rfl (g_on 27 (by kernel_rfl) rfl) (r_ix (i := i) rfl rfl (by omega) (by omega) Try.underlying53 sz67) ?_
     refine s_run rfl (g_on 27 (by kernel_rfl) rfl) (r_fa rfl fo67_0) ?_
     refine s_run rfl (g_on 27 (by kernel_rfl) rfl) (r_lr H rfl hc0 (by simp) ag3) ?_
     refine s_run rfl (g_on 27 (by kernel_rfl) rfl) (r_eqlF rfl rfl (by omega)) ?_
     refine s_run rfl rfl (r_pkT (v := .bool _) rfl rfl) ?_
     refine k_nc ?_
     refine k_f rfl ?_
     refine k_skip ?_
     refine b_norm ?_
     refine c_norm ?_
     refine k_rg ?_
     refine s_run rfl rfl (rmi rfl) ?_
     refine s_run rfl rfl (r_add rfl rfl (wI (by omega))) ?_
     refine s_run rfl rfl (rai rfl) ?_
     refine k_nil ?_
     refine c_round ?_
     refine ⟨_, _, ?_, rfl, i + 1, s, A', c', by omega, rfl, hst.symm, by omega, hsc, hSs, by rw [hA]; rfl, rfl, rfl, H⟩
     omega
   ·rw [if_neg (fun h => h1 h.2.1)] at hst
    refine k_seq ?_
    refine k_sg ?_
    refine s_run rfl rfl (rmi rfl) ?_
    refine s_run rfl rfl (rms rfl) ?_
    refine s_run rfl rfl (r_len rfl Try.underlying53) ?_
    refine s_run rfl rfl (r_lssT rfl rfl (by omega)) ?_
    refine k_nc ?_
    refine k_t rfl ?_
    refine k_skip ?_
    refine c_norm ?_
    refine k_seq ?_
    refine k_b ?_
    refine k_sg ?_
    refine s_run rfl rfl (rms rfl) ?_
    refine s_run rfl rfl (rmi rfl) ?_
    refine s_run rfl rfl (r_ix (i := i) rfl rfl (by omega) (by omega) Try.underlying53 sz67) ?_
    refine s_run rfl rfl (r_fa rfl fo67_1) ?_
    refine s_run rfl rfl (r_lr H rfl hc1 (by simp) ag3) ?_
    refine s_run rfl rfl (r_geqT rfl rfl (by omega)) ?_
    refine s_run rfl rfl (rmb rfl) ?_
    refine s_run rfl (g_on 17 (by kernel_rfl) rfl) (rms rfl) ?_
    refine s_run rfl (g_on 17 (by kernel_rfl) rfl) (rms rfl) ?_
    refine s_run rfl (g_on 17 (by kernel_rfl) rfl) (rmi rfl) ?_
    refine s_run rfl (g_on 17 (by kernel_rfl) rfl) (r_ix (i := i) rfl rfl (by omega) (by omega) Try.underlying53 sz67) ?_
    refine s_run rfl (g_on 17 (by kernel_rfl) rfl) (r_fa rfl fo67_1) ?_
    refine s_run rfl (g_on 17 (by kernel_rfl) rfl) (r_lr H rfl hc1 (by simp) ag3) ?_
    refine s_call (g_on 17 (by kernel_rfl) rfl) (hSt (hSl H.only) m) (ca44 rfl) ?_
    rintro e W1 ⟨rfl, H'⟩
    refine ⟨_, rfl, ?_⟩
    have H := H.same H'; have hSs := hSs.later H' (by simp); clear H'
    refine s_run rfl (g_on 17 (by kernel_rfl) rfl) (r_gtrF rfl rfl (by omega)) ?_
    refine s_run rfl rfl (r_pkT (v := .bool _) rfl rfl) ?_
    refine s_run rfl rfl (rmb rfl) ?_
    refine s_off rfl (g_off 27 (by kernel_rfl) rfl rfl) ?_
    refine s_off rfl (g_off 27 (by kernel_rfl) rfl rfl) ?_
    refine s_off rfl (g_off 27 (by kernel_rfl) rfl rfl) ?_
    refine s_off rfl (g_off 27 (by kernel_rfl) rfl rfl) ?_
    refine s_off rfl (g_off 27 (by kernel_rfl) rfl rfl) ?_
    refine s_off rfl (g_off 27 (by kernel_rfl) rfl rfl) ?_
    refine s_run rfl rfl (r_pkF (v := .bool _) rfl rfl) ?_
    refine k_nc ?_
    refine k_f rfl ?_
    refine k_skip ?_
    refine b_norm ?_
    refine c_norm ?_
    refine k_rg ?_
    refine s_run rfl rfl (rmi rfl) ?_
    refine s_run rfl rfl (r_add rfl rfl (wI (by omega))) ?_
    refine s_run rfl rfl (rai rfl) ?_
    refine k_nil ?_
    refine c_round ?_
    refine ⟨_, _, ?_, rfl, i + 1, s, A', c', by omega, rfl, hst.symm, by omega, hsc, hSs, by rw [hA]; rfl, rfl, rfl, H⟩
    omega
  ·rw [if_neg (fun h => h0 h.1)] at hst
   refine k_seq ?_
   refine k_sg ?_
   refine s_run rfl rfl (rmi rfl) ?_
   refine s_run rfl rfl (rms rfl) ?_
   refine s_run rfl rfl (r_len rfl Try.underlying53) ?_
   refine s_run rfl rfl (r_lssT rfl rfl (by omega)) ?_
   refine k_nc ?_
   refine k_t rfl ?_
   refine k_skip ?_
   refine c_norm ?_
   refine k_seq ?_
   refine k_b ?_
   refine k_sg ?_
   refine s_run rfl rfl (rms rfl) ?_
   refine s_run rfl rfl (rmi rfl) ?_
   refine s_run rfl rfl (r_ix (i := i) rfl rfl (by omega) (by omega) Try.underlying53 sz67) ?_
   refine s_run rfl rfl (r_fa rfl fo67_1) ?_
   refine s_run rfl rfl (r_lr H rfl hc1 (by simp) ag3) ?_
   refine s_run rfl rfl (r_geqF rfl rfl (by omega)) ?_
   refine s_run rfl rfl (rmb rfl) ?_
   refine s_off rfl (g_off 17 (by kernel_rfl) rfl rfl) ?_
   refine s_off rfl (g_off 17 (by kernel_rfl) rfl rfl) ?_
   refine s_off rfl (g_off 17 (by kernel_rfl) rfl rfl) ?_
   refine s_off rfl (g_off 17 (by kernel_rfl) rfl rfl) ?_
   refine s_off rfl (g_off 17 (by kernel_rfl) rfl rfl) ?_
   refine s_off rfl (g_off 17 (by kernel_rfl) rfl rfl) ?_
   refine s_off rfl (g_off 17 (by kernel_rfl) rfl rfl) ?_
   refine s_off rfl (g_off 17 (by kernel_rfl) rfl rfl) ?_
   refine s_run rfl rfl (r_pkF (v := .bool _) rfl rfl) ?_
   refine s_run rfl rfl (rmb rfl) ?_
   refine s_off rfl (g_off 27 (by kernel_rfl) rfl rfl) ?_
   refine s_off rfl (g_off 27 (by kernel_rfl) rfl rfl) ?_
   refine s_off rfl (g_off 27 (by kernel_rfl) rfl rfl) ?_
   refine s_off rfl (g_off 27 (by kernel_rfl) rfl rfl) ?_
   refine s_off rfl (g_off 27 (by kernel_rfl) rfl rfl) ?_
   refine s_off rfl (g_off 27 (by kernel_rfl) rfl rfl) ?_
   refine s_run rfl rfl (r_pkF (v := .bool _) rfl rfl) ?_
   refine k_nc ?_
   refine k_f rfl ?_
   refine k_skip ?_
   refine b_norm ?_
   refine c_norm ?_
   refine k_rg ?_
   refine s_run rfl rfl (rmi rfl) ?_
   refine s_run rfl rfl (r_add rfl rfl (wI (by omega))) ?_
   refine s_run rfl rfl (rai rfl) ?_
   refine k_nil ?_
   refine c_round ?_
   refine ⟨_, _, ?_, rfl, i + 1, s, A', c', by omega, rfl, hst.symm, by omega, hsc, hSs, by rw [hA]; rfl, rfl, rfl, H⟩
   omega
 ·obtain rfl : i = n := by omega
  have et : l.take i = l := by rw [← hl]; exact List.take_length
  rw [et] at hs
  have hs : s = rLoose l := hs
  subst hs
  obtain ⟨f, rfl⟩ := live3 f0 f3 f4
  clear f0 f3 f4
  refine k_seq ?_
  refine k_sg ?_
  refine s_run rfl rfl (rmi rfl) ?_
  refine s_run rfl rfl (rms rfl) ?_
  refine s_run rfl rfl (r_len rfl Try.underlying53) ?_
  refine s_run rfl rfl (r_lssF rfl rfl (by omega)) ?_
  refine k_nc ?_
  refine k_f rfl ?_
  refine k_exit ?_
  refine c_exit ?_
  refine c_exit ?_
  refine b_hit ?_
  refine c_norm ?_
  refine k_sg ?_
  refine s_run rfl rfl (rms rfl) ?_
  refine s_run rfl rfl (ras rfl) ?_
  refine k_nc ?_
  refine k_ret ?_
  refine fin1r (v := .slice _ _ _) rfl rfl ?_
  exact ⟨A', c', rfl, hsl, hSs, H.only⟩
end Go.Proofs.Ytpbimgopiammaaa
end

section
namespace Go.Proofs.Ytpbimgopiammaaa
open Go.RowKit
set_option maxRecDepth 100000
set_option maxHeartbeats 4000000
theorem flt_snoc (l : List Flt) (x : Flt) : fltN l ++ [C1.i .i64 x.at_, C1.i .i64 x.line, C1.i .i64 x.kind] = fltN (l ++ [x]) := by simp [fltN, Flt.cells]
theorem chk_snoc (l : List (Int × Int)) (i : Nat) (e : Int × Int) (he : l[i]? = some e) : (chk (l.take (i + 1))).faults = (chk (l.take i)).faults ++ rflt (l.take i) e := by
 have h : chk (l.take (i + 1)) = (chk (l.take i)).step e.1 e.2 := snoc_foldl (fun (s : Ck) (e : Int × Int) => s.step e.1 e.2) ck0 l i e he
 rw [h]
 exact chk_faults _ _ _
theorem rf1_len (b : List (Int × Int)) (a : Int) : ∀ M : List Int, (M.flatMap (rf1 b a)).length ≤ M.length
 | [] => by simp
 | x :: M => by
  have := rf1_len b a M
  rw [List.flatMap_cons, List.length_append, List.length_cons]
  have h1 : (rf1 b a x).length ≤ 1 := by unfold rf1; split <;> simp
  omega
/-- what is read beside entries that change is read as it was -/
theorem sees_on {α : Type} {enc : α → Value} {W W' : World} {L L' : List Ent} {A : Option Addr} {xs : List α} (h : Sees enc W (ids L) A xs) (H : Heap W (ids L) L' W') : Sees enc W' (ids L') A xs := by
 have h2 := h.news (G := ids L ++ ids L') (fun i hi => by
  rcases List.mem_append.1 hi with h1 | h1
  ·exact .inl h1
  ·exact H.own i h1)
 exact (h2.later H.only (fun i hi => List.mem_append_left _ hi)).mono (fun i hi => List.mem_append_right _ hi)
theorem rCheck_at (A : Option Addr) (n c : Nat) (l : List (Int × Int)) (w : World) (hS : EvS A w l) (hl : l.length = n) (hc : n ≤ c) (hn : n ≤ 600) :
  Calls Try.prog 24 [.slice A n c].toArray w fun e w' => ∃ A' c', e = .returned (.slice A' (chk l).faults.length c') ∧ Heap w [] [ownN 3 (.slice A' (chk l).faults.length c') (chk l).faults.length ((fltN (chk l).faults).map C1.v) 96] w' := by
 have H := Heap.nil w
 refine k_in (N := 107) Try.func24 rfl rfl rfl ?_
 refine k_sg ?_
 refine s_run rfl rfl (ras rfl) ?_
 refine k_nc ?_
 refine k_sg ?_
 refine s_run rfl rfl (ras rfl) ?_
 refine k_nc ?_
 refine k_seq ?_
 refine k_sg ?_
 refine s_run rfl rfl (rai rfl) ?_
 refine k_nc ?_
 refine k_b ?_
 replace H := H.own_nil 3 96
 refine k_loop (fun z f W => ∃ (i : Nat) (s : List Flt) (A' : Option Addr) (c' : Nat), i ≤ n ∧ z = n - i ∧ s = (chk (l.take i)).faults ∧ f 0 = .slice A n c ∧ f 3 = .slice A' s.length c' ∧ f 4 = .int .i64 i ∧ Heap w [] [ownN 3 (.slice A' s.length c') s.length ((fltN s).map C1.v) 96] W) n ⟨0, [], none, 0, by omega, rfl, rfl, rfl, rfl, rfl, H⟩ ?_
 clear H
 rintro z f W ⟨i, s, A', c', hi, rfl, hs, f0, f3, f4, H⟩
 have hsb : s.length ≤ i * 601 := by rw [hs]; exact (chk_bd l i (by omega) (by omega)).2.2
 by_cases hlt : i < n
 ·obtain ⟨e, he⟩ : ∃ e, l[i]? = some e := ⟨_, List.getElem?_eq_getElem (by omega)⟩
  obtain ⟨b, o, hA, hrd⟩ := hS (by omega)
  have hre := hrd i e he
  have hst := chk_snoc l i e he
  rw [← hs] at hst
  have hti : (l.take i).length = i := by rw [List.length_take]; omega
  obtain ⟨k, m⟩ := e
  unfold rflt at hst
  rw [hti] at hst
  simp only at hst hre
  have hSt := fun {W' : World} h x => rState_at A i c (l.take i) x W' h hti (by omega)
  have hFl := fun {W' : World} h => rFlushed_at A i c (l.take i) W' h hti (by omega)
  have hMk := fun {F : List Nat} {W' : World} h h2 => rMarked_at (F := F) A i c (l.take i) W' h h2 hti (by omega)
  have hSl := fun {W' : World} (h : Only [] w W') => (hS.take i).later h
  rw [hA] at f0 hSt hSl hFl hMk
  obtain ⟨f, rfl⟩ := live3 f0 f3 f4
  clear f0 f3 f4
  refine k_seq ?_
  refine k_sg ?_
  refine s_run rfl rfl (rmi rfl) ?_
  refine s_run rfl rfl (rms rfl) ?_
  refine s_run rfl rfl (r_len rfl Try.underlying53) ?_
  refine s_run rfl rfl (r_lssT rfl rfl (by omega)) ?_
  refine k_nc ?_
  refine k_t rfl ?_
  refine k_skip ?_
  refine c_norm ?_
  refine k_seq ?_
  refine k_b ?_
  refine k_seq ?_
  refine k_cut (fun f W => ∃ p5, f 0 = .slice (some ⟨b, o, none⟩) n c ∧ f 3 = .slice A' s.length c' ∧ f 4 = .int .i64 i ∧ f 5 = ptr p5 ∧ f 6 = .slice (some ⟨b, o, none⟩) i c ∧ Heap w [] [blk p5 [.int .i64 k, .int .i64 m] 67, ownN 3 (.slice A' s.length c') s.length ((fltN s).map C1.v) 96] W) ?_ ?_
  ·have HR := H; clear H; have H := HR.tree; refine k_tr mixed ?_
   refine tqn 0 rfl rfl rfl (fun _ hS => r_mv (v := .slice _ _ _) rfl) H.only ?_
   refine tqn 1 rfl rfl rfl (fun _ hS => r_mv (v := .int _ _) rfl) H.only ?_
   refine tqn 2 rfl rfl rfl (fun _ hS => r_ix (i := i) rfl rfl (by omega) (by omega) Try.underlying53 sz67) H.only ?_
   refine tqn 3 rfl rfl rfl (fun _ hS => r_lA (enc := fun v : Value => v) (zs := [.int .i64 k, .int .i64 m]) (hre.later (HR.same hS).only (by simp)) rfl rfl ag67 sz67) H.only ?_
   refine tqn 4 rfl rfl rfl (fun _ hS => r_mv (v := .slice _ _ _) rfl) H.only ?_
   refine tqn 5 rfl rfl rfl (fun _ hS => r_mv (v := .int _ _) rfl) H.only ?_
   refine tqn 6 rfl rfl rfl (fun _ hS => r_shiA rfl rfl rfl (by omega) Try.underlying53 sz67) H.only ?_
   refine t_up1 7 (by kernel_rfl) ?_
   refine up_mk rfl ?_
   refine s_al H rfl inf67 ?_
   intro p5 _ H'; clear H; have H := H'; clear H'
   refine k_nil ?_
   refine t_on H.only ?_
   refine t_up1 8 (by kernel_rfl) ?_
   refine up_mk rfl ?_
   refine s_sw H 0 rfl rfl rfl rfl rfl rfl rfl sz67 ?_
   clear H; intro _ H; simp only [jA, jB, jC, jD, jE, jF, jG, jH, jI, jJ, jK, Nat.reduceAdd] at H
   refine k_nil ?_
   refine t_on H.only ?_
   refine tqn 9 rfl rfl rfl (fun _ hS => r_as (v := .slice _ _ _) rfl) H.only ?_
   refine t_done (by kernel_rfl) ?_
   have H := HR.more H; clear HR; simp only [List.cons_append, List.nil_append] at H
   refine k_met ?_
   exact ⟨_, rfl, rfl, rfl, rfl, rfl, H⟩
  ·clear H
   rintro f W ⟨p5, f0, f3, f4, f5, f6, H⟩
   obtain ⟨f, rfl⟩ := live5 f0 f3 f4 f5 f6
   clear f0 f3 f4 f5 f6
   by_cases hbad : k < 1 ∨ 5 < k ∨ m < 0
   ·rw [if_pos hbad] at hst
    have hl2 : ∀ x, (s ++ [x]).length = s.length + 1 := fun x => by simp
    by_cases k1 : k < 1
    ·refine c_norm ?_
     refine k_b ?_
     refine k_sg ?_
     refine s_run rfl rfl (r_fa0 rfl fo67_0) ?_
     refine s_run rfl rfl (r_lo H 0 rfl rfl rfl ag3) ?_
     refine s_run rfl rfl (r_lssT rfl rfl (by omega)) ?_
     refine s_run rfl rfl (rmb rfl) ?_
     refine s_off rfl (g_off 27 (by kernel_rfl) rfl rfl) ?_
     refine s_off rfl (g_off 27 (by kernel_rfl) rfl rfl) ?_
     refine s_off rfl (g_off 27 (by kernel_rfl) rfl rfl) ?_
     refine s_run rfl rfl (r_pkT (v := .bool _) rfl rfl) ?_
     refine s_run rfl rfl (rmb rfl) ?_
     refine s_off rfl (g_off 32 (by kernel_rfl) rfl rfl) ?_
     refine s_off rfl (g_off 32 (by kernel_rfl) rfl rfl) ?_
     refine s_off rfl (g_off 32 (by kernel_rfl) rfl rfl) ?_
     refine s_run rfl rfl (r_pkT (v := .bool _) rfl rfl) ?_
     refine s_run rfl rfl (rab rfl) ?_
     refine k_nc ?_
     refine k_t rfl ?_
     refine k_rg ?_
     refine s_run rfl rfl (rms rfl) ?_
     refine s_run rfl rfl (rmi rfl) ?_
     refine s_run rfl rfl (r_fa0 rfl fo67_1) ?_
     refine s_run rfl rfl (r_lo H 0 rfl rfl rfl ag3) ?_
     refine s_run rfl rfl (r_bd (bd96_0_1_2 _ _ _) rfl) ?_
     refine s_appN (enc := C1.v) (zs := [C1.i .i64 (i : Int), C1.i .i64 m, C1.i .i64 5]) H 1 rfl rfl rfl rfl C1.one (by omega) (by kernel_rfl) rfl rfl rfl (by omega) Try.underlying55 inf96 rfl ?_
     intro _ A2 c2 _ H'; simp only [List.set_cons_zero, List.set_cons_succ, List.take_succ_cons, List.take_zero, List.drop_succ_cons, List.drop_zero, List.cons_append, List.nil_append, List.append_nil, List.length_cons, List.length_nil, Nat.reduceAdd] at H'; clear H; have H := H'; clear H'
     refine s_run rfl rfl (ras rfl) ?_
     refine k_nil ?_
     refine b_norm ?_
     refine b_norm ?_
     refine c_norm ?_
     refine k_rg ?_
     refine s_run rfl rfl (rmi rfl) ?_
     refine s_run rfl rfl (r_add rfl rfl (wI (by omega))) ?_
     refine s_run rfl rfl (rai rfl) ?_
     refine k_nil ?_
     refine c_round ?_
     rw [flt_snoc s ⟨i, m, 5⟩] at H
     refine ⟨_, _, ?_, rfl, i + 1, _, some ⟨A2, 0, none⟩, c2, by omega, rfl, hst.symm, by rw [hA]; rfl, by rw [hl2]; rfl, rfl, by rw [hl2]; exact H.drop⟩
     omega
    by_cases k5 : 5 < k
    ·refine c_norm ?_
     refine k_b ?_
     refine k_sg ?_
     refine s_run rfl rfl (r_fa0 rfl fo67_0) ?_
     refine s_run rfl rfl (r_lo H 0 rfl rfl rfl ag3) ?_
     refine s_run rfl rfl (r_lssF rfl rfl (by omega)) ?_
     refine s_run rfl rfl (rmb rfl) ?_
     refine s_run rfl (g_on 27 (by kernel_rfl) rfl) (r_fa0 rfl fo67_0) ?_
     refine s_run rfl (g_on 27 (by kernel_rfl) rfl) (r_lo H 0 rfl rfl rfl ag3) ?_
     refine s_run rfl (g_on 27 (by kernel_rfl) rfl) (r_gtrT rfl rfl (by omega)) ?_
     refine s_run rfl rfl (r_pkF (v := .bool _) rfl rfl) ?_
     refine s_run rfl rfl (rmb rfl) ?_
     refine s_off rfl (g_off 32 (by kernel_rfl) rfl rfl) ?_
     refine s_off rfl (g_off 32 (by kernel_rfl) rfl rfl) ?_
     refine s_off rfl (g_off 32 (by kernel_rfl) rfl rfl) ?_
     refine s_run rfl rfl (r_pkT (v := .bool _) rfl rfl) ?_
     refine s_run rfl rfl (rab rfl) ?_
     refine k_nc ?_
     refine k_t rfl ?_
     refine k_rg ?_
     refine s_run rfl rfl (rms rfl) ?_
     refine s_run rfl rfl (rmi rfl) ?_
     refine s_run rfl rfl (r_fa0 rfl fo67_1) ?_
     refine s_run rfl rfl (r_lo H 0 rfl rfl rfl ag3) ?_
     refine s_run rfl rfl (r_bd (bd96_0_1_2 _ _ _) rfl) ?_
     refine s_appN (enc := C1.v) (zs := [C1.i .i64 (i : Int), C1.i .i64 m, C1.i .i64 5]) H 1 rfl rfl rfl rfl C1.one (by omega) (by kernel_rfl) rfl rfl rfl (by omega) Try.underlying55 inf96 rfl ?_
     intro _ A2 c2 _ H'; simp only [List.set_cons_zero, List.set_cons_succ, List.take_succ_cons, List.take_zero, List.drop_succ_cons, List.drop_zero, List.cons_append, List.nil_append, List.append_nil, List.length_cons, List.length_nil, Nat.reduceAdd] at H'; clear H; have H := H'; clear H'
     refine s_run rfl rfl (ras rfl) ?_
     refine k_nil ?_
     refine b_norm ?_
     refine b_norm ?_
     refine c_norm ?_
     refine k_rg ?_
     refine s_run rfl rfl (rmi rfl) ?_
     refine s_run rfl rfl (r_add rfl rfl (wI (by omega))) ?_
     refine s_run rfl rfl (rai rfl) ?_
     refine k_nil ?_
     refine c_round ?_
     rw [flt_snoc s ⟨i, m, 5⟩] at H
     refine ⟨_, _, ?_, rfl, i + 1, _, some ⟨A2, 0, none⟩, c2, by omega, rfl, hst.symm, by rw [hA]; rfl, by rw [hl2]; rfl, rfl, by rw [hl2]; exact H.drop⟩
     omega
    ·refine c_norm ?_
     refine k_b ?_
     refine k_sg ?_
     refine s_run rfl rfl (r_fa0 rfl fo67_0) ?_
     refine s_run rfl rfl (r_lo H 0 rfl rfl rfl ag3) ?_
     refine s_run rfl rfl (r_lssF rfl rfl (by omega)) ?_
     refine s_run rfl rfl (rmb rfl) ?_
     refine s_run rfl (g_on 27 (by kernel_rfl) rfl) (r_fa0 rfl fo67_0) ?_
     refine s_run rfl (g_on 27 (by kernel_rfl) rfl) (r_lo H 0 rfl rfl rfl ag3) ?_
     refine s_run rfl (g_on 27 (by kernel_rfl) rfl) (r_gtrF rfl rfl (by omega)) ?_
     refine s_run rfl rfl (r_pkF (v := .bool _) rfl rfl) ?_
     refine s_run rfl rfl (rmb rfl) ?_
     refine s_run rfl (g_on 32 (by kernel_rfl) rfl) (r_fa0 rfl fo67_1) ?_
     refine s_run rfl (g_on 32 (by kernel_rfl) rfl) (r_lo H 0 rfl rfl rfl ag3) ?_
     refine s_run rfl (g_on 32 (by kernel_rfl) rfl) (r_lssT rfl rfl (by omega)) ?_
     refine s_run rfl rfl (r_pkF (v := .bool _) rfl rfl) ?_
     refine s_run rfl rfl (rab rfl) ?_
     refine k_nc ?_
     refine k_t rfl ?_
     refine k_rg ?_
     refine s_run rfl rfl (rms rfl) ?_
     refine s_run rfl rfl (rmi rfl) ?_
     refine s_run rfl rfl (r_fa0 rfl fo67_1) ?_
     refine s_run rfl rfl (r_lo H 0 rfl rfl rfl ag3) ?_
     refine s_run rfl rfl (r_bd (bd96_0_1_2 _ _ _) rfl) ?_
     refine s_appN (enc := C1.v) (zs := [C1.i .i64 (i : Int), C1.i .i64 m, C1.i .i64 5]) H 1 rfl rfl rfl rfl C1.one (by omega) (by kernel_rfl) rfl rfl rfl (by omega) Try.underlying55 inf96 rfl ?_
     intro _ A2 c2 _ H'; simp only [List.set_cons_zero, List.set_cons_succ, List.take_succ_cons, List.take_zero, List.drop_succ_cons, List.drop_zero, List.cons_append, List.nil_append, List.append_nil, List.length_cons, List.length_nil, Nat.reduceAdd] at H'; clear H; have H := H'; clear H'
     refine s_run rfl rfl (ras rfl) ?_
     refine k_nil ?_
     refine b_norm ?_
     refine b_norm ?_
     refine c_norm ?_
     refine k_rg ?_
     refine s_run rfl rfl (rmi rfl) ?_
     refine s_run rfl rfl (r_add rfl rfl (wI (by omega))) ?_
     refine s_run rfl rfl (rai rfl) ?_
     refine k_nil ?_
     refine c_round ?_
     rw [flt_snoc s ⟨i, m, 5⟩] at H
     refine ⟨_, _, ?_, rfl, i + 1, _, some ⟨A2, 0, none⟩, c2, by omega, rfl, hst.symm, by rw [hA]; rfl, by rw [hl2]; rfl, rfl, by rw [hl2]; exact H.drop⟩
     omega
   rw [if_neg hbad] at hst
   have hl2 : ∀ x, (s ++ [x]).length = s.length + 1 := fun x => by simp
   by_cases k2 : k = 2
   ·by_cases hs1 : rState (l.take i) m = 1
    ·rw [if_neg (fun h => h.2 hs1), if_neg (fun h => by omega), if_neg (by omega), List.append_nil] at hst
     refine c_norm ?_
     refine k_b ?_
     refine k_sg ?_
     refine s_run rfl rfl (r_fa0 rfl fo67_0) ?_
     refine s_run rfl rfl (r_lo H 0 rfl rfl rfl ag3) ?_
     refine s_run rfl rfl (r_lssF rfl rfl (by omega)) ?_
     refine s_run rfl rfl (rmb rfl) ?_
     refine s_run rfl (g_on 27 (by kernel_rfl) rfl) (r_fa0 rfl fo67_0) ?_
     refine s_run rfl (g_on 27 (by kernel_rfl) rfl) (r_lo H 0 rfl rfl rfl ag3) ?_
     refine s_run rfl (g_on 27 (by kernel_rfl) rfl) (r_gtrF rfl rfl (by omega)) ?_
     refine s_run rfl rfl (r_pkF (v := .bool _) rfl rfl) ?_
     refine s_run rfl rfl (rmb rfl) ?_
     refine s_run rfl (g_on 32 (by kernel_rfl) rfl) (r_fa0 rfl fo67_1) ?_
     refine s_run rfl (g_on 32 (by kernel_rfl) rfl) (r_lo H 0 rfl rfl rfl ag3) ?_
     refine s_run rfl (g_on 32 (by kernel_rfl) rfl) (r_lssF rfl rfl (by omega)) ?_
     refine s_run rfl rfl (r_pkF (v := .bool _) rfl rfl) ?_
     refine s_run rfl rfl (rab rfl) ?_
     refine k_nc ?_
     refine k_f rfl ?_
     refine k_sg ?_
     refine s_run rfl rfl (r_fa0 rfl fo67_0) ?_
     refine s_run rfl rfl (r_lo H 0 rfl rfl rfl ag3) ?_
     refine s_run rfl rfl (r_eqlT rfl rfl (by omega)) ?_
     refine s_run rfl rfl (rmb rfl) ?_
     refine s_run rfl (g_on 48 (by kernel_rfl) rfl) (rms rfl) ?_
     refine s_run rfl (g_on 48 (by kernel_rfl) rfl) (r_fa0 rfl fo67_1) ?_
     refine s_run rfl (g_on 48 (by kernel_rfl) rfl) (r_lo H 0 rfl rfl rfl ag3) ?_
     refine s_call (g_on 48 (by kernel_rfl) rfl) (hSt (hSl H.only) m) (ca44 rfl) ?_
     rintro e W1 ⟨rfl, H'⟩
     refine ⟨_, rfl, ?_⟩
     have H := H.same H'; clear H'
     refine s_run rfl (g_on 48 (by kernel_rfl) rfl) (r_neqF rfl rfl (by omega)) ?_
     refine s_run rfl rfl (r_pkT (v := .bool _) rfl rfl) ?_
     refine s_run rfl rfl (rab rfl) ?_
     refine k_nc ?_
     refine k_f rfl ?_
     refine k_sg ?_
     refine s_run rfl rfl (r_fa0 rfl fo67_0) ?_
     refine s_run rfl rfl (r_lo H 0 rfl rfl rfl ag3) ?_
     refine s_run rfl rfl (r_eqlF rfl rfl (by omega)) ?_
     refine s_run rfl rfl (rmb rfl) ?_
     refine s_off rfl (g_off 66 (by kernel_rfl) rfl rfl) ?_
     refine s_off rfl (g_off 66 (by kernel_rfl) rfl rfl) ?_
     refine s_off rfl (g_off 66 (by kernel_rfl) rfl rfl) ?_
     refine s_run rfl rfl (r_pkF (v := .bool _) rfl rfl) ?_
     refine s_run rfl rfl (rab rfl) ?_
     refine k_nc ?_
     refine k_f rfl ?_
     refine k_sg ?_
     refine s_run rfl rfl (r_fa0 rfl fo67_0) ?_
     refine s_run rfl rfl (r_lo H 0 rfl rfl rfl ag3) ?_
     refine s_run rfl rfl (r_eqlF rfl rfl (by omega)) ?_
     refine s_run rfl rfl (rab rfl) ?_
     refine k_nc ?_
     refine k_f rfl ?_
     refine k_skip ?_
     refine b_norm ?_
     refine b_norm ?_
     refine c_norm ?_
     refine k_rg ?_
     refine s_run rfl rfl (rmi rfl) ?_
     refine s_run rfl rfl (r_add rfl rfl (wI (by omega))) ?_
     refine s_run rfl rfl (rai rfl) ?_
     refine k_nil ?_
     refine c_round ?_
     refine ⟨_, _, ?_, rfl, i + 1, s, A', c', by omega, rfl, hst.symm, by rw [hA]; rfl, rfl, rfl, H.drop⟩
     omega
    ·rw [if_pos ⟨k2, hs1⟩] at hst
     refine c_norm ?_
     refine k_b ?_
     refine k_sg ?_
     refine s_run rfl rfl (r_fa0 rfl fo67_0) ?_
     refine s_run rfl rfl (r_lo H 0 rfl rfl rfl ag3) ?_
     refine s_run rfl rfl (r_lssF rfl rfl (by omega)) ?_
     refine s_run rfl rfl (rmb rfl) ?_
     refine s_run rfl (g_on 27 (by kernel_rfl) rfl) (r_fa0 rfl fo67_0) ?_
     refine s_run rfl (g_on 27 (by kernel_rfl) rfl) (r_lo H 0 rfl rfl rfl ag3) ?_
     refine s_run rfl (g_on 27 (by kernel_rfl) rfl) (r_gtrF rfl rfl (by omega)) ?_
     refine s_run rfl rfl (r_pkF (v := .bool _) rfl rfl) ?_
     refine s_run rfl rfl (rmb rfl) ?_
     refine s_run rfl (g_on 32 (by kernel_rfl) rfl) (r_fa0 rfl fo67_1) ?_
     refine s_run rfl (g_on 32 (by kernel_rfl) rfl) (r_lo H 0 rfl rfl rfl ag3) ?_
     refine s_run rfl (g_on 32 (by kernel_rfl) rfl) (r_lssF rfl rfl (by omega)) ?_
     refine s_run rfl rfl (r_pkF (v := .bool _) rfl rfl) ?_
     refine s_run rfl rfl (rab rfl) ?_
     refine k_nc ?_
     refine k_f rfl ?_
     refine k_sg ?_
     refine s_run rfl rfl (r_fa0 rfl fo67_0) ?_
     refine s_run rfl rfl (r_lo H 0 rfl rfl rfl ag3) ?_
     refine s_run rfl rfl (r_eqlT rfl rfl (by omega)) ?_
     refine s_run rfl rfl (rmb rfl) ?_
     refine s_run rfl (g_on 48 (by kernel_rfl) rfl) (rms rfl) ?_
     refine s_run rfl (g_on 48 (by kernel_rfl) rfl) (r_fa0 rfl fo67_1) ?_
     refine s_run rfl (g_on 48 (by kernel_rfl) rfl) (r_lo H 0 rfl rfl rfl ag3) ?_
     refine s_call (g_on 48 (by kernel_rfl) rfl) (hSt (hSl H.only) m) (ca44 rfl) ?_
     rintro e W1 ⟨rfl, H'⟩
     refine ⟨_, rfl, ?_⟩
     have H := H.same H'; clear H'
     refine s_run rfl (g_on 48 (by kernel_rfl) rfl) (r_neqT rfl rfl (by omega)) ?_
     refine s_run rfl rfl (r_pkT (v := .bool _) rfl rfl) ?_
     refine s_run rfl rfl (rab rfl) ?_
     refine k_nc ?_
     refine k_t rfl ?_
     refine k_rg ?_
     refine s_run rfl rfl (rms rfl) ?_
     refine s_run rfl rfl (rmi rfl) ?_
     refine s_run rfl rfl (r_fa0 rfl fo67_1) ?_
     refine s_run rfl rfl (r_lo H 0 rfl rfl rfl ag3) ?_
     refine s_run rfl rfl (r_bd (bd96_0_1_2 _ _ _) rfl) ?_
     refine s_appN (enc := C1.v) (zs := [C1.i .i64 (i : Int), C1.i .i64 m, C1.i .i64 3]) H 1 rfl rfl rfl rfl C1.one (by omega) (by kernel_rfl) rfl rfl rfl (by omega) Try.underlying55 inf96 rfl ?_
     intro _ A2 c2 _ H'; simp only [List.set_cons_zero, List.set_cons_succ, List.take_succ_cons, List.take_zero, List.drop_succ_cons, List.drop_zero, List.cons_append, List.nil_append, List.append_nil, List.length_cons, List.length_nil, Nat.reduceAdd] at H'; clear H; have H := H'; clear H'
     refine s_run rfl rfl (ras rfl) ?_
     refine k_nil ?_
     refine b_norm ?_
     refine b_norm ?_
     refine c_norm ?_
     refine k_rg ?_
     refine s_run rfl rfl (rmi rfl) ?_
     refine s_run rfl rfl (r_add rfl rfl (wI (by omega))) ?_
     refine s_run rfl rfl (rai rfl) ?_
     refine k_nil ?_
     refine c_round ?_
     rw [flt_snoc s ⟨i, m, 3⟩] at H
     refine ⟨_, _, ?_, rfl, i + 1, _, some ⟨A2, 0, none⟩, c2, by omega, rfl, hst.symm, by rw [hA]; rfl, by rw [hl2]; rfl, rfl, by rw [hl2]; exact H.drop⟩
     omega
   rw [if_neg (fun h => k2 h.1)] at hst
   by_cases k3 : k = 3
   ·by_cases hf : rFlushed (l.take i) = true
    ·rw [if_neg (fun h => by rw [hf] at h; cases h.2), if_neg (by omega), List.append_nil] at hst
     refine c_norm ?_
     refine k_b ?_
     refine k_sg ?_
     refine s_run rfl rfl (r_fa0 rfl fo67_0) ?_
     refine s_run rfl rfl (r_lo H 0 rfl rfl rfl ag3) ?_
     refine s_run rfl rfl (r_lssF rfl rfl (by omega)) ?_
     refine s_run rfl rfl (rmb rfl) ?_
     refine s_run rfl (g_on 27 (by kernel_rfl) rfl) (r_fa0 rfl fo67_0) ?_
     refine s_run rfl (g_on 27 (by kernel_rfl) rfl) (r_lo H 0 rfl rfl rfl ag3) ?_
     refine s_run rfl (g_on 27 (by kernel_rfl) rfl) (r_gtrF rfl rfl (by omega)) ?_
     refine s_run rfl rfl (r_pkF (v := .bool _) rfl rfl) ?_
     refine s_run rfl rfl (rmb rfl) ?_
     refine s_run rfl (g_on 32 (by kernel_rfl) rfl) (r_fa0 rfl fo67_1) ?_
     refine s_run rfl (g_on 32 (by kernel_rfl) rfl) (r_lo H 0 rfl rfl rfl ag3) ?_
     refine s_run rfl (g_on 32 (by kernel_rfl) rfl) (r_lssF rfl rfl (by omega)) ?_
     refine s_run rfl rfl (r_pkF (v := .bool _) rfl rfl) ?_
     refine s_run rfl rfl (rab rfl) ?_
     refine k_nc ?_
     refine k_f rfl ?_
     refine k_sg ?_
     refine s_run rfl rfl (r_fa0 rfl fo67_0) ?_
     refine s_run rfl rfl (r_lo H 0 rfl rfl rfl ag3) ?_
     refine s_run rfl rfl (r_eqlF rfl rfl (by omega)) ?_
     refine s_run rfl rfl (rmb rfl) ?_
     refine s_off rfl (g_off 48 (by kernel_rfl) rfl rfl) ?_
     refine s_off rfl (g_off 48 (by kernel_rfl) rfl rfl) ?_
     refine s_off rfl (g_off 48 (by kernel_rfl) rfl rfl) ?_
     refine s_off rfl (g_off 48 (by kernel_rfl) rfl rfl) ?_
     refine s_off rfl (g_off 48 (by kernel_rfl) rfl rfl) ?_
     refine s_run rfl rfl (r_pkF (v := .bool _) rfl rfl) ?_
     refine s_run rfl rfl (rab rfl) ?_
     refine k_nc ?_
     refine k_f rfl ?_
     refine k_sg ?_
     refine s_run rfl rfl (r_fa0 rfl fo67_0) ?_
     refine s_run rfl rfl (r_lo H 0 rfl rfl rfl ag3) ?_
     refine s_run rfl rfl (r_eqlT rfl rfl (by omega)) ?_
     refine s_run rfl rfl (rmb rfl) ?_
     refine s_run rfl (g_on 66 (by kernel_rfl) rfl) (rms rfl) ?_
     refine s_call (g_on 66 (by kernel_rfl) rfl) (hFl (hSl H.only)) (ca46 rfl) ?_
     rintro e W1 ⟨rfl, H'⟩
     refine ⟨_, rfl, ?_⟩
     rw [hf]; have H := H.same H'; clear H'
     refine s_run rfl (g_on 66 (by kernel_rfl) rfl) (r_notT rfl) ?_
     refine s_run rfl rfl (r_pkT (v := .bool _) rfl rfl) ?_
     refine s_run rfl rfl (rab rfl) ?_
     refine k_nc ?_
     refine k_f rfl ?_
     refine k_sg ?_
     refine s_run rfl rfl (r_fa0 rfl fo67_0) ?_
     refine s_run rfl rfl (r_lo H 0 rfl rfl rfl ag3) ?_
     refine s_run rfl rfl (r_eqlF rfl rfl (by omega)) ?_
     refine s_run rfl rfl (rab rfl) ?_
     refine k_nc ?_
     refine k_f rfl ?_
     refine k_skip ?_
     refine b_norm ?_
     refine b_norm ?_
     refine c_norm ?_
     refine k_rg ?_
     refine s_run rfl rfl (rmi rfl) ?_
     refine s_run rfl rfl (r_add rfl rfl (wI (by omega))) ?_
     refine s_run rfl rfl (rai rfl) ?_
     refine k_nil ?_
     refine c_round ?_
     refine ⟨_, _, ?_, rfl, i + 1, s, A', c', by omega, rfl, hst.symm, by rw [hA]; rfl, rfl, rfl, H.drop⟩
     omega
    ·have hf : rFlushed (l.take i) = false := by simpa using hf
     rw [if_pos ⟨k3, hf⟩] at hst
     refine c_norm ?_
     refine k_b ?_
     refine k_sg ?_
     refine s_run rfl rfl (r_fa0 rfl fo67_0) ?_
     refine s_run rfl rfl (r_lo H 0 rfl rfl rfl ag3) ?_
     refine s_run rfl rfl (r_lssF rfl rfl (by omega)) ?_
     refine s_run rfl rfl (rmb rfl) ?_
     refine s_run rfl (g_on 27 (by kernel_rfl) rfl) (r_fa0 rfl fo67_0) ?_
     refine s_run rfl (g_on 27 (by kernel_rfl) rfl) (r_lo H 0 rfl rfl rfl ag3) ?_
     refine s_run rfl (g_on 27 (by kernel_rfl) rfl) (r_gtrF rfl rfl (by omega)) ?_
     refine s_run rfl rfl (r_pkF (v := .bool _) rfl rfl) ?_
     refine s_run rfl rfl (rmb rfl) ?_
     refine s_run rfl (g_on 32 (by kernel_rfl) rfl) (r_fa0 rfl fo67_1) ?_
     refine s_run rfl (g_on 32 (by kernel_rfl) rfl) (r_lo H 0 rfl rfl rfl ag3) ?_
     refine s_run rfl (g_on 32 (by kernel_rfl) rfl) (r_lssF rfl rfl (by omega)) ?_
     refine s_run rfl rfl (r_pkF (v := .bool _) rfl rfl) ?_
     refine s_run rfl rfl (rab rfl) ?_
     refine k_nc ?_
     refine k_f rfl ?_
     refine k_sg ?_
     refine s_run rfl rfl (r_fa0 rfl fo67_0) ?_
     refine s_run rfl rfl (r_lo H 0 rfl rfl rfl ag3) ?_
     refine s_run rfl rfl (r_eqlF rfl rfl (by omega)) ?_
     refine s_run rfl rfl (rmb rfl) ?_
     refine s_off rfl (g_off 48 (by kernel_rfl) rfl rfl) ?_
     refine s_off rfl (g_off 48 (by kernel_rfl) rfl rfl) ?_
     refine s_off rfl (g_off 48 (by kernel_rfl) rfl rfl) ?_
     refine s_off rfl (g_off 48 (by kernel_rfl) rfl rfl) ?_
     refine s_off rfl (g_off 48 (by kernel_rfl) rfl rfl) ?_
     refine s_run rfl rfl (r_pkF (v := .bool _) rfl rfl) ?_
     refine s_run rfl rfl (rab rfl) ?_
     refine k_nc ?_
     refine k_f rfl ?_
     refine k_sg ?_
     refine s_run rfl rfl (r_fa0 rfl fo67_0) ?_
     refine s_run rfl rfl (r_lo H 0 rfl rfl rfl ag3) ?_
     refine s_run rfl rfl (r_eqlT rfl rfl (by omega)) ?_
     refine s_run rfl rfl (rmb rfl) ?_
     refine s_run rfl (g_on 66 (by kernel_rfl) rfl) (rms rfl) ?_
     refine s_call (g_on 66 (by kernel_rfl) rfl) (hFl (hSl H.only)) (ca46 rfl) ?_
     rintro e W1 ⟨rfl, H'⟩
     refine ⟨_, rfl, ?_⟩
     rw [hf]; have H := H.same H'; clear H'
     refine s_run rfl (g_on 66 (by kernel_rfl) rfl) (r_notF rfl) ?_
     refine s_run rfl rfl (r_pkT (v := .bool _) rfl rfl) ?_
     refine s_run rfl rfl (rab rfl) ?_
     refine k_nc ?_
     refine k_t rfl ?_
     refine k_rg ?_
     refine s_run rfl rfl (rms rfl) ?_
     refine s_run rfl rfl (rmi rfl) ?_
     refine s_run rfl rfl (r_bd (bd96_0_2 _ _) rfl) ?_
     refine s_appN (enc := C1.v) (zs := [C1.i .i64 (i : Int), C1.i .i64 0, C1.i .i64 4]) H 1 rfl rfl rfl rfl C1.one (by omega) (by kernel_rfl) rfl rfl rfl (by omega) Try.underlying55 inf96 rfl ?_
     intro _ A2 c2 _ H'; simp only [List.set_cons_zero, List.set_cons_succ, List.take_succ_cons, List.take_zero, List.drop_succ_cons, List.drop_zero, List.cons_append, List.nil_append, List.append_nil, List.length_cons, List.length_nil, Nat.reduceAdd] at H'; clear H; have H := H'; clear H'
     refine s_run rfl rfl (ras rfl) ?_
     refine k_nil ?_
     refine b_norm ?_
     refine b_norm ?_
     refine c_norm ?_
     refine k_rg ?_
     refine s_run rfl rfl (rmi rfl) ?_
     refine s_run rfl rfl (r_add rfl rfl (wI (by omega))) ?_
     refine s_run rfl rfl (rai rfl) ?_
     refine k_nil ?_
     refine c_round ?_
     rw [flt_snoc s ⟨i, 0, 4⟩] at H
     refine ⟨_, _, ?_, rfl, i + 1, _, some ⟨A2, 0, none⟩, c2, by omega, rfl, hst.symm, by rw [hA]; rfl, by rw [hl2]; rfl, rfl, by rw [hl2]; exact H.drop⟩
     omega
   rw [if_neg (fun h => k3 h.1)] at hst
   by_cases k5 : k = 5
   ·rw [if_pos k5] at hst
    obtain ⟨M, hM⟩ : ∃ M, rMarked (l.take i) = M := ⟨_, rfl⟩
    rw [hM] at hst hMk
    refine c_norm ?_
    refine k_b ?_
    refine k_sg ?_
    refine s_run rfl rfl (r_fa0 rfl fo67_0) ?_
    refine s_run rfl rfl (r_lo H 0 rfl rfl rfl ag3) ?_
    refine s_run rfl rfl (r_lssF rfl rfl (by omega)) ?_
    refine s_run rfl rfl (rmb rfl) ?_
    refine s_run rfl (g_on 27 (by kernel_rfl) rfl) (r_fa0 rfl fo67_0) ?_
    refine s_run rfl (g_on 27 (by kernel_rfl) rfl) (r_lo H 0 rfl rfl rfl ag3) ?_
    refine s_run rfl (g_on 27 (by kernel_rfl) rfl) (r_gtrF rfl rfl (by omega)) ?_
    refine s_run rfl rfl (r_pkF (v := .bool _) rfl rfl) ?_
    refine s_run rfl rfl (rmb rfl) ?_
    refine s_run rfl (g_on 32 (by kernel_rfl) rfl) (r_fa0 rfl fo67_1) ?_
    refine s_run rfl (g_on 32 (by kernel_rfl) rfl) (r_lo H 0 rfl rfl rfl ag3) ?_
    refine s_run rfl (g_on 32 (by kernel_rfl) rfl) (r_lssF rfl rfl (by omega)) ?_
    refine s_run rfl rfl (r_pkF (v := .bool _) rfl rfl) ?_
    refine s_run rfl rfl (rab rfl) ?_
    refine k_nc ?_
    refine k_f rfl ?_
    refine k_sg ?_
    refine s_run rfl rfl (r_fa0 rfl fo67_0) ?_
    refine s_run rfl rfl (r_lo H 0 rfl rfl rfl ag3) ?_
    refine s_run rfl rfl (r_eqlF rfl rfl (by omega)) ?_
    refine s_run rfl rfl (rmb rfl) ?_
    refine s_off rfl (g_off 48 (by kernel_rfl) rfl rfl) ?_
    refine s_off rfl (g_off 48 (by kernel_rfl) rfl rfl) ?_
    refine s_off rfl (g_off 48 (by kernel_rfl) rfl rfl) ?_
    refine s_off rfl (g_off 48 (by kernel_rfl) rfl rfl) ?_
    refine s_off rfl (g_off 48 (by kernel_rfl) rfl rfl) ?_
    refine s_run rfl rfl (r_pkF (v := .bool _) rfl rfl) ?_
    refine s_run rfl rfl (rab rfl) ?_
    refine k_nc ?_
    refine k_f rfl ?_
    refine k_sg ?_
    refine s_run rfl rfl (r_fa0 rfl fo67_0) ?_
    refine s_run rfl rfl (r_lo H 0 rfl rfl rfl ag3) ?_
    refine s_run rfl rfl (r_eqlF rfl rfl (by omega)) ?_
    refine s_run rfl rfl (rmb rfl) ?_
    refine s_off rfl (g_off 66 (by kernel_rfl) rfl rfl) ?_
    refine s_off rfl (g_off 66 (by kernel_rfl) rfl rfl) ?_
    refine s_off rfl (g_off 66 (by kernel_rfl) rfl rfl) ?_
    refine s_run rfl rfl (r_pkF (v := .bool _) rfl rfl) ?_
    refine s_run rfl rfl (rab rfl) ?_
    refine k_nc ?_
    refine k_f rfl ?_
    refine k_sg ?_
    refine s_run rfl rfl (r_fa0 rfl fo67_0) ?_
    refine s_run rfl rfl (r_lo H 0 rfl rfl rfl ag3) ?_
    refine s_run rfl rfl (r_eqlT rfl rfl (by omega)) ?_
    refine s_run rfl rfl (rab rfl) ?_
    refine k_nc ?_
    refine k_t rfl ?_
    refine k_sg ?_
    refine s_run rfl rfl (rms rfl) ?_
    refine s_call rfl (hMk (hSl H.only) (H.drop.idlt)) (ca47 rfl) ?_
    rintro e W1 ⟨MA, Mc, rfl, hMl, hMS, H'⟩
    refine ⟨_, rfl, ?_⟩
    have H := H.same H'; clear H'
    refine s_run rfl rfl (ras rfl) ?_
    refine k_nc ?_
    refine k_sg ?_
    refine s_run rfl rfl (rai rfl) ?_
    refine k_nc ?_
    refine k_b ?_
    replace H := H.drop
    refine k_loop (fun z f W => ∃ (j : Nat) (s2 : List Flt) (A2 : Option Addr) (c2 : Nat), j ≤ M.length ∧ z = M.length - j ∧ s2 = s ++ (M.take j).flatMap (rf1 (l.take i) i) ∧ Sees (Value.int .i64) W (ids [ownN 3 (.slice A2 s2.length c2) s2.length ((fltN s2).map C1.v) 96]) MA M ∧ f 0 = .slice (some ⟨b, o, none⟩) n c ∧ f 3 = .slice A2 s2.length c2 ∧ f 4 = .int .i64 i ∧ f 6 = .slice (some ⟨b, o, none⟩) i c ∧ f 7 = .slice MA M.length Mc ∧ f 8 = .int .i64 j ∧ Heap w [] [ownN 3 (.slice A2 s2.length c2) s2.length ((fltN s2).map C1.v) 96] W) M.length ⟨0, s, A', c', by omega, rfl, by simp, hMS, rfl, rfl, rfl, rfl, rfl, rfl, H⟩ ?_
    clear H hMS
    rintro z f W ⟨j, s2, A2, c2, hj, rfl, hs2, hMS, f0, f3, f4, f6, f7, f8, HB⟩
    have hs2l : s2.length ≤ s.length + j := by
     rw [hs2, List.length_append]
     have := rf1_len (l.take i) i (M.take j)
     rw [List.length_take] at this; omega
    have H := Heap.start HB.ents
    by_cases hjl : j < M.length
    ·obtain ⟨x, hx⟩ : ∃ x, M[j]? = some x := ⟨_, List.getElem?_eq_getElem hjl⟩
     obtain ⟨bm, om, hMA, hbm, hmr⟩ := hMS (by omega)
     have hcm := hmr j x hx
     have hs3 : s ++ (M.take (j + 1)).flatMap (rf1 (l.take i) i) = s2 ++ rf1 (l.take i) i x := by
      rw [hs2, ← tk_snoc hx, List.flatMap_append, List.append_assoc]; simp
     unfold rf1 at hs3
     rw [hMA] at f7
     obtain ⟨f, rfl⟩ := live6 f0 f3 f4 f6 f7 f8
     clear f0 f3 f4 f6 f7 f8
     by_cases hx0 : rState (l.take i) x > 0
     ·rw [if_pos hx0] at hs3
      have hl3 : ∀ x, (s2 ++ [x]).length = s2.length + 1 := fun x => by simp
      refine k_seq ?_
      refine k_sg ?_
      refine s_run rfl rfl (rmi rfl) ?_
      refine s_run rfl rfl (rms rfl) ?_
      refine s_run rfl rfl (r_len rfl Try.underlying22) ?_
      refine s_run rfl rfl (r_lssT rfl rfl (by omega)) ?_
      refine k_nc ?_
      refine k_t rfl ?_
      refine k_skip ?_
      refine c_norm ?_
      refine k_seq ?_
      refine k_b ?_
      refine k_sg ?_
      refine s_run rfl rfl (rms rfl) ?_
      refine s_run rfl rfl (rms rfl) ?_
      refine s_run rfl rfl (rmi rfl) ?_
      refine s_run rfl rfl (r_ix1o (i := j) rfl rfl (by omega) (by omega) Try.underlying22 sz3) ?_
      refine s_run rfl rfl (r_lr H rfl hcm hbm ag3) ?_
      refine s_call rfl (hSt (hSl (HB.whole H).only) x) (ca44 rfl) ?_
      rintro e W1 ⟨rfl, H'⟩
      refine ⟨_, rfl, ?_⟩
      have H := H.same H'; clear H'
      refine s_run rfl rfl (rai rfl) ?_
      refine k_nc ?_
      refine k_sg ?_
      refine s_run rfl rfl (rmi rfl) ?_
      refine s_run rfl rfl (r_gtrT rfl rfl (by omega)) ?_
      refine k_nc ?_
      refine k_t rfl ?_
      refine k_rg ?_
      refine s_run rfl rfl (rms rfl) ?_
      refine s_run rfl rfl (rmi rfl) ?_
      refine s_run rfl rfl (rms rfl) ?_
      refine s_run rfl rfl (rmi rfl) ?_
      refine s_run rfl rfl (r_ix1o (i := j) rfl rfl (by omega) (by omega) Try.underlying22 sz3) ?_
      refine s_run rfl rfl (r_lr H rfl hcm hbm ag3) ?_
      refine s_run rfl rfl (rmi rfl) ?_
      refine s_run rfl rfl (r_bd (bd96_0_1_2 _ _ _) rfl) ?_
      refine s_appN (enc := C1.v) (zs := [C1.i .i64 (i : Int), C1.i .i64 x, C1.i .i64 (rState (l.take i) x)]) H 0 rfl rfl rfl rfl C1.one (by omega) (by kernel_rfl) rfl rfl rfl (by omega) Try.underlying55 inf96 rfl ?_
      intro _ A3 c3 _ H'; simp only [List.set_cons_zero, List.set_cons_succ, List.take_succ_cons, List.take_zero, List.drop_succ_cons, List.drop_zero, List.cons_append, List.nil_append, List.append_nil, List.length_cons, List.length_nil, Nat.reduceAdd] at H'; clear H; have H := H'; clear H'
      refine s_run rfl rfl (ras rfl) ?_
      refine k_nil ?_
      refine b_norm ?_
      refine c_norm ?_
      refine k_rg ?_
      refine s_run rfl rfl (rmi rfl) ?_
      refine s_run rfl rfl (r_add rfl rfl (wI (by omega))) ?_
      refine s_run rfl rfl (rai rfl) ?_
      refine k_nil ?_
      refine c_round ?_
      rw [flt_snoc s2 ⟨i, x, rState (l.take i) x⟩] at H
      rw [← hl3 ⟨i, x, rState (l.take i) x⟩] at H
      refine ⟨_, _, ?_, rfl, j + 1, _, some ⟨A3, 0, none⟩, c3, by omega, rfl, hs3.symm, sees_on hMS H, rfl, by rw [hl3]; rfl, rfl, rfl, by rw [hMA]; rfl, rfl, HB.whole H⟩
      omega
     ·rw [if_neg hx0, List.append_nil] at hs3
      refine k_seq ?_
      refine k_sg ?_
      refine s_run rfl rfl (rmi rfl) ?_
      refine s_run rfl rfl (rms rfl) ?_
      refine s_run rfl rfl (r_len rfl Try.underlying22) ?_
      refine s_run rfl rfl (r_lssT rfl rfl (by omega)) ?_
      refine k_nc ?_
      refine k_t rfl ?_
      refine k_skip ?_
      refine c_norm ?_
      refine k_seq ?_
      refine k_b ?_
      refine k_sg ?_
      refine s_run rfl rfl (rms rfl) ?_
      refine s_run rfl rfl (rms rfl) ?_
      refine s_run rfl rfl (rmi rfl) ?_
      refine s_run rfl rfl (r_ix1o (i := j) rfl rfl (by omega) (by omega) Try.underlying22 sz3) ?_
      refine s_run rfl rfl (r_lr H rfl hcm hbm ag3) ?_
      refine s_call rfl (hSt (hSl (HB.whole H).only) x) (ca44 rfl) ?_
      rintro e W1 ⟨rfl, H'⟩
      refine ⟨_, rfl, ?_⟩
      have H := H.same H'; clear H'
      refine s_run rfl rfl (rai rfl) ?_
      refine k_nc ?_
      refine k_sg ?_
      refine s_run rfl rfl (rmi rfl) ?_
      refine s_run rfl rfl (r_gtrF rfl rfl (by omega)) ?_
      refine k_nc ?_
      refine k_f rfl ?_
      refine k_skip ?_
      refine b_norm ?_
      refine c_norm ?_
      refine k_rg ?_
      refine s_run rfl rfl (rmi rfl) ?_
      refine s_run rfl rfl (r_add rfl rfl (wI (by omega))) ?_
      refine s_run rfl rfl (rai rfl) ?_
      refine k_nil ?_
      refine c_round ?_
      refine ⟨_, _, ?_, rfl, j + 1, s2, A2, c2, by omega, rfl, hs3.symm, sees_on hMS H, rfl, rfl, rfl, rfl, by rw [hMA]; rfl, rfl, HB.whole H⟩
      omega
    ·obtain rfl : j = M.length := by omega
     rw [List.take_length] at hs2
     rw [← hs2] at hst
     obtain ⟨f, rfl⟩ := live6 f0 f3 f4 f6 f7 f8
     clear f0 f3 f4 f6 f7 f8
     refine k_seq ?_
     refine k_sg ?_
     refine s_run rfl rfl (rmi rfl) ?_
     refine s_run rfl rfl (rms rfl) ?_
     refine s_run rfl rfl (r_len rfl Try.underlying22) ?_
     refine s_run rfl rfl (r_lssF rfl rfl (by omega)) ?_
     refine k_nc ?_
     refine k_f rfl ?_
     refine k_exit ?_
     refine c_exit ?_
     refine c_exit ?_
     refine b_hit ?_
     refine b_norm ?_
     refine b_norm ?_
     refine c_norm ?_
     refine k_rg ?_
     refine s_run rfl rfl (rmi rfl) ?_
     refine s_run rfl rfl (r_add rfl rfl (wI (by omega))) ?_
     refine s_run rfl rfl (rai rfl) ?_
     refine k_nil ?_
     refine c_round ?_
     refine ⟨_, _, ?_, rfl, i + 1, s2, A2, c2, by omega, rfl, hst.symm, by rw [hA]; rfl, rfl, rfl, HB.whole H⟩
     omega
   ·rw [if_neg k5, List.append_nil] at hst
    refine c_norm ?_
    refine k_b ?_
    refine k_sg ?_
    refine s_run rfl rfl (r_fa0 rfl fo67_0) ?_
    refine s_run rfl rfl (r_lo H 0 rfl rfl rfl ag3) ?_
    refine s_run rfl rfl (r_lssF rfl rfl (by omega)) ?_
    refine s_run rfl rfl (rmb rfl) ?_
    refine s_run rfl (g_on 27 (by kernel_rfl) rfl) (r_fa0 rfl fo67_0) ?_
    refine s_run rfl (g_on 27 (by kernel_rfl) rfl) (r_lo H 0 rfl rfl rfl ag3) ?_
    refine s_run rfl (g_on 27 (by kernel_rfl) rfl) (r_gtrF rfl rfl (by omega)) ?_
    refine s_run rfl rfl (r_pkF (v := .bool _) rfl rfl) ?_
    refine s_run rfl rfl (rmb rfl) ?_
    refine s_run rfl (g_on 32 (by kernel_rfl) rfl) (r_fa0 rfl fo67_1) ?_
    refine s_run rfl (g_on 32 (by kernel_rfl) rfl) (r_lo H 0 rfl rfl rfl ag3) ?_
    refine s_run rfl (g_on 32 (by kernel_rfl) rfl) (r_lssF rfl rfl (by omega)) ?_
    refine s_run rfl rfl (r_pkF (v := .bool _) rfl rfl) ?_
    refine s_run rfl rfl (rab rfl) ?_
    refine k_nc ?_
    refine k_f rfl ?_
    refine k_sg ?_
    refine s_run rfl rfl (r_fa0 rfl fo67_0) ?_
    refine s_run rfl rfl (r_lo H 0 rfl rfl rfl ag3) ?_
    refine s_run rfl rfl (r_eqlF rfl rfl (by omega)) ?_
    refine s_run rfl rfl (rmb rfl) ?_
    refine s_off rfl (g_off 48 (by kernel_rfl) rfl rfl) ?_
    refine s_off rfl (g_off 48 (by kernel_rfl) rfl rfl) ?_
    refine s_off rfl (g_off 48 (by kernel_rfl) rfl rfl) ?_
    refine s_off rfl (g_off 48 (by kernel_rfl) rfl rfl) ?_
    refine s_off rfl (g_off 48 (by kernel_rfl) rfl rfl) ?_
    refine s_run rfl rfl (r_pkF (v := .bool _) rfl rfl) ?_
    refine s_run rfl rfl (rab rfl) ?_
    refine k_nc ?_
    refine k_f rfl ?_
    refine k_sg ?_
    refine s_run rfl rfl (r_fa0 rfl fo67_0) ?_
    refine s_run rfl rfl (r_lo H 0 rfl rfl rfl ag3) ?_
    refine s_run rfl rfl (r_eqlF rfl rfl (by omega)) ?_
    refine s_run rfl rfl (rmb rfl) ?_
    refine s_off rfl (g_off 66 (by kernel_rfl) rfl rfl) ?_
    refine s_off rfl (g_off 66 (by kernel_rfl) rfl rfl) ?_
    refine s_off rfl (g_off 66 (by kernel_rfl) rfl rfl) ?_
    refine s_run rfl rfl (r_pkF (v := .bool _) rfl rfl) ?_
    refine s_run rfl rfl (rab rfl) ?_
    refine k_nc ?_
    refine k_f rfl ?_
    refine k_sg ?_
    refine s_run rfl rfl (r_fa0 rfl fo67_0) ?_
    refine s_run rfl rfl (r_lo H 0 rfl rfl rfl ag3) ?_
    refine s_run rfl rfl (r_eqlF rfl rfl (by omega)) ?_
    refine s_run rfl rfl (rab rfl) ?_
    refine k_nc ?_
    refine k_f rfl ?_
    refine k_skip ?_
    refine b_norm ?_
    refine b_norm ?_
    refine c_norm ?_
    refine k_rg ?_
    refine s_run rfl rfl (rmi rfl) ?_
    refine s_run rfl rfl (r_add rfl rfl (wI (by omega))) ?_
    refine s_run rfl rfl (rai rfl) ?_
    refine k_nil ?_
    refine c_round ?_
    refine ⟨_, _, ?_, rfl, i + 1, s, A', c', by omega, rfl, hst.symm, by rw [hA]; rfl, rfl, rfl, H.drop⟩
    omega
 ·obtain rfl : i = n := by omega
  have et : l.take i = l := by rw [← hl]; exact List.take_length
  rw [et] at hs
  subst hs
  obtain ⟨f, rfl⟩ := live3 f0 f3 f4
  clear f0 f3 f4
  refine k_seq ?_
  refine k_sg ?_
  refine s_run rfl rfl (rmi rfl) ?_
  refine s_run rfl rfl (rms rfl) ?_
  refine s_run rfl rfl (r_len rfl Try.underlying53) ?_
  refine s_run rfl rfl (r_lssF rfl rfl (by omega)) ?_
  refine k_nc ?_
  refine k_f rfl ?_
  refine k_exit ?_
  refine c_exit ?_
  refine c_exit ?_
  refine b_hit ?_
  refine c_norm ?_
  refine k_sg ?_
  refine s_run rfl rfl (rms rfl) ?_
  refine s_run rfl rfl (ras rfl) ?_
  refine k_nc ?_
  refine k_ret ?_
  refine fin1r (v := .slice _ _ _) rfl rfl ?_
  exact ⟨A', c', rfl, H⟩
end Go.Proofs.Ytpbimgopiammaaa
end

section
namespace Go.Proofs.Ytpbimgopiammaaa
open Go.RowKit
set_option maxRecDepth 100000
set_option maxHeartbeats 2000000
section
variable {P : Program} {n : Sz} {f : Nat → Value} {W w0 : World} {dst : Option Tmp} {ty : TypeId} {pos : String} {af : Array Edge} {g : Option (Nat × Bool)} {x y : Operand} {t t2 e1 e2 e3 : TypeId}
theorem run_st3 {k1 k2 k3 q1 q2 q3 : IntKind} {a b c a' b' c' : Int} (ht : P.underlying t = some (.struct (P.fieldsOf t))) (hp : P.stoodInHeld t = false)
  (hf : (P.fieldsOf t).toList.map (fun f => (f.name != "_", f.type, f.offset)) = [(true, e1, 0), (true, e2, 1), (true, e3, 2)]) (h1 : P.underlying e1 = some (.int q1)) (h2 : P.underlying e2 = some (.int q2)) (h3 : P.underlying e3 = some (.int q3)) (D : Nat) :
  (Op.equalIn (D + 2) t (.agg [.int k1 a, .int k2 b, .int k3 c].toArray) (.agg [.int k1 a', .int k2 b', .int k3 c'].toArray)).run P W = .ok (decide (a = a' ∧ b = b' ∧ c = c')) W := by
 rw [run_equalIn_struct W (D + 1) t _ _ ht hp]
 generalize (P.fieldsOf t).toList = fs at hf
 obtain ⟨f1, f2, f3, rfl⟩ : ∃ f1 f2 f3, fs = [f1, f2, f3] := by
  have := congrArg List.length hf
  simp only [List.length_map, List.length_cons, List.length_nil] at this
  rcases fs with _ | ⟨f1, _ | ⟨f2, _ | ⟨f3, _ | ⟨f4, fs⟩⟩⟩⟩
  ·simp at this
  ·simp at this
  ·simp at this
  ·exact ⟨f1, f2, f3, rfl⟩
  ·simp at this
 simp only [List.map_cons, List.map_nil, List.cons.injEq, Prod.mk.injEq, and_true, bne_iff_ne] at hf
 obtain ⟨⟨n1, rfl, o1⟩, ⟨n2, rfl, o2⟩, n3, rfl, o3⟩ := hf
 have p1 : ∀ (W : World) (u v z : Value), (part f1.type [u, v, z].toArray f1.offset).run P W = .ok u W := by
  intro W u v z; simp [part, isAgg, run_underlying h1, o1]
 have p2 : ∀ (W : World) (u v z : Value), (part f2.type [u, v, z].toArray f2.offset).run P W = .ok v W := by
  intro W u v z; simp [part, isAgg, run_underlying h2, o2]
 have p3 : ∀ (W : World) (u v z : Value), (part f3.type [u, v, z].toArray f3.offset).run P W = .ok z W := by
  intro W u v z; simp [part, isAgg, run_underlying h3, o3]
 simp only [Op.eqFields, n1, n2, n3, ne_eq, not_false_eq_true, if_true, Sem.run_bind, p1, p2, p3, Result.andThen_ok, run_equalIn_int W D f1.type k1 q1 _ _ h1]
 by_cases c1 : a = a'
 ·by_cases c2 : b = b'
  ·by_cases c3 : c = c'
   ·simp [c1, c2, c3, Op.eqFields, p2, p3, run_equalIn_int W D f2.type k2 q2 _ _ h2, run_equalIn_int W D f3.type k3 q3 _ _ h3]
   ·simp [c1, c2, c3, Op.eqFields, p2, p3, run_equalIn_int W D f2.type k2 q2 _ _ h2, run_equalIn_int W D f3.type k3 q3 _ _ h3]
  ·simp [c1, c2, Op.eqFields, p2, run_equalIn_int W D f2.type k2 q2 _ _ h2]
 ·simp [c1]
theorem r_st3 {k1 k2 k3 q1 q2 q3 : IntKind} {a b c a' b' c' : Int} (hx : ev n f x = .agg [.int k1 a, .int k2 b, .int k3 c].toArray) (hy : ev n f y = .agg [.int k1 a', .int k2 b', .int k3 c'].toArray) (ht : P.underlying t = some (.struct (P.fieldsOf t))) (hp : P.stoodInHeld t = false) (hg : P.eqGuardType P.depth t = false)
  (hf : (P.fieldsOf t).toList.map (fun f => (f.name != "_", f.type, f.offset)) = [(true, e1, 0), (true, e2, 1), (true, e3, 2)]) (h1 : P.underlying e1 = some (.int q1)) (h2 : P.underlying e2 = some (.int q2)) (h3 : P.underlying e3 = some (.int q3)) {q : Bool} (hq : decide (a = a' ∧ b = b' ∧ c = c') = q) :
  (execOp (ev n f) ⟨dst, .binOp .eql t x y t2, ty, pos, af, g⟩).run P W = .ok (.value (.bool q)) W := by
 subst hq
 have h := run_st3 (W := W) (k1 := k1) (k2 := k2) (k3 := k3) (a := a) (b := b) (c := c) (a' := a') (b' := b') (c' := c') ht hp hf h1 h2 h3 9998
 have h2 : (binOp .eql t (.agg [.int k1 a, .int k2 b, .int k3 c].toArray) (.agg [.int k1 a', .int k2 b', .int k3 c'].toArray)).run P W = .ok (.bool (decide (a = a' ∧ b = b' ∧ c = c'))) W := by
  rw [run_eql_struct, h]; rfl
 have h3 := run_eqGuard_agg W .eql t x y [Value.int k1 a, .int k2 b, .int k3 c].toArray [Value.int k1 a', .int k2 b', .int k3 c'].toArray hg
 simp only [execOp, hx, hy, Sem.run_bind, h3, h2, Result.andThen_ok]
 rfl
end
def exE : List (Int × Int) := [(1, 3), (4, 3), (5, 0)]
theorem exE_f : (chk exE).faults = [⟨2, 3, 1⟩] := by
 simp [chk, exE, Ck.step, ck0, Ck.bump, mput, Ck.commit, srt, Ck.cm1, mget, Ck.fault]
theorem awake35 (w : World) : Calls Try.prog 17 [].toArray w fun e w' => e = .returned (.bool true) ∧ Only [] w w' := by
 have H := Heap.nil w
 refine k_in (N := 23) Try.func17 rfl rfl rfl ?_
 refine k_sg ?_
 refine s_run rfl rfl (rab rfl) ?_
 refine k_nc ?_
 refine k_sg ?_
 refine s_run rfl rfl (r_bd (bd49_0_1 _ _) rfl) ?_
 refine s_run rfl rfl (r_bd (bd49_0_1 _ _) rfl) ?_
 refine s_run rfl rfl (r_bd (bd49_0 _) rfl) ?_
 refine s_bsM (enc := C1.v) (size := 2) (zs := [C1.i .i64 1, C1.i .i64 3, C1.i .i64 4, C1.i .i64 3, C1.i .i64 5, C1.i .i64 0]) H rfl rfl rfl (by omega) (by omega) (by kernel_rfl) Try.underlying44 inf49 ?_
 intro b8 W8 H'
 clear H; have H := H'; clear H'
 have hS : exE.length ≠ 0 → ∃ b o, (some ⟨b8, 0, none⟩ : Option Addr) = some ⟨b, o, none⟩ ∧ evP b o W8 exE := by
  intro _
  obtain ⟨b, e, _, hr⟩ := H.own_seesN 0 rfl (by simp)
  injection e with e
  injection e with e _ _
  subst e
  refine ⟨b8, 0, rfl, fun i x hi j u hj => ?_⟩
  match i, j, hi, hj with
  | 0, 0, hi, hj => simp [exE] at hi; subst hi; simp at hj; subst hj; exact hr 0 _ rfl
  | 0, 1, hi, hj => simp [exE] at hi; subst hi; simp at hj; subst hj; exact hr 1 _ rfl
  | 1, 0, hi, hj => simp [exE] at hi; subst hi; simp at hj; subst hj; exact hr 2 _ rfl
  | 1, 1, hi, hj => simp [exE] at hi; subst hi; simp at hj; subst hj; exact hr 3 _ rfl
  | 2, 0, hi, hj => simp [exE] at hi; subst hi; simp at hj; subst hj; exact hr 4 _ rfl
  | 2, 1, hi, hj => simp [exE] at hi; subst hi; simp at hj; subst hj; exact hr 5 _ rfl
  | 0, j + 2, hi, hj => simp at hj
  | 1, j + 2, hi, hj => simp at hj
  | 2, j + 2, hi, hj => simp at hj
  | i + 3, j, hi, hj => simp [exE] at hi
 have hC := oCheck (some ⟨b8, 0, none⟩) 3 3 exE W8 hS rfl (by omega) (by simp [exE])
 rw [exE_f] at hC
 simp only [List.length_cons, List.length_nil, Nat.reduceAdd, Nat.zero_add, show fltN [⟨2, 3, 1⟩] = [C1.i .i64 2, C1.i .i64 3, C1.i .i64 1] from rfl] at hC
 refine s_call rfl (hC) (ca27 rfl) ?_
 rintro e W1 ⟨FA, fc, rfl, H'⟩
 refine ⟨_, rfl, ?_⟩
 have H := H.more H'; clear H'
 refine s_run rfl rfl (ras rfl) ?_
 refine k_nc ?_
 refine k_seq ?_
 obtain ⟨pa, rfl, _, hrd⟩ := H.own_seesN 0 rfl (by simp)
 refine k_rg ?_
 refine s_run rfl rfl (rms rfl) ?_
 refine s_run rfl rfl (r_len rfl Try.underlying58) ?_
 refine s_run rfl rfl (r_eqlT rfl rfl (by omega)) ?_
 refine s_run rfl rfl (rmb rfl) ?_
 refine s_run rfl (g_on 10 (by kernel_rfl) rfl) (rms rfl) ?_
 refine s_run rfl (g_on 10 (by kernel_rfl) rfl) (r_ix0 (i := 0) rfl rfl (by omega) (by omega) Try.underlying58 sz69) ?_
 refine s_run rfl (g_on 10 (by kernel_rfl) rfl) (r_lA (enc := C1.v) (zs := [C1.i .i64 2, C1.i .i64 3, C1.i .i64 1]) hrd rfl rfl ag69 sz69) ?_
 refine s_run rfl (g_on 10 (by kernel_rfl) rfl) (r_bd (bd69_0_1_2 _ _ _) rfl) ?_
 refine s_run rfl (g_on 10 (by kernel_rfl) rfl) (r_st3 (q := true) rfl rfl (by kernel_rfl) (by kernel_rfl) (by kernel_rfl) (by kernel_rfl) Try.underlying3 Try.underlying3 Try.underlying3 (by simp)) ?_
 refine s_run rfl rfl (r_pkT (v := .bool _) rfl rfl) ?_
 refine s_run rfl rfl (rmb rfl) ?_
 refine s_run rfl rfl (r_pkT (v := .bool _) rfl rfl) ?_
 refine s_run rfl rfl (rmb rfl) ?_
 refine s_run rfl rfl (r_pkT (v := .bool _) rfl rfl) ?_
 refine s_run rfl rfl (rmb rfl) ?_
 refine s_run rfl rfl (r_pkT (v := .bool _) rfl rfl) ?_
 refine s_run rfl rfl (rab rfl) ?_
 refine k_nc ?_
 refine k_ret ?_
 refine fin1r (v := .bool _) rfl rfl ?_
 exact ⟨rfl, H.only⟩
end Go.Proofs.Ytpbimgopiammaaa
end

section
namespace Go.Proofs.Ytpbimgopiammaaa
open Go.RowKit
set_option maxRecDepth 100000
set_option maxHeartbeats 2000000
theorem rIntsT (A B : Option Addr) (n c d : Nat) (l : List Int) (w : World) (hA : Sees (Value.int .i64) w [] A l) (hB : Sees (Value.int .i64) w [] B l) (hl : l.length = n) (hn : n ≤ 1000000000) :
  Calls Try.prog 20 [.slice A n c, .slice B n d].toArray w fun e w' => e = .returned (.bool true) ∧ Only [] w w' := by
 have H := Heap.nil w
 refine k_in (N := 26) Try.func20 rfl rfl rfl ?_
 refine k_sg ?_
 refine s_run rfl rfl (rab rfl) ?_
 refine k_nc ?_
 refine k_seq ?_
 refine k_sg ?_
 refine s_run rfl rfl (rms rfl) ?_
 refine s_run rfl rfl (r_len rfl Try.underlying22) ?_
 refine s_run rfl rfl (rms rfl) ?_
 refine s_run rfl rfl (r_len rfl Try.underlying22) ?_
 refine s_run rfl rfl (r_neqF rfl rfl (by omega)) ?_
 refine k_nc ?_
 refine k_f rfl ?_
 refine k_skip ?_
 refine c_norm ?_
 refine k_seq ?_
 refine k_sg ?_
 refine s_run rfl rfl (rai rfl) ?_
 refine k_nc ?_
 refine k_b ?_
 refine k_loop (fun z f W => ∃ (i : Nat), i ≤ n ∧ z = n - i ∧ f 0 = .slice A n c ∧ f 1 = .slice B n d ∧ f 5 = .int .i64 i ∧ Heap w [] [] W) n ⟨0, by omega, rfl, rfl, rfl, rfl, H⟩ ?_
 clear H
 rintro z f W ⟨i, hi, rfl, f0, f1, f5, H⟩
 by_cases hlt : i < n
 ·obtain ⟨y, hy⟩ : ∃ y, l[i]? = some y := ⟨_, List.getElem?_eq_getElem (by omega)⟩
  obtain ⟨b, o, rfl, _, hrd⟩ := hA (by omega)
  have hc0 := hrd i y hy
  obtain ⟨b', o', rfl, _, hrd'⟩ := hB (by omega)
  have hc1 := hrd' i y hy
  obtain ⟨f, rfl⟩ := live3 f0 f1 f5
  clear f0 f1 f5
  refine k_seq ?_
  refine k_sg ?_
  refine s_run rfl rfl (rmi rfl) ?_
  refine s_run rfl rfl (rms rfl) ?_
  refine s_run rfl rfl (r_len rfl Try.underlying22) ?_
  refine s_run rfl rfl (r_lssT rfl rfl (by omega)) ?_
  refine k_nc ?_
  refine k_t rfl ?_
  refine k_skip ?_
  refine c_norm ?_
  refine k_seq ?_
  refine k_b ?_
  refine k_seq ?_
  refine k_q mixed (by kernel_rfl) H ?_
  refine q_run rfl rfl (fun _ H => r_mv (v := .slice _ _ _) rfl) ?_
  refine q_run rfl rfl (fun _ H => r_mv (v := .int _ _) rfl) ?_
  refine q_run rfl rfl (fun _ H => r_ix1o (i := i) rfl rfl (by omega) (by omega) Try.underlying22 sz3) ?_
  refine q_run rfl rfl (fun _ H => r_lr H rfl hc0 (by simp) ag3) ?_
  refine q_run rfl rfl (fun _ H => r_mv (v := .slice _ _ _) rfl) ?_
  refine q_run rfl rfl (fun _ H => r_mv (v := .int _ _) rfl) ?_
  refine q_run rfl rfl (fun _ H => r_ix1o (i := i) rfl rfl (by omega) (by omega) Try.underlying22 sz3) ?_
  refine q_run rfl rfl (fun _ H => r_lr H rfl hc1 (by simp) ag3) ?_
  refine q_run rfl rfl (fun _ H => r_neqF rfl rfl (by omega)) ?_
  refine q_nil ?_
  intro _ H'; clear H; have H := H'; clear H'
  refine c_norm ?_
  refine k_f rfl ?_
  refine k_skip ?_
  refine b_norm ?_
  refine c_norm ?_
  refine k_rg ?_
  refine s_run rfl rfl (rmi rfl) ?_
  refine s_run rfl rfl (r_add rfl rfl (wI (by omega))) ?_
  refine s_run rfl rfl (rai rfl) ?_
  refine k_nil ?_
  refine c_round ?_
  refine ⟨_, _, ?_, rfl, i + 1, by omega, rfl, rfl, rfl, rfl, H⟩
  omega
 ·obtain rfl : i = n := by omega
  obtain ⟨f, rfl⟩ := live3 f0 f1 f5
  clear f0 f1 f5
  refine k_seq ?_
  refine k_sg ?_
  refine s_run rfl rfl (rmi rfl) ?_
  refine s_run rfl rfl (rms rfl) ?_
  refine s_run rfl rfl (r_len rfl Try.underlying22) ?_
  refine s_run rfl rfl (r_lssF rfl rfl (by omega)) ?_
  refine k_nc ?_
  refine k_f rfl ?_
  refine k_exit ?_
  refine c_exit ?_
  refine c_exit ?_
  refine b_hit ?_
  refine c_norm ?_
  refine k_sg ?_
  refine s_run rfl rfl (rab rfl) ?_
  refine k_nc ?_
  refine k_ret ?_
  refine fin1r (v := .bool _) rfl rfl ?_
  exact ⟨rfl, H.only⟩
end Go.Proofs.Ytpbimgopiammaaa
end

section
namespace Go.Proofs.Ytpbimgopiammaaa
open Go.RowKit
set_option maxRecDepth 100000
set_option maxHeartbeats 2000000
def evC (l : List (Int × Int)) : List C1 := l.flatMap fun e => [C1.i .i64 e.1, C1.i .i64 e.2]
theorem evC_get : ∀ (l : List (Int × Int)) (i : Nat) (e : Int × Int), l[i]? = some e → (evC l)[i * 2]? = some (C1.i .i64 e.1) ∧ (evC l)[i * 2 + 1]? = some (C1.i .i64 e.2)
 | [], i, e, h => by simp at h
 | x :: l, 0, e, h => by simp at h; subst h; exact ⟨rfl, rfl⟩
 | x :: l, i + 1, e, h => by
  have := evC_get l i e (by simpa using h)
  rw [show (i + 1) * 2 = i * 2 + 2 by omega]
  exact this
theorem evC_len (l : List (Int × Int)) : (evC l).length = l.length * 2 := by
 induction l with
 | nil => rfl
 | cons x l ih => simp [evC] at ih ⊢; omega
theorem ev_own {A : Option Addr} {n c : Nat} {l : List (Int × Int)} {T : TypeId} {w0 W : World} {F : List Nat} {L : List Ent} (H : Heap w0 F L W) (j : Nat) (hj : L[j]? = some (ownN 2 (.slice A n c) n ((evC l).map C1.v) T)) : EvS A W l := by
 intro h0
 obtain ⟨b, e, _, hr⟩ := H.own_seesN j hj (by rw [evC_len]; omega)
 refine ⟨b, 0, e, fun i x hx k z hz => ?_⟩
 obtain ⟨g1, g2⟩ := evC_get l i x hx
 match k, hz with
 | 0, hz => simp at hz; subst hz; exact hr _ _ g1
 | 1, hz => simp at hz; subst hz; have := hr _ _ g2; rw [Nat.zero_add] at this ⊢; exact this
 | k + 2, hz => simp at hz
theorem lRefs (A : Option Addr) (n c : Nat) (l : List (Int × Int)) (w : World) (hS : EvS A w l) (hl : l.length = n) (hn : n ≤ 90000) :
  Calls Try.prog 23 [.slice A n c].toArray w fun e w' => ∃ A' c', e = .returned (.slice A' n c') ∧ n ≤ c' ∧ Heap w [] [ownN 2 (.slice A' n c') n ((evC l).map C1.v) 67] w' := by
 have H := Heap.nil w
 refine k_in (N := 26) Try.func23 rfl rfl rfl ?_
 refine k_sg ?_
 refine s_run rfl rfl (ras rfl) ?_
 refine k_nc ?_
 refine k_sg ?_
 refine s_run rfl rfl (ras rfl) ?_
 refine k_nc ?_
 refine k_seq ?_
 refine k_sg ?_
 refine s_run rfl rfl (rai rfl) ?_
 refine k_nc ?_
 refine k_b ?_
 replace H := H.own_nil 2 67
 refine k_loop (fun z f W => ∃ (i : Nat) (A' : Option Addr) (c' : Nat), i ≤ n ∧ z = n - i ∧ f 0 = .slice A n c ∧ f 3 = .slice A' i c' ∧ f 4 = .int .i64 i ∧ Heap w [] [ownN 2 (.slice A' i c') i ((evC (l.take i)).map C1.v) 67] W) n ⟨0, none, 0, by omega, rfl, rfl, rfl, rfl, H⟩ ?_
 clear H
 rintro z f W ⟨i, A', c', hi, rfl, f0, f3, f4, H⟩
 by_cases hlt : i < n
 ·obtain ⟨e, he⟩ : ∃ e, l[i]? = some e := ⟨_, List.getElem?_eq_getElem (by omega)⟩
  obtain ⟨b, o, hA, hrd⟩ := hS (by omega)
  have hc0 := hrd i e he 0 _ rfl
  have hc1 := hrd i e he 1 _ rfl
  have e3 : evC (l.take i) ++ [C1.i .i64 e.1, C1.i .i64 e.2] = evC (l.take (i + 1)) := by rw [← tk_snoc he]; simp [evC]
  rw [hA] at f0
  obtain ⟨f, rfl⟩ := live3 f0 f3 f4
  clear f0 f3 f4
  refine k_seq ?_
  refine k_sg ?_
  refine s_run rfl rfl (rmi rfl) ?_
  refine s_run rfl rfl (rms rfl) ?_
  refine s_run rfl rfl (r_len rfl Try.underlying44) ?_
  refine s_run rfl rfl (r_lssT rfl rfl (by omega)) ?_
  refine k_nc ?_
  refine k_t rfl ?_
  refine k_skip ?_
  refine c_norm ?_
  refine k_seq ?_
  refine k_b ?_
  refine k_trF mixed ?_; have H' := H.drew; clear H; have H := H'; clear H'
  refine tqh 0 rfl rfl rfl (fun _ hS => r_mv (v := .slice _ _ _) rfl) trivial ?_
  refine tqh 1 rfl rfl rfl (fun _ hS => r_mv (v := .slice _ _ _) rfl) trivial ?_
  refine tqh 2 rfl rfl rfl (fun _ hS => r_mv (v := .int _ _) rfl) trivial ?_
  refine tqh 3 rfl rfl rfl (fun _ hS => r_ix (i := i) rfl rfl (by omega) (by omega) Try.underlying44 sz49) trivial ?_
  refine tqh 4 rfl rfl rfl (fun _ hS => r_fa rfl fo49_0) trivial ?_
  refine tqh 6 rfl rfl rfl (fun _ hS => r_mv (v := .slice _ _ _) rfl) trivial ?_
  refine tqh 7 rfl rfl rfl (fun _ hS => r_mv (v := .int _ _) rfl) trivial ?_
  refine tqh 8 rfl rfl rfl (fun _ hS => r_ix (i := i) rfl rfl (by omega) (by omega) Try.underlying44 sz49) trivial ?_
  refine tqh 9 rfl rfl rfl (fun _ hS => r_fa rfl fo49_1) trivial ?_
  refine t_up2 5 10 (by kernel_rfl) ?_ ?_
  ·refine up_mk rfl ?_
   refine s_run rfl rfl (r_lr H rfl hc0 (by simp) ag3) ?_
   refine k_nil ?_
   refine t_on trivial ?_
   refine t_up1 10 (by kernel_rfl) ?_
   refine up_mk rfl ?_
   refine s_run rfl rfl (r_lr H rfl hc1 (by simp) ag3) ?_
   refine k_nil ?_
   refine t_on trivial ?_
   refine tqh 11 rfl rfl rfl (fun _ hS => r_bd (bd67_0_1 _ _) rfl) trivial ?_
   refine t_up1 12 (by kernel_rfl) ?_
   refine up_mk rfl ?_
   refine s_bsN (enc := C1.v) (size := 2) (zs := [C1.i .i64 e.1, C1.i .i64 e.2]) H rfl rfl rfl (by omega) (by kernel_rfl) Try.underlying53 inf67 ?_
   intro _ _ H'; clear H; have H := H'; clear H'
   refine k_nil ?_
   refine t_on trivial ?_
   refine t_up1 13 (by kernel_rfl) ?_
   refine up_mk rfl ?_
   refine s_apB (enc := C1.v) (size := 2) H 0 rfl rfl rfl rfl C1.one (by omega) (by omega) Try.underlying53 inf67 rfl ?_
   intro A2 c2 _ H'; simp only [List.set_cons_zero, List.set_cons_succ, List.take_succ_cons, List.take_zero, List.drop_succ_cons, List.drop_zero, List.cons_append, List.nil_append, List.append_nil, List.length_cons, List.length_nil, Nat.reduceAdd] at H'; clear H; have H := H'; clear H'
   refine k_nil ?_
   refine t_on trivial ?_
   refine tqh 14 rfl rfl rfl (fun _ hS => r_as (v := .slice _ _ _) rfl) trivial ?_
   refine t_done (by kernel_rfl) ?_
   refine b_norm ?_
   refine c_norm ?_
   refine k_rg ?_
   refine s_run rfl rfl (rmi rfl) ?_
   refine s_run rfl rfl (r_add rfl rfl (wI (by omega))) ?_
   refine s_run rfl rfl (rai rfl) ?_
   refine k_nil ?_
   refine c_round ?_
   rw [e3] at H; exact ⟨_, _, by omega, rfl, i + 1, A2, c2, by omega, rfl, by rw [hA]; rfl, rfl, rfl, H⟩
  ·refine up_mk rfl ?_
   refine s_run rfl rfl (r_lr H rfl hc1 (by simp) ag3) ?_
   refine k_nil ?_
   refine t_on trivial ?_
   refine t_up1 5 (by kernel_rfl) ?_
   refine up_mk rfl ?_
   refine s_run rfl rfl (r_lr H rfl hc0 (by simp) ag3) ?_
   refine k_nil ?_
   refine t_on trivial ?_
   refine tqh 11 rfl rfl rfl (fun _ hS => r_bd (bd67_0_1 _ _) rfl) trivial ?_
   refine t_up1 12 (by kernel_rfl) ?_
   refine up_mk rfl ?_
   refine s_bsN (enc := C1.v) (size := 2) (zs := [C1.i .i64 e.1, C1.i .i64 e.2]) H rfl rfl rfl (by omega) (by kernel_rfl) Try.underlying53 inf67 ?_
   intro _ _ H'; clear H; have H := H'; clear H'
   refine k_nil ?_
   refine t_on trivial ?_
   refine t_up1 13 (by kernel_rfl) ?_
   refine up_mk rfl ?_
   refine s_apB (enc := C1.v) (size := 2) H 0 rfl rfl rfl rfl C1.one (by omega) (by omega) Try.underlying53 inf67 rfl ?_
   intro A2 c2 _ H'; simp only [List.set_cons_zero, List.set_cons_succ, List.take_succ_cons, List.take_zero, List.drop_succ_cons, List.drop_zero, List.cons_append, List.nil_append, List.append_nil, List.length_cons, List.length_nil, Nat.reduceAdd] at H'; clear H; have H := H'; clear H'
   refine k_nil ?_
   refine t_on trivial ?_
   refine tqh 14 rfl rfl rfl (fun _ hS => r_as (v := .slice _ _ _) rfl) trivial ?_
   refine t_done (by kernel_rfl) ?_
   refine b_norm ?_
   refine c_norm ?_
   refine k_rg ?_
   refine s_run rfl rfl (rmi rfl) ?_
   refine s_run rfl rfl (r_add rfl rfl (wI (by omega))) ?_
   refine s_run rfl rfl (rai rfl) ?_
   refine k_nil ?_
   refine c_round ?_
   rw [e3] at H; exact ⟨_, _, by omega, rfl, i + 1, A2, c2, by omega, rfl, by rw [hA]; rfl, rfl, rfl, H⟩
 ·obtain rfl : i = n := by omega
  have et : l.take i = l := by rw [← hl]; exact List.take_length
  rw [et] at H
  obtain ⟨f, rfl⟩ := live3 f0 f3 f4
  clear f0 f3 f4
  refine k_seq ?_
  refine k_sg ?_
  refine s_run rfl rfl (rmi rfl) ?_
  refine s_run rfl rfl (rms rfl) ?_
  refine s_run rfl rfl (r_len rfl Try.underlying44) ?_
  refine s_run rfl rfl (r_lssF rfl rfl (by omega)) ?_
  refine k_nc ?_
  refine k_f rfl ?_
  refine k_exit ?_
  refine c_exit ?_
  refine c_exit ?_
  refine b_hit ?_
  refine c_norm ?_
  refine k_sg ?_
  refine s_run rfl rfl (rms rfl) ?_
  refine s_run rfl rfl (ras rfl) ?_
  refine k_nc ?_
  refine k_ret ?_
  refine fin1r (v := .slice _ _ _) rfl rfl ?_
  exact ⟨A', c', rfl, own_cap H 0 rfl, H⟩
theorem flt_get : ∀ (l : List Flt) (i : Nat) (x : Flt), l[i]? = some x → (fltN l)[i * 3]? = some (C1.i .i64 x.at_) ∧ (fltN l)[i * 3 + 1]? = some (C1.i .i64 x.line) ∧ (fltN l)[i * 3 + 2]? = some (C1.i .i64 x.kind)
 | [], i, e, h => by simp at h
 | x :: l, 0, e, h => by simp at h; subst h; exact ⟨rfl, rfl, rfl⟩
 | x :: l, i + 1, e, h => by
  have := flt_get l i e (by simpa using h)
  rw [show (i + 1) * 3 = i * 3 + 3 by omega]
  exact this
theorem lSame (A B : Option Addr) (n c d : Nat) (l : List Flt) (w : World) (hA : Sees C1.v w [] A (fltN l)) (hB : Sees C1.v w [] B (fltN l)) (hl : l.length = n) (hn : n ≤ 1000000) :
  Calls Try.prog 25 [.slice A n c, .slice B n d].toArray w fun e w' => e = .returned (.bool true) ∧ Only [] w w' := by
 have H := Heap.nil w
 have hfl := flt_len l
 refine k_in (N := 54) Try.func25 rfl rfl rfl ?_
 refine k_sg ?_
 refine s_run rfl rfl (rab rfl) ?_
 refine k_nc ?_
 refine k_seq ?_
 refine k_sg ?_
 refine s_run rfl rfl (rms rfl) ?_
 refine s_run rfl rfl (r_len rfl Try.underlying58) ?_
 refine s_run rfl rfl (rms rfl) ?_
 refine s_run rfl rfl (r_len rfl Try.underlying55) ?_
 refine s_run rfl rfl (r_neqF rfl rfl (by omega)) ?_
 refine k_nc ?_
 refine k_f rfl ?_
 refine k_skip ?_
 refine c_norm ?_
 refine k_seq ?_
 refine k_sg ?_
 refine s_run rfl rfl (rai rfl) ?_
 refine k_nc ?_
 refine k_b ?_
 refine k_loop (fun z f W => ∃ (i : Nat), i ≤ n ∧ z = n - i ∧ f 0 = .slice A n c ∧ f 1 = .slice B n d ∧ f 5 = .int .i64 i ∧ Heap w [] [] W) n ⟨0, by omega, rfl, rfl, rfl, rfl, H⟩ ?_
 clear H
 rintro z f W ⟨i, hi, rfl, f0, f1, f5, H⟩
 by_cases hlt : i < n
 ·obtain ⟨y, hy⟩ : ∃ y, l[i]? = some y := ⟨_, List.getElem?_eq_getElem (by omega)⟩
  obtain ⟨b, o, rfl, _, hrd⟩ := hA (by omega)
  obtain ⟨b', o', rfl, _, hrd'⟩ := hB (by omega)
  obtain ⟨g1, g2, g3⟩ := flt_get l i y hy
  have a1 := hrd _ _ g1
  have a2 := hrd _ _ g2
  have a3 := hrd _ _ g3
  have b1 := hrd' _ _ g1
  have b2 := hrd' _ _ g2
  have b3 := hrd' _ _ g3
  obtain ⟨f, rfl⟩ := live3 f0 f1 f5
  clear f0 f1 f5
  refine k_seq ?_
  refine k_sg ?_
  refine s_run rfl rfl (rmi rfl) ?_
  refine s_run rfl rfl (rms rfl) ?_
  refine s_run rfl rfl (r_len rfl Try.underlying58) ?_
  refine s_run rfl rfl (r_lssT rfl rfl (by omega)) ?_
  refine k_nc ?_
  refine k_t rfl ?_
  refine k_skip ?_
  refine c_norm ?_
  refine k_seq ?_
  refine k_b ?_
  refine k_seq ?_
  refine k_q mixed (by kernel_rfl) H ?_
  refine q_run rfl rfl (fun _ H => r_mv (v := .slice _ _ _) rfl) ?_
  refine q_run rfl rfl (fun _ H => r_mv (v := .int _ _) rfl) ?_
  refine q_run rfl rfl (fun _ H => r_ix (i := i) rfl rfl (by omega) (by omega) Try.underlying58 sz69) ?_
  refine q_run rfl rfl (fun _ H => r_fa rfl fo69_0) ?_
  refine q_run rfl rfl (fun _ H => r_lr H rfl a1 (by simp) ag3) ?_
  refine q_run rfl rfl (fun _ H => r_mv (v := .slice _ _ _) rfl) ?_
  refine q_run rfl rfl (fun _ H => r_mv (v := .int _ _) rfl) ?_
  refine q_run rfl rfl (fun _ H => r_ix (i := i) rfl rfl (by omega) (by omega) Try.underlying55 sz96) ?_
  refine q_run rfl rfl (fun _ H => r_fa rfl fo96_0) ?_
  refine q_run rfl rfl (fun _ H => r_lr H rfl b1 (by simp) ag3) ?_
  refine q_run rfl rfl (fun _ H => r_neqF rfl rfl (by omega)) ?_
  refine q_run rfl rfl (fun _ H => r_mv (v := .bool _) rfl) ?_
  refine q_run rfl (g_on 28 (by kernel_rfl) rfl) (fun _ H => r_mv (v := .slice _ _ _) rfl) ?_
  refine q_run rfl (g_on 28 (by kernel_rfl) rfl) (fun _ H => r_mv (v := .int _ _) rfl) ?_
  refine q_run rfl (g_on 28 (by kernel_rfl) rfl) (fun _ H => r_ix (i := i) rfl rfl (by omega) (by omega) Try.underlying58 sz69) ?_
  refine q_run rfl (g_on 28 (by kernel_rfl) rfl) (fun _ H => r_fa rfl fo69_1) ?_
  refine q_run rfl (g_on 28 (by kernel_rfl) rfl) (fun _ H => r_lr H rfl a2 (by simp) ag3) ?_
  refine q_run rfl (g_on 28 (by kernel_rfl) rfl) (fun _ H => r_mv (v := .slice _ _ _) rfl) ?_
  refine q_run rfl (g_on 28 (by kernel_rfl) rfl) (fun _ H => r_mv (v := .int _ _) rfl) ?_
  refine q_run rfl (g_on 28 (by kernel_rfl) rfl) (fun _ H => r_ix (i := i) rfl rfl (by omega) (by omega) Try.underlying55 sz96) ?_
  refine q_run rfl (g_on 28 (by kernel_rfl) rfl) (fun _ H => r_fa rfl fo96_1) ?_
  refine q_run rfl (g_on 28 (by kernel_rfl) rfl) (fun _ H => r_lr H rfl b2 (by simp) ag3) ?_
  refine q_run rfl (g_on 28 (by kernel_rfl) rfl) (fun _ H => r_neqF rfl rfl (by omega)) ?_
  refine q_run rfl rfl (fun _ H => r_pkF (v := .bool _) rfl rfl) ?_
  refine q_run rfl rfl (fun _ H => r_mv (v := .bool _) rfl) ?_
  refine q_run rfl (g_on 41 (by kernel_rfl) rfl) (fun _ H => r_mv (v := .slice _ _ _) rfl) ?_
  refine q_run rfl (g_on 41 (by kernel_rfl) rfl) (fun _ H => r_mv (v := .int _ _) rfl) ?_
  refine q_run rfl (g_on 41 (by kernel_rfl) rfl) (fun _ H => r_ix (i := i) rfl rfl (by omega) (by omega) Try.underlying58 sz69) ?_
  refine q_run rfl (g_on 41 (by kernel_rfl) rfl) (fun _ H => r_fa rfl fo69_2) ?_
  refine q_run rfl (g_on 41 (by kernel_rfl) rfl) (fun _ H => r_lr H rfl a3 (by simp) ag3) ?_
  refine q_run rfl (g_on 41 (by kernel_rfl) rfl) (fun _ H => r_mv (v := .slice _ _ _) rfl) ?_
  refine q_run rfl (g_on 41 (by kernel_rfl) rfl) (fun _ H => r_mv (v := .int _ _) rfl) ?_
  refine q_run rfl (g_on 41 (by kernel_rfl) rfl) (fun _ H => r_ix (i := i) rfl rfl (by omega) (by omega) Try.underlying55 sz96) ?_
  refine q_run rfl (g_on 41 (by kernel_rfl) rfl) (fun _ H => r_fa rfl fo96_2) ?_
  refine q_run rfl (g_on 41 (by kernel_rfl) rfl) (fun _ H => r_lr H rfl b3 (by simp) ag3) ?_
  refine q_run rfl (g_on 41 (by kernel_rfl) rfl) (fun _ H => r_neqF rfl rfl (by omega)) ?_
  refine q_run rfl rfl (fun _ H => r_pkF (v := .bool _) rfl rfl) ?_
  refine q_nil ?_
  intro _ H'; clear H; have H := H'; clear H'
  refine c_norm ?_
  refine k_f rfl ?_
  refine k_skip ?_
  refine b_norm ?_
  refine c_norm ?_
  refine k_rg ?_
  refine s_run rfl rfl (rmi rfl) ?_
  refine s_run rfl rfl (r_add rfl rfl (wI (by omega))) ?_
  refine s_run rfl rfl (rai rfl) ?_
  refine k_nil ?_
  refine c_round ?_
  refine ⟨_, _, ?_, rfl, i + 1, by omega, rfl, rfl, rfl, rfl, H⟩
  omega
 ·obtain rfl : i = n := by omega
  obtain ⟨f, rfl⟩ := live3 f0 f1 f5
  clear f0 f1 f5
  refine k_seq ?_
  refine k_sg ?_
  refine s_run rfl rfl (rmi rfl) ?_
  refine s_run rfl rfl (rms rfl) ?_
  refine s_run rfl rfl (r_len rfl Try.underlying58) ?_
  refine s_run rfl rfl (r_lssF rfl rfl (by omega)) ?_
  refine k_nc ?_
  refine k_f rfl ?_
  refine k_exit ?_
  refine c_exit ?_
  refine c_exit ?_
  refine b_hit ?_
  refine c_norm ?_
  refine k_sg ?_
  refine s_run rfl rfl (rab rfl) ?_
  refine k_nc ?_
  refine k_ret ?_
  refine fin1r (v := .bool _) rfl rfl ?_
  exact ⟨rfl, H.only⟩
end Go.Proofs.Ytpbimgopiammaaa
end
