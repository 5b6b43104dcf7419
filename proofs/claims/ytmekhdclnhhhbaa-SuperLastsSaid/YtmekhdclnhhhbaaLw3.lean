/- The page's example; few; calls at both; NvmPlays. -/
import Derived.Test.YtmekhdclnhhhbaaLw2
namespace Go.Proofs.Ytmekhdclnhhhbaa
open Go.RowKit
set_option linter.unusedSimpArgs false
set_option linter.unusedVariables false
theorem load8 : Nv.Ok (Nv.load (List.replicate (8 * 1) 0) 1) 1 := ⟨rfl, rfl, rfl, rfl, rfl⟩
theorem lAwake (w : World) : Calls Try.prog 20 [].toArray w fun e w' => e = .returned (.bool true) ∧ Only [] w w' := by
  have H := Heap.nil w
  have hN := nNew 8 w (by omega)
  rw [show ((8 : Int).toNat + 7) / 8 = 1 from rfl] at hN
  have o1 := load8.store 0 5
  have o2 := o1.persist 0 1
  have v1 : Nv.get (Nv.load (Nv.crashTo (Nv.store (Nv.load (List.replicate (8 * 1) 0) 1) 1 0 5).1 (Nv.dirtyTo (Nv.store (Nv.load (List.replicate (8 * 1) 0) 1) 1 0 5).1.dirty 1) [] (Nv.dirtyTo (Nv.store (Nv.load (List.replicate (8 * 1) 0) 1) 1 0 5).1.dirty 1).length) 1).cache 0 = 0 := by decide
  have v2 : Nv.get (Nv.load (Nv.crashTo (Nv.persist (Nv.store (Nv.load (List.replicate (8 * 1) 0) 1) 1 0 5).1 1 0 1).1 (Nv.dirtyTo (Nv.persist (Nv.store (Nv.load (List.replicate (8 * 1) 0) 1) 1 0 5).1 1 0 1).1.dirty 1) [] (Nv.dirtyTo (Nv.persist (Nv.store (Nv.load (List.replicate (8 * 1) 0) 1) 1 0 5).1 1 0 1).1.dirty 1).length) 1).cache 0 = 5 := by decide
  have hSt := fun g => nStore g (Nv.load (List.replicate (8 * 1) 0) 1) 1 0 5
  have hP := fun g => nPersist g (Nv.store (Nv.load (List.replicate (8 * 1) 0) 1) 1 0 5).1 1 0 1
  have hC1 := fun g => nCrash g (Nv.store (Nv.load (List.replicate (8 * 1) 0) 1) 1 0 5).1 1 none 0 0 []
  have hC2 := fun g => nCrash g (Nv.persist (Nv.store (Nv.load (List.replicate (8 * 1) 0) 1) 1 0 5).1 1 0 1).1 1 none 0 0 []
  have hG1 := fun g => nGet g (Nv.load (Nv.crashTo (Nv.store (Nv.load (List.replicate (8 * 1) 0) 1) 1 0 5).1 (Nv.dirtyTo (Nv.store (Nv.load (List.replicate (8 * 1) 0) 1) 1 0 5).1.dirty 1) [] (Nv.dirtyTo (Nv.store (Nv.load (List.replicate (8 * 1) 0) 1) 1 0 5).1.dirty 1).length) 1) 0
  have hG2 := fun g => nGet g (Nv.load (Nv.crashTo (Nv.persist (Nv.store (Nv.load (List.replicate (8 * 1) 0) 1) 1 0 5).1 1 0 1).1 (Nv.dirtyTo (Nv.persist (Nv.store (Nv.load (List.replicate (8 * 1) 0) 1) 1 0 5).1 1 0 1).1.dirty 1) [] (Nv.dirtyTo (Nv.persist (Nv.store (Nv.load (List.replicate (8 * 1) 0) 1) 1 0 5).1 1 0 1).1.dirty 1).length) 1) 0
  rw [v1] at hG1
  rw [v2] at hG2
  clear v1 v2
  generalize hd0 : Nv.load (List.replicate (8 * 1) 0) 1 = d0 at *
  generalize hd1 : (Nv.store d0 1 0 5).1 = d1 at *
  generalize hd2 : (Nv.persist d1 1 0 1).1 = d2 at *
  generalize Nv.load (Nv.crashTo d1 (Nv.dirtyTo d1.dirty 1) [] (Nv.dirtyTo d1.dirty 1).length) 1 = e1 at *
  generalize Nv.load (Nv.crashTo d2 (Nv.dirtyTo d2.dirty 1) [] (Nv.dirtyTo d2.dirty 1).length) 1 = e2 at *
  generalize (Nv.store d0 1 0 5).2 = x1 at *
  generalize (Nv.persist d1 1 0 1).2 = x2 at *
  have hsz : ∀ W : World, Sees (Value.int .u8) W [] none [] := fun W => Sees.nil
  refine k_in (N := 37) Try.func20 rfl rfl rfl ?_
  refine k_seq ?_
  refine k_rg ?_
  refine s_run rfl rfl (r_as (v := .bool _) rfl) ?_
  refine k_nil ?_
  refine c_norm ?_
  refine k_seq ?_
  refine k_rg ?_
  refine s_call rfl (hN) (ca21 rfl) ?_
  rintro e W1 ⟨g, rfl, hg, H'⟩
  refine ⟨_, rfl, ?_⟩
  have H := H.more (A := [grp _]) (grp_heap H'); clear H'; simp only [List.cons_append, List.nil_append] at H
  refine s_run rfl rfl (r_as (v := .pointer _) rfl) ?_
  refine k_nil ?_
  refine c_norm ?_
  refine k_seq ?_
  refine k_seq ?_
  refine k_rg ?_
  refine s_run rfl rfl (r_mv (v := .pointer _) rfl) ?_
  refine s_run rfl rfl (r_ptnilF rfl rfl Try.underlying26) ?_
  refine k_nil ?_
  refine c_norm ?_
  refine k_f rfl ?_
  refine k_skip ?_
  refine c_norm ?_
  refine k_seq ?_
  refine k_rg ?_
  refine s_run rfl rfl (r_mv (v := .pointer _) rfl) ?_
  refine s_call rfl (hSt g _ (H.grp_ents 0 rfl) (by rw [← hd0]; exact load8) (by omega)) (ca30 rfl) ?_
  rintro e W1 ⟨rfl, H'⟩
  refine ⟨_, rfl, ?_⟩
  have H1 := H.grp_at 0 rfl H'; clear H H'; have H := H1; clear H1; simp only [List.set_cons_zero] at H
  refine k_nil ?_
  refine c_norm ?_
  refine k_seq ?_
  refine k_rg ?_
  refine s_run rfl rfl (r_mv (v := .pointer _) rfl) ?_
  refine s_call rfl (hC1 g _ (H.grp_ents 0 rfl) o1 hg (by omega) (hsz _) rfl (by simp) (by omega)) (ca37 rfl) ?_
  rintro e W1 ⟨g1, rfl, hg1, H'⟩
  refine ⟨_, rfl, ?_⟩
  have H := H.more (A := [grp _]) (grp_heap H'); clear H'; simp only [List.cons_append, List.nil_append] at H
  refine s_run rfl rfl (r_as (v := .pointer _) rfl) ?_
  refine k_nil ?_
  refine c_norm ?_
  refine k_seq ?_
  refine k_rg ?_
  refine s_run rfl rfl (r_mv (v := .pointer _) rfl) ?_
  refine s_call rfl (hP g _ (H.grp_ents 1 rfl) o1 hg (by omega)) (ca38 rfl) ?_
  rintro e W1 ⟨rfl, H'⟩
  refine ⟨_, rfl, ?_⟩
  have H1 := H.grp_at 1 rfl H'; clear H H'; have H := H1; clear H1; simp only [List.set_cons_zero, List.set_cons_succ] at H
  refine k_nil ?_
  refine c_norm ?_
  refine k_seq ?_
  refine k_rg ?_
  refine s_run rfl rfl (r_mv (v := .pointer _) rfl) ?_
  refine s_call rfl (hC2 g _ (H.grp_ents 1 rfl) o2 hg (by omega) (hsz _) rfl (by simp) (by omega)) (ca37 rfl) ?_
  rintro e W1 ⟨g2, rfl, hg2, H'⟩
  refine ⟨_, rfl, ?_⟩
  have H := H.more (A := [grp _]) (grp_heap H'); clear H'; simp only [List.cons_append, List.nil_append] at H
  refine s_run rfl rfl (r_as (v := .pointer _) rfl) ?_
  refine k_nil ?_
  refine c_norm ?_
  refine k_seq ?_
  refine k_rg ?_
  refine s_run rfl rfl (r_mv (v := .pointer _) rfl) ?_
  refine s_run rfl rfl (r_ptnnilT rfl rfl Try.underlying26) ?_
  refine s_run rfl rfl (r_mv (v := .bool _) rfl) ?_
  refine s_run rfl (g_on 17 (by kernel_rfl) rfl) (r_mv (v := .pointer _) rfl) ?_
  refine s_run rfl (g_on 17 (by kernel_rfl) rfl) (r_ptnnilT rfl rfl Try.underlying26) ?_
  refine s_run rfl rfl (r_pkT (v := .bool _) rfl rfl) ?_
  refine s_run rfl rfl (r_mv (v := .bool _) rfl) ?_
  refine s_run rfl (g_on 21 (by kernel_rfl) rfl) (r_mv (v := .pointer _) rfl) ?_
  refine s_call (g_on 21 (by kernel_rfl) rfl) (hG1 g1 _ (H.grp_ents 1 rfl)) (ca25 rfl) ?_
  rintro e W1 ⟨rfl, H'⟩
  refine ⟨_, rfl, ?_⟩
  have H := H.same H'; clear H'
  refine s_run rfl (g_on 21 (by kernel_rfl) rfl) (r_eqlT rfl rfl (by omega)) ?_
  refine s_run rfl rfl (r_pkT (v := .bool _) rfl rfl) ?_
  refine s_run rfl rfl (r_mv (v := .bool _) rfl) ?_
  refine s_run rfl (g_on 26 (by kernel_rfl) rfl) (r_mv (v := .pointer _) rfl) ?_
  refine s_call (g_on 26 (by kernel_rfl) rfl) (hG2 g2 _ (H.grp_ents 0 rfl)) (ca25 rfl) ?_
  rintro e W1 ⟨rfl, H'⟩
  refine ⟨_, rfl, ?_⟩
  have H := H.same H'; clear H'
  refine s_run rfl (g_on 26 (by kernel_rfl) rfl) (r_eqlT rfl rfl (by omega)) ?_
  refine s_run rfl rfl (r_pkT (v := .bool _) rfl rfl) ?_
  refine s_run rfl rfl (r_mv (v := .bool _) rfl) ?_
  refine s_run rfl rfl (r_pkT (v := .bool _) rfl rfl) ?_
  refine s_run rfl rfl (r_mv (v := .bool _) rfl) ?_
  refine s_run rfl rfl (r_pkT (v := .bool _) rfl rfl) ?_
  refine s_run rfl rfl (r_mv (v := .bool _) rfl) ?_
  refine s_run rfl rfl (r_pkT (v := .bool _) rfl rfl) ?_
  refine s_run rfl rfl (r_as (v := .bool _) rfl) ?_
  refine k_nil ?_
  refine c_norm ?_
  refine k_ret ?_
  refine fin1r (v := .bool _) rfl rfl ?_
  exact ⟨rfl, H.only⟩
/-- a call, as the script holds it -/
structure OpS where
  k : Int
  a : Int
  n : Int
  v : Int
  A : Option Addr
  nc : Nat
  cc : Nat
  cs : List Int
def OpS.cells (o : OpS) : List Value := [.int .i64 o.k, .int .i64 o.a, .int .i64 o.n, .int .u64 o.v, .slice o.A o.nc o.cc]
structure OpOk (w : World) (o : OpS) : Prop where
  see : Sees (Value.int .u8) w [] o.A o.cs
  len : o.cs.length = o.nc
  bd : ∀ z ∈ o.cs, 0 ≤ z
  n1 : -9223372036854775808 ≤ o.n ∧ o.n ≤ 9223372036854775807
  ncb : o.nc ≤ 9223372036854775807
def Script (w : World) (A : Option Addr) (ops : List OpS) : Prop := (ops.length ≠ 0 → ∃ b o, A = some ⟨b, o, none⟩ ∧ ∀ i op, ops[i]? = some op → Reads (fun v : Value => v) w b (o + i * 5) op.cells) ∧ ∀ op ∈ ops, OpOk w op
def fewB (n q : Nat) (ops : List OpS) : Bool := decide (n ≤ 200 ∧ q ≤ 60 ∧ ∀ op ∈ ops, op.nc ≤ 100)
theorem lFew (A : Option Addr) (n c : Nat) (B : Option Addr) (q cq : Nat) (ops : List OpS) (w : World) (hs : Script w B ops) (hl : ops.length = q) (hn : n ≤ 9223372036854775807) (hq : q ≤ 9223372036854775807) :
    Calls Try.prog 31 [.slice A n c, .slice B q cq].toArray w fun e w' => e = .returned (.bool (fewB n q ops)) ∧ Only [] w w' := by
  have H := Heap.nil w
  by_cases h1 : 200 < n
  · refine k_in (N := 27) Try.func31 rfl rfl rfl ?_
    refine k_seq ?_
    refine k_rg ?_
    refine s_run rfl rfl (r_as (v := .bool _) rfl) ?_
    refine k_nil ?_
    refine c_norm ?_
    refine k_seq ?_
    refine k_seq ?_
    refine k_rg ?_
    refine s_run rfl rfl (r_mv (v := .slice _ _ _) rfl) ?_
    refine s_run rfl rfl (r_len rfl Try.underlying25) ?_
    refine s_run rfl rfl (r_gtrT rfl rfl (by omega)) ?_
    refine s_run rfl rfl (r_mv (v := .bool _) rfl) ?_
    refine s_off rfl (g_off 9 (by kernel_rfl) rfl rfl) ?_
    refine s_off rfl (g_off 9 (by kernel_rfl) rfl rfl) ?_
    refine s_off rfl (g_off 9 (by kernel_rfl) rfl rfl) ?_
    refine s_run rfl rfl (r_pkT (v := .bool _) rfl rfl) ?_
    refine k_nil ?_
    refine c_norm ?_
    refine k_t rfl ?_
    refine k_seq ?_
    refine k_rg ?_
    refine s_run rfl rfl (r_as (v := .bool _) rfl) ?_
    refine k_nil ?_
    refine c_norm ?_
    refine k_ret ?_
    refine c_ret ?_
    refine fin1r (v := .bool _) rfl rfl ?_
    exact ⟨by rw [fewB, decide_eq_false (by omega)], H.only⟩
  by_cases h2 : 60 < q
  · refine k_in (N := 27) Try.func31 rfl rfl rfl ?_
    refine k_seq ?_
    refine k_rg ?_
    refine s_run rfl rfl (r_as (v := .bool _) rfl) ?_
    refine k_nil ?_
    refine c_norm ?_
    refine k_seq ?_
    refine k_seq ?_
    refine k_rg ?_
    refine s_run rfl rfl (r_mv (v := .slice _ _ _) rfl) ?_
    refine s_run rfl rfl (r_len rfl Try.underlying25) ?_
    refine s_run rfl rfl (r_gtrF rfl rfl (by omega)) ?_
    refine s_run rfl rfl (r_mv (v := .bool _) rfl) ?_
    refine s_run rfl (g_on 9 (by kernel_rfl) rfl) (r_mv (v := .slice _ _ _) rfl) ?_
    refine s_run rfl (g_on 9 (by kernel_rfl) rfl) (r_len rfl Try.underlying46) ?_
    refine s_run rfl (g_on 9 (by kernel_rfl) rfl) (r_gtrT rfl rfl (by omega)) ?_
    refine s_run rfl rfl (r_pkF (v := .bool _) rfl rfl) ?_
    refine k_nil ?_
    refine c_norm ?_
    refine k_t rfl ?_
    refine k_seq ?_
    refine k_rg ?_
    refine s_run rfl rfl (r_as (v := .bool _) rfl) ?_
    refine k_nil ?_
    refine c_norm ?_
    refine k_ret ?_
    refine c_ret ?_
    refine fin1r (v := .bool _) rfl rfl ?_
    exact ⟨by rw [fewB, decide_eq_false (by omega)], H.only⟩
  refine k_in (N := 27) Try.func31 rfl rfl rfl ?_
  refine k_seq ?_
  refine k_rg ?_
  refine s_run rfl rfl (r_as (v := .bool _) rfl) ?_
  refine k_nil ?_
  refine c_norm ?_
  refine k_seq ?_
  refine k_seq ?_
  refine k_rg ?_
  refine s_run rfl rfl (r_mv (v := .slice _ _ _) rfl) ?_
  refine s_run rfl rfl (r_len rfl Try.underlying25) ?_
  refine s_run rfl rfl (r_gtrF rfl rfl (by omega)) ?_
  refine s_run rfl rfl (r_mv (v := .bool _) rfl) ?_
  refine s_run rfl (g_on 9 (by kernel_rfl) rfl) (r_mv (v := .slice _ _ _) rfl) ?_
  refine s_run rfl (g_on 9 (by kernel_rfl) rfl) (r_len rfl Try.underlying46) ?_
  refine s_run rfl (g_on 9 (by kernel_rfl) rfl) (r_gtrF rfl rfl (by omega)) ?_
  refine s_run rfl rfl (r_pkF (v := .bool _) rfl rfl) ?_
  refine k_nil ?_
  refine c_norm ?_
  refine k_f rfl ?_
  refine k_skip ?_
  refine c_norm ?_
  refine k_seq ?_
  refine k_seq ?_
  refine k_rg ?_
  refine s_run rfl rfl (r_as (v := .int _ _) rfl) ?_
  refine k_nil ?_
  refine c_norm ?_
  refine k_b ?_
  refine k_loop (fun z f W => ∃ k : Nat, k ≤ q ∧ z = q - k ∧ (∀ i op, i < k → ops[i]? = some op → op.nc ≤ 100) ∧ f 1 = .slice B q cq ∧ f 5 = .int .i64 k ∧ Heap w [] [] W) q ⟨0, by omega, rfl, by omega, rfl, rfl, H⟩ ?_
  clear H
  rintro z f W ⟨k, hk, rfl, hall, f1, f5, H⟩
  by_cases hlt : k < q
  · obtain ⟨b, o, rfl, hr⟩ := hs.1 (by omega)
    obtain ⟨f, rfl⟩ := live2 f1 f5
    clear f1 f5
    obtain ⟨op, hop⟩ : ∃ op, ops[k]? = some op := ⟨_, List.getElem?_eq_getElem (by omega)⟩
    have hcell := hr k op hop 4 _ rfl
    have hnc := (hs.2 op (List.mem_of_getElem? hop)).ncb
    by_cases h3 : 100 < op.nc
    · refine k_seq ?_
      refine k_seq ?_
      refine k_rg ?_
      refine s_run rfl rfl (r_mv (v := .int _ _) rfl) ?_
      refine s_run rfl rfl (r_mv (v := .slice _ _ _) rfl) ?_
      refine s_run rfl rfl (r_len rfl Try.underlying46) ?_
      refine s_run rfl rfl (r_lssT rfl rfl (by omega)) ?_
      refine k_nil ?_
      refine c_norm ?_
      refine k_t rfl ?_
      refine k_skip ?_
      refine c_norm ?_
      refine k_seq ?_
      refine k_b ?_
      refine k_seq ?_
      refine k_rg ?_
      refine s_run rfl rfl (r_mv (v := .slice _ _ _) rfl) ?_
      refine s_run rfl rfl (r_mv (v := .int _ _) rfl) ?_
      refine s_run rfl rfl (r_ix (i := k) rfl rfl (by omega) (by omega) Try.underlying46 sz51) ?_
      refine s_run rfl rfl (r_fa rfl fo51_4) ?_
      refine s_run rfl rfl (r_lr H rfl hcell (by simp) ag49) ?_
      refine s_run rfl rfl (r_len rfl Try.underlying49) ?_
      refine s_run rfl rfl (r_gtrT rfl rfl (by omega)) ?_
      refine k_nil ?_
      refine c_norm ?_
      refine k_t rfl ?_
      refine k_seq ?_
      refine k_rg ?_
      refine s_run rfl rfl (r_as (v := .bool _) rfl) ?_
      refine k_nil ?_
      refine c_norm ?_
      refine k_ret ?_
      refine b_ret ?_
      refine c_ret ?_
      refine c_ret ?_
      refine b_ret ?_
      refine c_ret ?_
      refine fin1r (v := .bool _) rfl rfl ?_
      refine ⟨?_, H.only⟩
      rw [fewB, decide_eq_false]
      intro h
      have := h.2.2 op (List.mem_of_getElem? hop)
      omega
    · refine k_seq ?_
      refine k_seq ?_
      refine k_rg ?_
      refine s_run rfl rfl (r_mv (v := .int _ _) rfl) ?_
      refine s_run rfl rfl (r_mv (v := .slice _ _ _) rfl) ?_
      refine s_run rfl rfl (r_len rfl Try.underlying46) ?_
      refine s_run rfl rfl (r_lssT rfl rfl (by omega)) ?_
      refine k_nil ?_
      refine c_norm ?_
      refine k_t rfl ?_
      refine k_skip ?_
      refine c_norm ?_
      refine k_seq ?_
      refine k_b ?_
      refine k_seq ?_
      refine k_rg ?_
      refine s_run rfl rfl (r_mv (v := .slice _ _ _) rfl) ?_
      refine s_run rfl rfl (r_mv (v := .int _ _) rfl) ?_
      refine s_run rfl rfl (r_ix (i := k) rfl rfl (by omega) (by omega) Try.underlying46 sz51) ?_
      refine s_run rfl rfl (r_fa rfl fo51_4) ?_
      refine s_run rfl rfl (r_lr H rfl hcell (by simp) ag49) ?_
      refine s_run rfl rfl (r_len rfl Try.underlying49) ?_
      refine s_run rfl rfl (r_gtrF rfl rfl (by omega)) ?_
      refine k_nil ?_
      refine c_norm ?_
      refine k_f rfl ?_
      refine k_skip ?_
      refine b_norm ?_
      refine c_norm ?_
      refine k_rg ?_
      refine s_run rfl rfl (r_mv (v := .int _ _) rfl) ?_
      refine s_run rfl rfl (r_add rfl rfl (wI (by omega))) ?_
      refine s_run rfl rfl (r_as (v := .int _ _) rfl) ?_
      refine k_nil ?_
      refine c_round ?_
      refine ⟨_, _, ?_, rfl, k + 1, by omega, rfl, fun i op2 hi h => ?_, rfl, rfl, H⟩
      · omega
      · by_cases hik : i = k
        · subst hik; rw [hop] at h; injection h with h; subst h; omega
        · exact hall i op2 (by omega) h
  · obtain rfl : k = q := by omega
    obtain ⟨f, rfl⟩ := live2 f1 f5
    clear f1 f5
    refine k_seq ?_
    refine k_seq ?_
    refine k_rg ?_
    refine s_run rfl rfl (r_mv (v := .int _ _) rfl) ?_
    refine s_run rfl rfl (r_mv (v := .slice _ _ _) rfl) ?_
    refine s_run rfl rfl (r_len rfl Try.underlying46) ?_
    refine s_run rfl rfl (r_lssF rfl rfl (by omega)) ?_
    refine k_nil ?_
    refine c_norm ?_
    refine k_f rfl ?_
    refine k_exit ?_
    refine c_exit ?_
    refine c_exit ?_
    refine b_hit ?_
    refine c_norm ?_
    refine k_seq ?_
    refine k_rg ?_
    refine s_run rfl rfl (r_as (v := .bool _) rfl) ?_
    refine k_nil ?_
    refine c_norm ?_
    refine k_ret ?_
    refine fin1r (v := .bool _) rfl rfl ?_
    refine ⟨?_, H.only⟩
    rw [fewB, decide_eq_true]
    refine ⟨by omega, by omega, fun op hop => ?_⟩
    obtain ⟨i, hi, rfl⟩ := List.mem_iff_getElem.1 hop
    exact hall i _ (by omega) (List.getElem?_eq_getElem hi)
end Go.Proofs.Ytmekhdclnhhhbaa
