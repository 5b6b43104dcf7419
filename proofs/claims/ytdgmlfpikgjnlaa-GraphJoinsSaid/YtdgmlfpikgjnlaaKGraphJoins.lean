/-
  GraphJoins: for every input the Go function answers true, and its arguments read afterwards as they read before. No condition.
-/
import Derived.Test.YtdgmlfpikgjnlaaKGraphJoinsc
set_option linter.unusedSimpArgs false
set_option linter.unusedVariables false
section
namespace Go.Proofs.Ytdgmlfpikgjnlaa
open Go.RowKit
set_option maxRecDepth 100000
set_option maxHeartbeats 4000000
theorem jn_ptrA {X Y : Gr.Nodes} (x : Int) (h0 : 0 ≤ x) (h : x < (X.length : Int)) : Gr.ptr (X ++ Y) x = Gr.ptr X x := by
 obtain ⟨i, rfl⟩ := Int.eq_ofNat_of_zero_le h0
 rw [Gr.ptr_at, Gr.ptr_at, List.getD, List.getD, List.getElem?_append_left (by omega)]
theorem jn_ptrB {X : Gr.Nodes} {ns : List NodeS} (k : Nat) (hk : X.length = k) (x : Int) (h0 : 0 ≤ x) : Gr.ptr (X ++ ns.map (shP k)) (x + k) = (Gr.ptr (ns.map fun x => (x.ps, x.ds)) x).map (Gr.sh k) := by
 obtain ⟨i, rfl⟩ := Int.eq_ofNat_of_zero_le h0
 rw [show (i : Int) + (k : Int) = ((i + k : Nat) : Int) by omega, Gr.ptr_at, Gr.ptr_at, List.getD, List.getD, List.getElem?_append_right (by omega), show i + k - X.length = i by omega, List.getElem?_map, List.getElem?_map]
 cases ns[i]? <;> rfl
theorem sh_ok {k m : Nat} {p : Int} (h : okP m p) : okP (k + m) (Gr.sh k p) := by
 unfold okP at *; unfold Gr.sh; split <;> omega
theorem join_right {a b g : GrS} (ra : rightB a = true) (rb : rightB b = true) (ha : ∀ x ∈ a.ns, x.ps.length = x.n ∧ x.ds.length = x.m) (hb : ∀ x ∈ b.ns, x.ps.length = x.n ∧ x.ds.length = x.m) (hg : ∀ x ∈ g.ns, x.ps.length = x.n ∧ x.ds.length = x.m) (hr : g.rs = a.rs ++ b.rs.map (Gr.sh a.m)) (hn : g.nodes = a.nodes ++ b.ns.map (shP a.m)) (hm : g.m = a.m + b.m) : rightB g = true := by
 have up : ∀ {p : Int}, okP a.m p → okP g.m p := fun h => by unfold okP at *; omega
 have us : ∀ {p : Int}, okP b.m p → okP g.m (Gr.sh a.m p) := fun h => by rw [hm]; exact sh_ok h
 refine decide_eq_true ⟨fun r h => ?_, fun x hx => ?_⟩
 ·rw [hr] at h
  rcases List.mem_append.1 h with h | h
  ·exact up (right_roots ra r h)
  ·obtain ⟨z, hz, rfl⟩ := List.mem_map.1 h
   exact us (right_roots rb z hz)
 ·have h1 : (x.ps, x.ds) ∈ a.nodes ++ b.ns.map (shP a.m) := by rw [← hn]; exact List.mem_map.2 ⟨x, hx, rfl⟩
  obtain ⟨l3, l4⟩ := hg x hx
  rcases List.mem_append.1 h1 with h1 | h1
  ·unfold GrS.nodes at h1
   obtain ⟨y, hy, he⟩ := List.mem_map.1 h1
   injection he with he1 he2
   obtain ⟨l1, l2⟩ := ha y hy
   obtain ⟨k1, k2, k3⟩ := (of_decide_eq_true ra).2 y hy
   refine ⟨?_, ?_, fun p hp => ?_⟩
   ·rw [← l3, ← he1, l1]; exact k1
   ·rw [← l4, ← he2, l2]; exact k2
   ·rw [← he1] at hp; exact up (k3 p hp)
  ·obtain ⟨y, hy, he⟩ := List.mem_map.1 h1
   unfold shP at he
   injection he with he1 he2
   obtain ⟨l1, l2⟩ := hb y hy
   obtain ⟨k1, k2, k3⟩ := (of_decide_eq_true rb).2 y hy
   refine ⟨?_, ?_, fun p hp => ?_⟩
   ·rw [← l3, ← he1, List.length_map, l1]; exact k1
   ·rw [← l4, ← he2, l2]; exact k2
   ·rw [← he1] at hp
    obtain ⟨z, hz, rfl⟩ := List.mem_map.1 hp
    exact us (k3 z hz)
theorem walk_GraphJoins (a b : GrS) (w : World) (ha : GrOk w [] a) (hb : GrOk w [] b) :
  Calls Try.prog 4 [.agg a.cells.toArray, .agg b.cells.toArray].toArray w fun e w' => e = .returned (.bool true) ∧ Below w.heap.size w w' := by
 have H := Heap.nil w
 have hFa := fun W (h : Only [] w W) => lFew a W (ha.later h (by simp))
 have hFb := fun W (h : Only [] w W) => lFew b W (hb.later h (by simp))
 cases fa : fewB a with
 | false =>
  rw [fa] at hFa
  unfold GrS.cells at hFa ⊢
  refine k_in (N := 128) Try.func4 rfl rfl rfl ?_
  refine k_sg ?_
  refine s_box H rfl rfl ?_
  intro p2 _ H'; clear H; have H := H'; clear H'
  refine s_box H rfl rfl ?_
  intro p3 _ H'; clear H; have H := H'; clear H'
  refine s_run rfl rfl (rab rfl) ?_
  refine k_nc ?_
  refine k_seq ?_
  refine k_sg ?_
  refine s_call rfl (awake38 _) (ca13 rfl) ?_
  rintro e W1 ⟨rfl, H'⟩
  refine ⟨_, rfl, ?_⟩
  have H := H.same H'; clear H'
  refine s_run rfl rfl (r_notT rfl) ?_
  refine k_nc ?_
  refine k_f rfl ?_
  refine k_skip ?_
  refine c_norm ?_
  refine k_seq ?_
  refine k_sg ?_
  refine s_run rfl rfl (r_la H 1 rfl rfl rfl ag25 sz25) ?_
  refine s_call rfl (hFa _ H.only) (ca14 rfl) ?_
  rintro e W1 ⟨rfl, H'⟩
  refine ⟨_, rfl, ?_⟩
  have H := H.same H'; clear H'
  refine s_run rfl rfl (r_notF rfl) ?_
  refine s_run rfl rfl (rmb rfl) ?_
  refine s_off rfl (g_off 16 (by kernel_rfl) rfl rfl) ?_
  refine s_off rfl (g_off 16 (by kernel_rfl) rfl rfl) ?_
  refine s_off rfl (g_off 16 (by kernel_rfl) rfl rfl) ?_
  refine s_run rfl rfl (r_pkT (v := .bool _) rfl rfl) ?_
  refine s_run rfl rfl (rmb rfl) ?_
  refine s_off rfl (g_off 21 (by kernel_rfl) rfl rfl) ?_
  refine s_off rfl (g_off 21 (by kernel_rfl) rfl rfl) ?_
  refine s_off rfl (g_off 21 (by kernel_rfl) rfl rfl) ?_
  refine s_off rfl (g_off 21 (by kernel_rfl) rfl rfl) ?_
  refine s_run rfl rfl (r_pkT (v := .bool _) rfl rfl) ?_
  refine s_run rfl rfl (rmb rfl) ?_
  refine s_off rfl (g_off 27 (by kernel_rfl) rfl rfl) ?_
  refine s_off rfl (g_off 27 (by kernel_rfl) rfl rfl) ?_
  refine s_off rfl (g_off 27 (by kernel_rfl) rfl rfl) ?_
  refine s_off rfl (g_off 27 (by kernel_rfl) rfl rfl) ?_
  refine s_run rfl rfl (r_pkT (v := .bool _) rfl rfl) ?_
  refine k_nc ?_
  refine k_t rfl ?_
  refine k_sg ?_
  refine s_run rfl rfl (rab rfl) ?_
  refine k_nc ?_
  refine k_ret ?_
  refine c_ret ?_
  refine fin1r (v := .bool _) rfl rfl ?_
  exact ⟨rfl, H.below⟩
 | true =>
  rw [fa] at hFa
  cases fb : fewB b with
  | false =>
   rw [fb] at hFb
   unfold GrS.cells at hFa hFb ⊢
   refine k_in (N := 128) Try.func4 rfl rfl rfl ?_
   refine k_sg ?_
   refine s_box H rfl rfl ?_
   intro p2 _ H'; clear H; have H := H'; clear H'
   refine s_box H rfl rfl ?_
   intro p3 _ H'; clear H; have H := H'; clear H'
   refine s_run rfl rfl (rab rfl) ?_
   refine k_nc ?_
   refine k_seq ?_
   refine k_sg ?_
   refine s_call rfl (awake38 _) (ca13 rfl) ?_
   rintro e W1 ⟨rfl, H'⟩
   refine ⟨_, rfl, ?_⟩
   have H := H.same H'; clear H'
   refine s_run rfl rfl (r_notT rfl) ?_
   refine k_nc ?_
   refine k_f rfl ?_
   refine k_skip ?_
   refine c_norm ?_
   refine k_seq ?_
   refine k_sg ?_
   refine s_run rfl rfl (r_la H 1 rfl rfl rfl ag25 sz25) ?_
   refine s_call rfl (hFa _ H.only) (ca14 rfl) ?_
   rintro e W1 ⟨rfl, H'⟩
   refine ⟨_, rfl, ?_⟩
   have H := H.same H'; clear H'
   refine s_run rfl rfl (r_notT rfl) ?_
   refine s_run rfl rfl (rmb rfl) ?_
   refine s_run rfl (g_on 16 (by kernel_rfl) rfl) (r_la H 0 rfl rfl rfl ag25 sz25) ?_
   refine s_call (g_on 16 (by kernel_rfl) rfl) (hFb _ H.only) (ca14 rfl) ?_
   rintro e W1 ⟨rfl, H'⟩
   refine ⟨_, rfl, ?_⟩
   have H := H.same H'; clear H'
   refine s_run rfl (g_on 16 (by kernel_rfl) rfl) (r_notF rfl) ?_
   refine s_run rfl rfl (r_pkF (v := .bool _) rfl rfl) ?_
   refine s_run rfl rfl (rmb rfl) ?_
   refine s_off rfl (g_off 21 (by kernel_rfl) rfl rfl) ?_
   refine s_off rfl (g_off 21 (by kernel_rfl) rfl rfl) ?_
   refine s_off rfl (g_off 21 (by kernel_rfl) rfl rfl) ?_
   refine s_off rfl (g_off 21 (by kernel_rfl) rfl rfl) ?_
   refine s_run rfl rfl (r_pkT (v := .bool _) rfl rfl) ?_
   refine s_run rfl rfl (rmb rfl) ?_
   refine s_off rfl (g_off 27 (by kernel_rfl) rfl rfl) ?_
   refine s_off rfl (g_off 27 (by kernel_rfl) rfl rfl) ?_
   refine s_off rfl (g_off 27 (by kernel_rfl) rfl rfl) ?_
   refine s_off rfl (g_off 27 (by kernel_rfl) rfl rfl) ?_
   refine s_run rfl rfl (r_pkT (v := .bool _) rfl rfl) ?_
   refine k_nc ?_
   refine k_t rfl ?_
   refine k_sg ?_
   refine s_run rfl rfl (rab rfl) ?_
   refine k_nc ?_
   refine k_ret ?_
   refine c_ret ?_
   refine fin1r (v := .bool _) rfl rfl ?_
   exact ⟨rfl, H.below⟩
  | true =>
   rw [fb] at hFb
   have sa := few_sm fa
   have sb := few_sm fb
   have hRa := fun W (h : Only [] w W) => lRefE a W (ha.later h (by simp)) sa
   have hRb := fun W (h : Only [] w W) => lRefE b W (hb.later h (by simp)) sb
   have hDa := fun NA cN W' L (h : Heap w [] (ownN 2 (.slice NA a.m cN) a.m ((flatN a.ns).map C1.v) 40 :: L) W') => dRight (refG a NA cN) W' (ref_ok (ha.later h.only (by simp)) h 0 rfl)
   have hDb := fun NA cN W' L (h : Heap w [] (ownN 2 (.slice NA b.m cN) b.m ((flatN b.ns).map C1.v) 40 :: L) W') => dRight (refG b NA cN) W' (ref_ok (hb.later h.only (by simp)) h 0 rfl)
   cases ra : rightB a with
   | false =>
    have hD2 := fun NA cN => (show rightB (refG a NA cN) = false from ra)
    simp only [hD2] at hDa
    unfold GrS.cells at *
    unfold refG at *
    refine k_in (N := 128) Try.func4 rfl rfl rfl ?_
    refine k_sg ?_
    refine s_box H rfl rfl ?_
    intro p2 _ H'; clear H; have H := H'; clear H'
    refine s_box H rfl rfl ?_
    intro p3 _ H'; clear H; have H := H'; clear H'
    refine s_run rfl rfl (rab rfl) ?_
    refine k_nc ?_
    refine k_seq ?_
    refine k_sg ?_
    refine s_call rfl (awake38 _) (ca13 rfl) ?_
    rintro e W1 ⟨rfl, H'⟩
    refine ⟨_, rfl, ?_⟩
    have H := H.same H'; clear H'
    refine s_run rfl rfl (r_notT rfl) ?_
    refine k_nc ?_
    refine k_f rfl ?_
    refine k_skip ?_
    refine c_norm ?_
    refine k_seq ?_
    refine k_sg ?_
    refine s_run rfl rfl (r_la H 1 rfl rfl rfl ag25 sz25) ?_
    refine s_call rfl (hFa _ H.only) (ca14 rfl) ?_
    rintro e W1 ⟨rfl, H'⟩
    refine ⟨_, rfl, ?_⟩
    have H := H.same H'; clear H'
    refine s_run rfl rfl (r_notT rfl) ?_
    refine s_run rfl rfl (rmb rfl) ?_
    refine s_run rfl (g_on 16 (by kernel_rfl) rfl) (r_la H 0 rfl rfl rfl ag25 sz25) ?_
    refine s_call (g_on 16 (by kernel_rfl) rfl) (hFb _ H.only) (ca14 rfl) ?_
    rintro e W1 ⟨rfl, H'⟩
    refine ⟨_, rfl, ?_⟩
    have H := H.same H'; clear H'
    refine s_run rfl (g_on 16 (by kernel_rfl) rfl) (r_notT rfl) ?_
    refine s_run rfl rfl (r_pkF (v := .bool _) rfl rfl) ?_
    refine s_run rfl rfl (rmb rfl) ?_
    refine s_run rfl (g_on 21 (by kernel_rfl) rfl) (r_la H 1 rfl rfl rfl ag25 sz25) ?_
    refine s_call (g_on 21 (by kernel_rfl) rfl) (hRa _ H.only) (ca15 rfl) ?_
    rintro e W1 ⟨NA, cN, rfl, H'⟩
    refine ⟨_, rfl, ?_⟩
    have H := H.more H'; clear H'
    refine s_call (g_on 21 (by kernel_rfl) rfl) (hDa NA cN _ _ H) (ca18 rfl) ?_
    rintro e W1 ⟨rfl, H'⟩
    refine ⟨_, rfl, ?_⟩
    have H := H.same H'; clear H'
    refine s_run rfl (g_on 21 (by kernel_rfl) rfl) (r_notF rfl) ?_
    refine s_run rfl rfl (r_pkF (v := .bool _) rfl rfl) ?_
    refine s_run rfl rfl (rmb rfl) ?_
    refine s_off rfl (g_off 27 (by kernel_rfl) rfl rfl) ?_
    refine s_off rfl (g_off 27 (by kernel_rfl) rfl rfl) ?_
    refine s_off rfl (g_off 27 (by kernel_rfl) rfl rfl) ?_
    refine s_off rfl (g_off 27 (by kernel_rfl) rfl rfl) ?_
    refine s_run rfl rfl (r_pkT (v := .bool _) rfl rfl) ?_
    refine k_nc ?_
    refine k_t rfl ?_
    refine k_sg ?_
    refine s_run rfl rfl (rab rfl) ?_
    refine k_nc ?_
    refine k_ret ?_
    refine c_ret ?_
    refine fin1r (v := .bool _) rfl rfl ?_
    exact ⟨rfl, H.below⟩
   | true =>
    have hD2 := fun NA cN => (show rightB (refG a NA cN) = true from ra)
    simp only [hD2] at hDa
    cases rb : rightB b with
    | false =>
     have hD2 := fun NA cN => (show rightB (refG b NA cN) = false from rb)
     simp only [hD2] at hDb
     unfold GrS.cells at *
     unfold refG at *
     refine k_in (N := 128) Try.func4 rfl rfl rfl ?_
     refine k_sg ?_
     refine s_box H rfl rfl ?_
     intro p2 _ H'; clear H; have H := H'; clear H'
     refine s_box H rfl rfl ?_
     intro p3 _ H'; clear H; have H := H'; clear H'
     refine s_run rfl rfl (rab rfl) ?_
     refine k_nc ?_
     refine k_seq ?_
     refine k_sg ?_
     refine s_call rfl (awake38 _) (ca13 rfl) ?_
     rintro e W1 ⟨rfl, H'⟩
     refine ⟨_, rfl, ?_⟩
     have H := H.same H'; clear H'
     refine s_run rfl rfl (r_notT rfl) ?_
     refine k_nc ?_
     refine k_f rfl ?_
     refine k_skip ?_
     refine c_norm ?_
     refine k_seq ?_
     refine k_sg ?_
     refine s_run rfl rfl (r_la H 1 rfl rfl rfl ag25 sz25) ?_
     refine s_call rfl (hFa _ H.only) (ca14 rfl) ?_
     rintro e W1 ⟨rfl, H'⟩
     refine ⟨_, rfl, ?_⟩
     have H := H.same H'; clear H'
     refine s_run rfl rfl (r_notT rfl) ?_
     refine s_run rfl rfl (rmb rfl) ?_
     refine s_run rfl (g_on 16 (by kernel_rfl) rfl) (r_la H 0 rfl rfl rfl ag25 sz25) ?_
     refine s_call (g_on 16 (by kernel_rfl) rfl) (hFb _ H.only) (ca14 rfl) ?_
     rintro e W1 ⟨rfl, H'⟩
     refine ⟨_, rfl, ?_⟩
     have H := H.same H'; clear H'
     refine s_run rfl (g_on 16 (by kernel_rfl) rfl) (r_notT rfl) ?_
     refine s_run rfl rfl (r_pkF (v := .bool _) rfl rfl) ?_
     refine s_run rfl rfl (rmb rfl) ?_
     refine s_run rfl (g_on 21 (by kernel_rfl) rfl) (r_la H 1 rfl rfl rfl ag25 sz25) ?_
     refine s_call (g_on 21 (by kernel_rfl) rfl) (hRa _ H.only) (ca15 rfl) ?_
     rintro e W1 ⟨NA, cN, rfl, H'⟩
     refine ⟨_, rfl, ?_⟩
     have H := H.more H'; clear H'
     refine s_call (g_on 21 (by kernel_rfl) rfl) (hDa NA cN _ _ H) (ca18 rfl) ?_
     rintro e W1 ⟨rfl, H'⟩
     refine ⟨_, rfl, ?_⟩
     have H := H.same H'; clear H'
     refine s_run rfl (g_on 21 (by kernel_rfl) rfl) (r_notT rfl) ?_
     refine s_run rfl rfl (r_pkF (v := .bool _) rfl rfl) ?_
     refine s_run rfl rfl (rmb rfl) ?_
     refine s_run rfl (g_on 27 (by kernel_rfl) rfl) (r_la H 1 rfl rfl rfl ag25 sz25) ?_
     refine s_call (g_on 27 (by kernel_rfl) rfl) (hRb _ H.only) (ca15 rfl) ?_
     rintro e W1 ⟨NB, dN, rfl, H'⟩
     refine ⟨_, rfl, ?_⟩
     have H := H.more H'; clear H'
     refine s_call (g_on 27 (by kernel_rfl) rfl) (hDb NB dN _ _ H) (ca18 rfl) ?_
     rintro e W1 ⟨rfl, H'⟩
     refine ⟨_, rfl, ?_⟩
     have H := H.same H'; clear H'
     refine s_run rfl (g_on 27 (by kernel_rfl) rfl) (r_notF rfl) ?_
     refine s_run rfl rfl (r_pkF (v := .bool _) rfl rfl) ?_
     refine k_nc ?_
     refine k_t rfl ?_
     refine k_sg ?_
     refine s_run rfl rfl (rab rfl) ?_
     refine k_nc ?_
     refine k_ret ?_
     refine c_ret ?_
     refine fin1r (v := .bool _) rfl rfl ?_
     exact ⟨rfl, H.below⟩
    | true =>
     have hD2 := fun NA cN => (show rightB (refG b NA cN) = true from rb)
     simp only [hD2] at hDb
     have hn := sa.n
     have hm := sa.m
     have hn2 := sb.n
     have hm2 := sb.m
     have harl := ha.rl
     have hanl := ha.nl
     have hbrl := hb.rl
     have hbnl := hb.nl
     have hars := ha.rs
     have hJ := fun W (h : Only [] w W) => gJoin a b W (ha.later h (by simp)) (hb.later h (by simp)) ra rb sa sb
     have hReA := fun W (h : Only [] w W) => gReached a W (ha.later h (by simp)) sa
     have hReB := fun W (h : Only [] w W) => gReached b W (hb.later h (by simp)) sb
     have hSh := fun W (h : Only [] w W) => dShift b.A b.n b.c b.rs a.m b.m W (hb.rs.later h (by simp)) hbrl hn2 (right_roots rb) hm2 hm
     unfold GrS.cells at hFa hFb hRa hRb hDa hDb hJ hReA hReB ⊢
     unfold refG at hRa hRb hDa hDb
     refine k_in (N := 128) Try.func4 rfl rfl rfl ?_
     refine k_sg ?_
     refine s_box H rfl rfl ?_
     intro p2 _ H'; clear H; have H := H'; clear H'
     refine s_box H rfl rfl ?_
     intro p3 _ H'; clear H; have H := H'; clear H'
     refine s_run rfl rfl (rab rfl) ?_
     refine k_nc ?_
     refine k_seq ?_
     refine k_sg ?_
     refine s_call rfl (awake38 _) (ca13 rfl) ?_
     rintro e W1 ⟨rfl, H'⟩
     refine ⟨_, rfl, ?_⟩
     have H := H.same H'; clear H'
     refine s_run rfl rfl (r_notT rfl) ?_
     refine k_nc ?_
     refine k_f rfl ?_
     refine k_skip ?_
     refine c_norm ?_
     refine k_seq ?_
     refine k_sg ?_
     refine s_run rfl rfl (r_la H 1 rfl rfl rfl ag25 sz25) ?_
     refine s_call rfl (hFa _ H.only) (ca14 rfl) ?_
     rintro e W1 ⟨rfl, H'⟩
     refine ⟨_, rfl, ?_⟩
     have H := H.same H'; clear H'
     refine s_run rfl rfl (r_notT rfl) ?_
     refine s_run rfl rfl (rmb rfl) ?_
     refine s_run rfl (g_on 16 (by kernel_rfl) rfl) (r_la H 0 rfl rfl rfl ag25 sz25) ?_
     refine s_call (g_on 16 (by kernel_rfl) rfl) (hFb _ H.only) (ca14 rfl) ?_
     rintro e W1 ⟨rfl, H'⟩
     refine ⟨_, rfl, ?_⟩
     have H := H.same H'; clear H'
     refine s_run rfl (g_on 16 (by kernel_rfl) rfl) (r_notT rfl) ?_
     refine s_run rfl rfl (r_pkF (v := .bool _) rfl rfl) ?_
     refine s_run rfl rfl (rmb rfl) ?_
     refine s_run rfl (g_on 21 (by kernel_rfl) rfl) (r_la H 1 rfl rfl rfl ag25 sz25) ?_
     refine s_call (g_on 21 (by kernel_rfl) rfl) (hRa _ H.only) (ca15 rfl) ?_
     rintro e W1 ⟨NA0, cN0, rfl, H'⟩
     refine ⟨_, rfl, ?_⟩
     have H := H.more H'; clear H'
     refine s_call (g_on 21 (by kernel_rfl) rfl) (hDa NA0 cN0 _ _ H) (ca18 rfl) ?_
     rintro e W1 ⟨rfl, H'⟩
     refine ⟨_, rfl, ?_⟩
     have H := H.same H'; clear H'
     refine s_run rfl (g_on 21 (by kernel_rfl) rfl) (r_notT rfl) ?_
     refine s_run rfl rfl (r_pkF (v := .bool _) rfl rfl) ?_
     refine s_run rfl rfl (rmb rfl) ?_
     refine s_run rfl (g_on 27 (by kernel_rfl) rfl) (r_la H 1 rfl rfl rfl ag25 sz25) ?_
     refine s_call (g_on 27 (by kernel_rfl) rfl) (hRb _ H.only) (ca15 rfl) ?_
     rintro e W1 ⟨NB0, dN0, rfl, H'⟩
     refine ⟨_, rfl, ?_⟩
     have H := H.more H'; clear H'
     refine s_call (g_on 27 (by kernel_rfl) rfl) (hDb NB0 dN0 _ _ H) (ca18 rfl) ?_
     rintro e W1 ⟨rfl, H'⟩
     refine ⟨_, rfl, ?_⟩
     have H := H.same H'; clear H'
     refine s_run rfl (g_on 27 (by kernel_rfl) rfl) (r_notT rfl) ?_
     refine s_run rfl rfl (r_pkF (v := .bool _) rfl rfl) ?_
     refine k_nc ?_
     refine k_f rfl ?_
     refine k_skip ?_
     refine c_norm ?_
     refine k_sg ?_
     refine s_run rfl rfl (r_fa0 rfl fo25_1) ?_
     refine s_run rfl rfl (r_lo H 3 rfl rfl rfl ag23) ?_
     refine s_run rfl rfl (r_len rfl Try.underlying23) ?_
     refine s_run rfl rfl (rai rfl) ?_
     refine k_nc ?_
     refine k_sg ?_
     refine s_al H rfl inf30 ?_
     intro p6 _ H'; clear H; have H := H'; clear H'
     refine k_nc ?_
     refine k_seq ?_
     refine k_sg ?_
     refine s_run rfl rfl (rai rfl) ?_
     refine k_nc ?_
     refine k_b ?_
     replace H := (H.order [0, 3, 4, 1, 2] rfl rfl : Heap w [] ([_, _, _] ++ [_, _]) _).drops
     replace H := H.own_nil 1 3
     replace H := H.order [1, 0, 2, 3] rfl rfl
     refine k_loop (fun z f W => ∃ (i : Nat) (WR : Option Addr) (cR : Nat), i ≤ a.n ∧ z = a.n - i ∧ f 2 = ptr p2 ∧ f 3 = ptr p3 ∧ f 5 = .int .i64 a.m ∧ f 6 = ptr p6 ∧ f 7 = .int .i64 i ∧ Heap w [] [blk p6 [.slice WR i cR, .slice none 0 0] 30, ownN 1 (.slice WR i cR) i ((a.rs.take i).map (Value.int .i64)) 3, blk p3 [.slice b.A b.n b.c, .slice b.B b.m b.d] 25, blk p2 [.slice a.A a.n a.c, .slice a.B a.m a.d] 25] W) a.n ⟨0, none, 0, by omega, rfl, rfl, rfl, rfl, rfl, rfl, H⟩ ?_
     clear H
     rintro z f W ⟨i, WR, cR, hi, rfl, f2, f3, f5, f6, f7, H⟩
     obtain ⟨f, rfl⟩ := live5 f2 f3 f5 f6 f7
     clear f2 f3 f5 f6 f7
     by_cases hlt : i < a.n
     ·obtain ⟨r, hrr⟩ : ∃ r, a.rs[i]? = some r := ⟨_, List.getElem?_eq_getElem (by omega)⟩
      obtain ⟨bb, bo, hA, _, hrd⟩ := hars (by omega)
      have hcell := hrd i r hrr
      have ets : a.rs.take (i + 1) = a.rs.take i ++ [r] := by rw [List.take_add_one, hrr]; rfl
      rw [hA] at H
      refine k_seq ?_
      refine k_sg ?_
      refine s_run rfl rfl (rmi rfl) ?_
      refine s_run rfl rfl (r_fa0 rfl fo25_0) ?_
      refine s_run rfl rfl (r_lo H 3 rfl rfl rfl ag22) ?_
      refine s_run rfl rfl (r_len rfl Try.underlying22) ?_
      refine s_run rfl rfl (r_lssT rfl rfl (by omega)) ?_
      refine k_nc ?_
      refine k_t rfl ?_
      refine k_skip ?_
      refine c_norm ?_
      refine k_seq ?_
      refine k_b ?_
      refine k_trS (A := [_]) mixed H [3] rfl ?_; have H' := H.drew; clear H; have H := H'; clear H'
      refine tqh 0 rfl rfl rfl (fun _ hS => r_fa0 rfl fo30_0) (H.subl [3] rfl rfl) ?_
      refine tqh 2 rfl rfl rfl (fun _ hS => r_fa0 rfl fo25_0) (H.subl [3] rfl rfl) ?_
      refine tqh 3 rfl rfl rfl (fun _ hS => r_lo hS 0 rfl rfl rfl ag22) (H.subl [3] rfl rfl) ?_
      refine tqh 4 rfl rfl rfl (fun _ hS => r_mv (v := .int _ _) rfl) (H.subl [3] rfl rfl) ?_
      refine tqh 5 rfl rfl rfl (fun _ hS => r_ix1o (i := i) rfl rfl (by omega) (by omega) Try.underlying22 sz3) (H.subl [3] rfl rfl) ?_
      refine tqh 6 rfl rfl rfl (fun _ hS => r_lr hS rfl hcell (by simp) ag3) (H.subl [3] rfl rfl) ?_
      refine t_up2 1 7 (by kernel_rfl) ?_ ?_
      ·refine up_mk rfl ?_
       refine s_run rfl rfl (r_lo H 0 rfl rfl rfl ag22) ?_
       refine k_nil ?_
       refine t_on (H.subl [3] rfl rfl) ?_
       refine t_up1 7 (by kernel_rfl) ?_
       refine up_mk rfl ?_
       refine s_bsO (enc := (Value.int .i64)) (zs := [r]) H rfl rfl rfl (by omega) (by kernel_rfl) Try.underlying22 inf3 ?_
       intro _ _ H'; clear H; have H := H'; clear H'
       refine k_nil ?_
       refine t_on (H.subl [4] rfl rfl) ?_
       refine t_up1 8 (by kernel_rfl) ?_
       refine up_mk rfl ?_
       refine s_apB (enc := (Value.int .i64)) (size := 1) H 1 rfl rfl rfl rfl (fun _ => rfl) (by omega) (by omega) Try.underlying22 inf3 rfl ?_
       intro WR' cR' _ H'; simp only [List.set_cons_zero, List.set_cons_succ, List.take_succ_cons, List.take_zero, List.drop_succ_cons, List.drop_zero, List.cons_append, List.nil_append, List.append_nil, List.length_cons, List.length_nil, Nat.reduceAdd] at H'; clear H; have H := H'; clear H'
       refine k_nil ?_
       refine t_on (H.subl [3] rfl rfl) ?_
       refine tqh 9 rfl rfl rfl (fun _ hS => r_fa0 rfl fo30_0) (H.subl [3] rfl rfl) ?_
       refine t_up1 10 (by kernel_rfl) ?_
       refine up_mk rfl ?_
       refine s_st (u := .slice _ _ _) H 0 rfl rfl rfl rfl rfl rfl sz22 ?_
       clear H; intro _ H; simp only [jA, jB, jC, jD, jE, jF, jG, jH, jI, jJ, jK, Nat.reduceAdd] at H
       refine k_nil ?_
       refine t_on (H.subl [3] rfl rfl) ?_
       refine t_done (by kernel_rfl) ?_
       refine b_norm ?_
       refine c_norm ?_
       refine k_rg ?_
       refine s_run rfl rfl (rmi rfl) ?_
       refine s_run rfl rfl (r_add rfl rfl (wI (by omega))) ?_
       refine s_run rfl rfl (rai rfl) ?_
       refine k_nil ?_
       refine c_round ?_
       refine ⟨_, _, ?_, rfl, i + 1, WR', cR', by omega, rfl, rfl, rfl, rfl, rfl, rfl, by rw [ets, hA]; exact H⟩
       omega
      ·refine up_mk rfl ?_
       refine s_bsO (enc := (Value.int .i64)) (zs := [r]) H rfl rfl rfl (by omega) (by kernel_rfl) Try.underlying22 inf3 ?_
       intro _ _ H'; clear H; have H := H'; clear H'
       refine k_nil ?_
       refine t_on (H.subl [4] rfl rfl) ?_
       refine t_up1 1 (by kernel_rfl) ?_
       refine up_mk rfl ?_
       refine s_run rfl rfl (r_lo H 1 rfl rfl rfl ag22) ?_
       refine k_nil ?_
       refine t_on (H.subl [4] rfl rfl) ?_
       refine t_up1 8 (by kernel_rfl) ?_
       refine up_mk rfl ?_
       refine s_apB (enc := (Value.int .i64)) (size := 1) H 1 rfl rfl rfl rfl (fun _ => rfl) (by omega) (by omega) Try.underlying22 inf3 rfl ?_
       intro WR' cR' _ H'; simp only [List.set_cons_zero, List.set_cons_succ, List.take_succ_cons, List.take_zero, List.drop_succ_cons, List.drop_zero, List.cons_append, List.nil_append, List.append_nil, List.length_cons, List.length_nil, Nat.reduceAdd] at H'; clear H; have H := H'; clear H'
       refine k_nil ?_
       refine t_on (H.subl [3] rfl rfl) ?_
       refine tqh 9 rfl rfl rfl (fun _ hS => r_fa0 rfl fo30_0) (H.subl [3] rfl rfl) ?_
       refine t_up1 10 (by kernel_rfl) ?_
       refine up_mk rfl ?_
       refine s_st (u := .slice _ _ _) H 0 rfl rfl rfl rfl rfl rfl sz22 ?_
       clear H; intro _ H; simp only [jA, jB, jC, jD, jE, jF, jG, jH, jI, jJ, jK, Nat.reduceAdd] at H
       refine k_nil ?_
       refine t_on (H.subl [3] rfl rfl) ?_
       refine t_done (by kernel_rfl) ?_
       refine b_norm ?_
       refine c_norm ?_
       refine k_rg ?_
       refine s_run rfl rfl (rmi rfl) ?_
       refine s_run rfl rfl (r_add rfl rfl (wI (by omega))) ?_
       refine s_run rfl rfl (rai rfl) ?_
       refine k_nil ?_
       refine c_round ?_
       refine ⟨_, _, ?_, rfl, i + 1, WR', cR', by omega, rfl, rfl, rfl, rfl, rfl, rfl, by rw [ets, hA]; exact H⟩
       omega
     ·obtain rfl : i = a.n := by omega
      have etk : a.rs.take a.n = a.rs := by rw [← harl]; exact List.take_length
      rw [etk] at H
      refine k_seq ?_
      refine k_sg ?_
      refine s_run rfl rfl (rmi rfl) ?_
      refine s_run rfl rfl (r_fa0 rfl fo25_0) ?_
      refine s_run rfl rfl (r_lo H 3 rfl rfl rfl ag22) ?_
      refine s_run rfl rfl (r_len rfl Try.underlying22) ?_
      refine s_run rfl rfl (r_lssF rfl rfl (by omega)) ?_
      refine k_nc ?_
      refine k_f rfl ?_
      refine k_exit ?_
      refine c_exit ?_
      refine c_exit ?_
      refine b_hit ?_
      refine c_norm ?_
      refine k_seq ?_
      refine k_cut (fun f W => ∃ WR cR, f 2 = ptr p2 ∧ f 3 = ptr p3 ∧ f 5 = .int .i64 a.m ∧ f 6 = ptr p6 ∧ Heap w [] [blk p6 [.slice WR (a.n + b.n) cR, .slice none 0 0] 30, ownN 1 (.slice WR (a.n + b.n) cR) (a.n + b.n) ((a.rs ++ b.rs.map (Gr.sh a.m)).map (Value.int .i64)) 3, blk p3 [.slice b.A b.n b.c, .slice b.B b.m b.d] 25, blk p2 [.slice a.A a.n a.c, .slice a.B a.m a.d] 25] W) ?_ ?_
      ·refine k_trS (A := [_]) mixed H [2] rfl ?_; have H' := H.drew; clear H; have H := H'; clear H'
       refine tqn 0 rfl rfl rfl (fun _ hS => r_fa0 rfl fo30_0) (H.subl [2] rfl rfl) ?_
       refine tqn 2 rfl rfl rfl (fun _ hS => r_fa0 rfl fo25_0) (H.subl [2] rfl rfl) ?_
       refine tqn 3 rfl rfl rfl (fun _ hS => r_lo hS 0 rfl rfl rfl ag22) (H.subl [2] rfl rfl) ?_
       refine tqn 4 rfl rfl rfl (fun _ hS => r_mv (v := .int _ _) rfl) (H.subl [2] rfl rfl) ?_
       refine t_up2 1 5 (by kernel_rfl) ?_ ?_
       ·refine up_mk rfl ?_
        refine s_run rfl rfl (r_lo H 0 rfl rfl rfl ag22) ?_
        refine k_nil ?_
        refine t_on (H.subl [2] rfl rfl) ?_
        refine t_up1 5 (by kernel_rfl) ?_
        refine up_mk rfl ?_
        refine s_call rfl (hSh _ H.only) (ca21 rfl) ?_
        rintro e W1 ⟨SA, cS, rfl, H'⟩
        refine ⟨_, rfl, ?_⟩
        have H := H.more H'; clear H'; simp only [List.cons_append, List.nil_append] at H
        refine k_nil ?_
        refine t_on (H.subl [3] rfl rfl) ?_
        refine t_up1 6 (by kernel_rfl) ?_
        refine up_mk rfl ?_
        refine s_apB (enc := (Value.int .i64)) (size := 1) H 1 rfl rfl rfl rfl (fun _ => rfl) (by omega) (by omega) Try.underlying22 inf3 rfl ?_
        intro WR' cR' _ H'; simp only [List.set_cons_zero, List.set_cons_succ, List.take_succ_cons, List.take_zero, List.drop_succ_cons, List.drop_zero, List.cons_append, List.nil_append, List.append_nil, List.length_cons, List.length_nil, Nat.reduceAdd] at H'; clear H; have H := H'; clear H'
        refine k_nil ?_
        refine t_on (H.subl [2] rfl rfl) ?_
        refine tqn 7 rfl rfl rfl (fun _ hS => r_fa0 rfl fo30_0) (H.subl [2] rfl rfl) ?_
        refine t_up1 8 (by kernel_rfl) ?_
        refine up_mk rfl ?_
        refine s_st (u := .slice _ _ _) H 0 rfl rfl rfl rfl rfl rfl sz22 ?_
        clear H; intro _ H; simp only [jA, jB, jC, jD, jE, jF, jG, jH, jI, jJ, jK, Nat.reduceAdd] at H
        refine k_nil ?_
        refine t_on (H.subl [2] rfl rfl) ?_
        refine t_done (by kernel_rfl) ?_
        refine k_met ?_
        exact ⟨WR', cR', rfl, rfl, rfl, rfl, H⟩
       ·refine up_mk rfl ?_
        refine s_call rfl (hSh _ H.only) (ca21 rfl) ?_
        rintro e W1 ⟨SA, cS, rfl, H'⟩
        refine ⟨_, rfl, ?_⟩
        have H := H.more H'; clear H'; simp only [List.cons_append, List.nil_append] at H
        refine k_nil ?_
        refine t_on (H.subl [3] rfl rfl) ?_
        refine t_up1 1 (by kernel_rfl) ?_
        refine up_mk rfl ?_
        refine s_run rfl rfl (r_lo H 1 rfl rfl rfl ag22) ?_
        refine k_nil ?_
        refine t_on (H.subl [3] rfl rfl) ?_
        refine t_up1 6 (by kernel_rfl) ?_
        refine up_mk rfl ?_
        refine s_apB (enc := (Value.int .i64)) (size := 1) H 1 rfl rfl rfl rfl (fun _ => rfl) (by omega) (by omega) Try.underlying22 inf3 rfl ?_
        intro WR' cR' _ H'; simp only [List.set_cons_zero, List.set_cons_succ, List.take_succ_cons, List.take_zero, List.drop_succ_cons, List.drop_zero, List.cons_append, List.nil_append, List.append_nil, List.length_cons, List.length_nil, Nat.reduceAdd] at H'; clear H; have H := H'; clear H'
        refine k_nil ?_
        refine t_on (H.subl [2] rfl rfl) ?_
        refine tqn 7 rfl rfl rfl (fun _ hS => r_fa0 rfl fo30_0) (H.subl [2] rfl rfl) ?_
        refine t_up1 8 (by kernel_rfl) ?_
        refine up_mk rfl ?_
        refine s_st (u := .slice _ _ _) H 0 rfl rfl rfl rfl rfl rfl sz22 ?_
        clear H; intro _ H; simp only [jA, jB, jC, jD, jE, jF, jG, jH, jI, jJ, jK, Nat.reduceAdd] at H
        refine k_nil ?_
        refine t_on (H.subl [2] rfl rfl) ?_
        refine t_done (by kernel_rfl) ?_
        refine k_met ?_
        exact ⟨WR', cR', rfl, rfl, rfl, rfl, H⟩
      ·clear H WR cR
       rintro f W ⟨WR, cR, f2, f3, f5, f6, H⟩
       obtain ⟨f, rfl⟩ := live4 f2 f3 f5 f6
       clear f2 f3 f5 f6
       refine c_norm ?_
       refine k_seq ?_
       refine k_sg ?_
       refine s_run rfl rfl (rai rfl) ?_
       refine k_nc ?_
       refine k_b ?_
       replace H := H.own_nil 2 40
       replace H := H.order [1, 0, 2, 3, 4] rfl rfl
       refine k_loop (fun z f W => ∃ (i : Nat) (NA : Option Addr) (cN : Nat), i ≤ a.m ∧ z = a.m - i ∧ f 2 = ptr p2 ∧ f 3 = ptr p3 ∧ f 5 = .int .i64 a.m ∧ f 6 = ptr p6 ∧ f 8 = .int .i64 i ∧ Heap w [] [blk p6 [.slice WR (a.n + b.n) cR, .slice NA i cN] 30, ownN 2 (.slice NA i cN) i ((flatN (a.ns.take i)).map C1.v) 40, ownN 1 (.slice WR (a.n + b.n) cR) (a.n + b.n) ((a.rs ++ b.rs.map (Gr.sh a.m)).map (Value.int .i64)) 3, blk p3 [.slice b.A b.n b.c, .slice b.B b.m b.d] 25, blk p2 [.slice a.A a.n a.c, .slice a.B a.m a.d] 25] W) a.m ⟨0, none, 0, by omega, rfl, rfl, rfl, rfl, rfl, rfl, H⟩ ?_
       clear H
       rintro z f W ⟨i, NA, cN, hi, rfl, f2, f3, f5, f6, f8, H⟩
       obtain ⟨f, rfl⟩ := live5 f2 f3 f5 f6 f8
       clear f2 f3 f5 f6 f8
       by_cases hlt : i < a.m
       ·obtain ⟨x, hx⟩ : ∃ x, a.ns[i]? = some x := ⟨_, List.getElem?_eq_getElem (by omega)⟩
        obtain ⟨bb, bo, hB, _, hrd⟩ := ha.ns.1 (by omega)
        have hc0 := hrd i x hx 0 _ rfl
        have hc1 := hrd i x hx 1 _ rfl
        have hfl : flatN (a.ns.take (i + 1)) = flatN (a.ns.take i) ++ [C1.s x.A x.n x.c, C1.s x.B x.m x.d] := by
         rw [List.take_add_one, hx, Option.toList_some, flatN_snoc]
        rw [hB] at H
        refine k_seq ?_
        refine k_sg ?_
        refine s_run rfl rfl (rmi rfl) ?_
        refine s_run rfl rfl (rmi rfl) ?_
        refine s_run rfl rfl (r_lssT rfl rfl (by omega)) ?_
        refine k_nc ?_
        refine k_t rfl ?_
        refine k_skip ?_
        refine c_norm ?_
        refine k_seq ?_
        refine k_b ?_
        refine k_trS (A := [_]) mixed H [4] rfl ?_; have H' := H.drew; clear H; have H := H'; clear H'
        refine tqh 0 rfl rfl rfl (fun _ hS => r_fa0 rfl fo30_1) (H.subl [4] rfl rfl) ?_
        refine tqh 2 rfl rfl rfl (fun _ hS => r_fa0 rfl fo25_1) (H.subl [4] rfl rfl) ?_
        refine tqh 3 rfl rfl rfl (fun _ hS => r_lo hS 0 rfl rfl rfl ag23) (H.subl [4] rfl rfl) ?_
        refine tqh 4 rfl rfl rfl (fun _ hS => r_mv (v := .int _ _) rfl) (H.subl [4] rfl rfl) ?_
        refine tqh 5 rfl rfl rfl (fun _ hS => r_ix (i := i) rfl rfl (by omega) (by omega) Try.underlying23 sz39) (H.subl [4] rfl rfl) ?_
        refine tqh 6 rfl rfl rfl (fun _ hS => r_fa rfl fo39_0) (H.subl [4] rfl rfl) ?_
        refine tqh 7 rfl rfl rfl (fun _ hS => r_lr hS rfl hc0 (by simp) ag22) (H.subl [4] rfl rfl) ?_
        refine tqh 8 rfl rfl rfl (fun _ hS => r_fa0 rfl fo25_1) (H.subl [4] rfl rfl) ?_
        refine tqh 9 rfl rfl rfl (fun _ hS => r_lo hS 0 rfl rfl rfl ag23) (H.subl [4] rfl rfl) ?_
        refine tqh 10 rfl rfl rfl (fun _ hS => r_mv (v := .int _ _) rfl) (H.subl [4] rfl rfl) ?_
        refine tqh 11 rfl rfl rfl (fun _ hS => r_ix (i := i) rfl rfl (by omega) (by omega) Try.underlying23 sz39) (H.subl [4] rfl rfl) ?_
        refine tqh 12 rfl rfl rfl (fun _ hS => r_fa rfl fo39_1) (H.subl [4] rfl rfl) ?_
        refine tqh 13 rfl rfl rfl (fun _ hS => r_lr hS rfl hc1 (by simp) ag37) (H.subl [4] rfl rfl) ?_
        refine tqh 14 rfl rfl rfl (fun _ hS => r_bd (bd40_0_1 _ _ _ _ _ _) rfl) (H.subl [4] rfl rfl) ?_
        refine t_up2 1 15 (by kernel_rfl) ?_ ?_
        ·refine up_mk rfl ?_
         refine s_run rfl rfl (r_lo H 0 rfl rfl rfl ag28) ?_
         refine k_nil ?_
         refine t_on (H.subl [4] rfl rfl) ?_
         refine t_up1 15 (by kernel_rfl) ?_
         refine up_mk rfl ?_
         refine s_bsN (enc := C1.v) (size := 2) (zs := [C1.s x.A x.n x.c, C1.s x.B x.m x.d]) H rfl rfl rfl (by omega) (by kernel_rfl) Try.underlying28 inf40 ?_
         intro _ _ H'; clear H; have H := H'; clear H'
         refine k_nil ?_
         refine t_on (H.subl [5] rfl rfl) ?_
         refine t_up1 16 (by kernel_rfl) ?_
         refine up_mk rfl ?_
         refine s_apB (enc := C1.v) (size := 2) H 1 rfl rfl rfl rfl C1.one (by omega) (by omega) Try.underlying28 inf40 rfl ?_
         intro NA' cN' _ H'; simp only [List.set_cons_zero, List.set_cons_succ, List.take_succ_cons, List.take_zero, List.drop_succ_cons, List.drop_zero, List.cons_append, List.nil_append, List.append_nil, List.length_cons, List.length_nil, Nat.reduceAdd] at H'; clear H; have H := H'; clear H'
         refine k_nil ?_
         refine t_on (H.subl [4] rfl rfl) ?_
         refine tqh 17 rfl rfl rfl (fun _ hS => r_fa0 rfl fo30_1) (H.subl [4] rfl rfl) ?_
         refine t_up1 18 (by kernel_rfl) ?_
         refine up_mk rfl ?_
         refine s_st (u := .slice _ _ _) H 0 rfl rfl rfl rfl rfl rfl sz28 ?_
         clear H; intro _ H; simp only [jA, jB, jC, jD, jE, jF, jG, jH, jI, jJ, jK, Nat.reduceAdd] at H
         refine k_nil ?_
         refine t_on (H.subl [4] rfl rfl) ?_
         refine t_done (by kernel_rfl) ?_
         refine b_norm ?_
         refine c_norm ?_
         refine k_rg ?_
         refine s_run rfl rfl (rmi rfl) ?_
         refine s_run rfl rfl (r_add rfl rfl (wI (by omega))) ?_
         refine s_run rfl rfl (rai rfl) ?_
         refine k_nil ?_
         refine c_round ?_
         refine ⟨_, _, ?_, rfl, i + 1, NA', cN', by omega, rfl, rfl, rfl, rfl, rfl, rfl, by rw [hfl, hB]; exact H⟩
         omega
        ·refine up_mk rfl ?_
         refine s_bsN (enc := C1.v) (size := 2) (zs := [C1.s x.A x.n x.c, C1.s x.B x.m x.d]) H rfl rfl rfl (by omega) (by kernel_rfl) Try.underlying28 inf40 ?_
         intro _ _ H'; clear H; have H := H'; clear H'
         refine k_nil ?_
         refine t_on (H.subl [5] rfl rfl) ?_
         refine t_up1 1 (by kernel_rfl) ?_
         refine up_mk rfl ?_
         refine s_run rfl rfl (r_lo H 1 rfl rfl rfl ag28) ?_
         refine k_nil ?_
         refine t_on (H.subl [5] rfl rfl) ?_
         refine t_up1 16 (by kernel_rfl) ?_
         refine up_mk rfl ?_
         refine s_apB (enc := C1.v) (size := 2) H 1 rfl rfl rfl rfl C1.one (by omega) (by omega) Try.underlying28 inf40 rfl ?_
         intro NA' cN' _ H'; simp only [List.set_cons_zero, List.set_cons_succ, List.take_succ_cons, List.take_zero, List.drop_succ_cons, List.drop_zero, List.cons_append, List.nil_append, List.append_nil, List.length_cons, List.length_nil, Nat.reduceAdd] at H'; clear H; have H := H'; clear H'
         refine k_nil ?_
         refine t_on (H.subl [4] rfl rfl) ?_
         refine tqh 17 rfl rfl rfl (fun _ hS => r_fa0 rfl fo30_1) (H.subl [4] rfl rfl) ?_
         refine t_up1 18 (by kernel_rfl) ?_
         refine up_mk rfl ?_
         refine s_st (u := .slice _ _ _) H 0 rfl rfl rfl rfl rfl rfl sz28 ?_
         clear H; intro _ H; simp only [jA, jB, jC, jD, jE, jF, jG, jH, jI, jJ, jK, Nat.reduceAdd] at H
         refine k_nil ?_
         refine t_on (H.subl [4] rfl rfl) ?_
         refine t_done (by kernel_rfl) ?_
         refine b_norm ?_
         refine c_norm ?_
         refine k_rg ?_
         refine s_run rfl rfl (rmi rfl) ?_
         refine s_run rfl rfl (r_add rfl rfl (wI (by omega))) ?_
         refine s_run rfl rfl (rai rfl) ?_
         refine k_nil ?_
         refine c_round ?_
         refine ⟨_, _, ?_, rfl, i + 1, NA', cN', by omega, rfl, rfl, rfl, rfl, rfl, rfl, by rw [hfl, hB]; exact H⟩
         omega
       ·obtain rfl : i = a.m := by omega
        have et : a.ns.take a.m = a.ns := by rw [← hanl]; exact List.take_length
        rw [et] at H
        refine k_seq ?_
        refine k_sg ?_
        refine s_run rfl rfl (rmi rfl) ?_
        refine s_run rfl rfl (rmi rfl) ?_
        refine s_run rfl rfl (r_lssF rfl rfl (by omega)) ?_
        refine k_nc ?_
        refine k_f rfl ?_
        refine k_exit ?_
        refine c_exit ?_
        refine c_exit ?_
        refine b_hit ?_
        refine c_norm ?_
        refine k_seq ?_
        refine k_sg ?_
        refine s_run rfl rfl (rai rfl) ?_
        refine k_nc ?_
        refine k_b ?_
        replace H := H.grp_nil
        replace H := H.order [1, 2, 0, 3, 4, 5] rfl rfl
        refine k_loop (fun z f W => ∃ (i : Nat) (NA : Option Addr) (cN : Nat) (ns : List NodeS), i ≤ b.m ∧ z = b.m - i ∧ ns.length = i ∧ ns.map (fun x => (x.ps, x.ds)) = (b.ns.take i).map (shP a.m) ∧ (∀ x ∈ ns, x.n ≤ 1000 ∧ x.m ≤ 100000 ∧ Sees (Value.int .u64) w [] x.B x.ds ∧ x.ds.length = x.m) ∧ f 2 = ptr p2 ∧ f 3 = ptr p3 ∧ f 5 = .int .i64 a.m ∧ f 6 = ptr p6 ∧ f 9 = .int .i64 i ∧ Heap w [] [blk p6 [.slice WR (a.n + b.n) cR, .slice NA (a.m + i) cN] 30, ownN 2 (.slice NA (a.m + i) cN) (a.m + i) ((flatN (a.ns ++ ns)).map C1.v) 40, grp (ns.map nodeP), ownN 1 (.slice WR (a.n + b.n) cR) (a.n + b.n) ((a.rs ++ b.rs.map (Gr.sh a.m)).map (Value.int .i64)) 3, blk p3 [.slice b.A b.n b.c, .slice b.B b.m b.d] 25, blk p2 [.slice a.A a.n a.c, .slice a.B a.m a.d] 25] W) b.m ⟨0, NA, cN, [], by omega, rfl, rfl, rfl, by simp, rfl, rfl, rfl, rfl, rfl, by rw [Nat.add_zero, List.append_nil]; exact H⟩ ?_
        clear H
        clear NA cN
        rintro z f W ⟨i, NA, cN, ns, hi, rfl, hnsl, hnsm, hnsb, f2, f3, f5, f6, f9, H⟩
        obtain ⟨f, rfl⟩ := live5 f2 f3 f5 f6 f9
        clear f2 f3 f5 f6 f9
        by_cases hlt : i < b.m
        ·obtain ⟨x, hx⟩ : ∃ x, b.ns[i]? = some x := ⟨_, List.getElem?_eq_getElem (by omega)⟩
         have hxm := List.mem_of_getElem? hx
         obtain ⟨bb, bo, hB, _, hrd⟩ := hb.ns.1 (by omega)
         have hc0 := hrd i x hx 0 _ rfl
         have hc1 := hrd i x hx 1 _ rfl
         have hxo := hb.ns.2 x hxm
         have hxn := (sb.p x hxm).1
         have hxd := (sb.p x hxm).2
         have hSh2 := fun W (h : Only [] w W) => dShift x.A x.n x.c x.ps a.m b.m W (hxo.ps.later h (by simp)) hxo.pl hxn (right_ptrs rb x hxm) hm2 hm
         have fin : ∀ (f' : Nat → Value) (W' : World) (PA NA' : Option Addr) (cP cN' : Nat), f' 2 = ptr p2 → f' 3 = ptr p3 → f' 5 = .int .i64 a.m → f' 6 = ptr p6 → f' 9 = .int .i64 ((i : Int) + 1) → Heap w [] [ownN 1 (.slice PA x.n cP) x.n ((x.ps.map (Gr.sh a.m)).map (Value.int .i64)) 3, blk p6 [.slice WR (a.n + b.n) cR, .slice NA' (a.m + i + 1) cN'] 30, ownN 2 (.slice NA' (a.m + i + 1) cN') (a.m + i + 1) ((flatN (a.ns ++ ns) ++ [C1.s PA x.n cP, C1.s x.B x.m x.d]).map C1.v) 40, grp (ns.map nodeP), ownN 1 (.slice WR (a.n + b.n) cR) (a.n + b.n) ((a.rs ++ b.rs.map (Gr.sh a.m)).map (Value.int .i64)) 3, blk p3 [.slice b.A b.n b.c, .slice (some ⟨bb, bo, none⟩) b.m b.d] 25, blk p2 [.slice a.A a.n a.c, .slice a.B a.m a.d] 25] W' →
           ∃ m' f'', m' < b.m - i ∧ Fn ⟨128, []⟩ f' = Fn ⟨128, []⟩ f'' ∧ ∃ (i : Nat) (NA : Option Addr) (cN : Nat) (ns : List NodeS), i ≤ b.m ∧ m' = b.m - i ∧ ns.length = i ∧ ns.map (fun x => (x.ps, x.ds)) = (b.ns.take i).map (shP a.m) ∧ (∀ x ∈ ns, x.n ≤ 1000 ∧ x.m ≤ 100000 ∧ Sees (Value.int .u64) w [] x.B x.ds ∧ x.ds.length = x.m) ∧ f'' 2 = ptr p2 ∧ f'' 3 = ptr p3 ∧ f'' 5 = .int .i64 a.m ∧ f'' 6 = ptr p6 ∧ f'' 9 = .int .i64 i ∧ Heap w [] [blk p6 [.slice WR (a.n + b.n) cR, .slice NA (a.m + i) cN] 30, ownN 2 (.slice NA (a.m + i) cN) (a.m + i) ((flatN (a.ns ++ ns)).map C1.v) 40, grp (ns.map nodeP), ownN 1 (.slice WR (a.n + b.n) cR) (a.n + b.n) ((a.rs ++ b.rs.map (Gr.sh a.m)).map (Value.int .i64)) 3, blk p3 [.slice b.A b.n b.c, .slice b.B b.m b.d] 25, blk p2 [.slice a.A a.n a.c, .slice a.B a.m a.d] 25] W' := by
          intro f' W' PA NA' cP cN' g1 g2 g3 g4 g5 H
          rw [← hB] at H
          replace H := (H.order [0, 3, 1, 2, 4, 5, 6] rfl rfl : Heap w [] ([_] ++ [_, _, _, _, _, _]) _).wrap
          replace H := H.grp_snoc (E := nodeP (NodeS.mk PA x.n cP (x.ps.map (Gr.sh a.m)) x.B x.m x.d x.ds))
          replace H := H.order [1, 2, 0, 3, 4, 5] rfl rfl
          have e1 : ns.map nodeP ++ [nodeP (NodeS.mk PA x.n cP (x.ps.map (Gr.sh a.m)) x.B x.m x.d x.ds)] = (ns ++ [NodeS.mk PA x.n cP (x.ps.map (Gr.sh a.m)) x.B x.m x.d x.ds]).map nodeP := by simp
          rw [e1] at H
          have e2 := flatN_snoc (a.ns ++ ns) (NodeS.mk PA x.n cP (x.ps.map (Gr.sh a.m)) x.B x.m x.d x.ds)
          refine ⟨_, f', ?_, rfl, i + 1, NA', cN', ns ++ [NodeS.mk PA x.n cP (x.ps.map (Gr.sh a.m)) x.B x.m x.d x.ds], by omega, rfl, by simp [hnsl], ?_, fun z hz => ?_, g1, g2, g3, g4, g5, ?_⟩
          ·omega
          ·rw [List.map_append, hnsm, take_snoc _ _ _ _ hx]; rfl
          ·rcases List.mem_append.1 hz with hz | hz
           ·exact hnsb z hz
           ·rw [List.mem_singleton.1 hz]; exact ⟨hxn, hxd, hxo.ds, hxo.dl⟩
          ·rw [← List.append_assoc, e2]; exact H
         rw [hB] at H
         refine k_seq ?_
         refine k_sg ?_
         refine s_run rfl rfl (rmi rfl) ?_
         refine s_run rfl rfl (r_fa0 rfl fo25_1) ?_
         refine s_run rfl rfl (r_lo H 4 rfl rfl rfl ag23) ?_
         refine s_run rfl rfl (r_len rfl Try.underlying23) ?_
         refine s_run rfl rfl (r_lssT rfl rfl (by omega)) ?_
         refine k_nc ?_
         refine k_t rfl ?_
         refine k_skip ?_
         refine c_norm ?_
         refine k_seq ?_
         refine k_b ?_
         refine k_trS (A := [_]) mixed H [4] rfl ?_; have H' := H.drew; clear H; have H := H'; clear H'
         refine tqh 0 rfl rfl rfl (fun _ hS => r_fa0 rfl fo30_1) (H.subl [4] rfl rfl) ?_
         refine tqh 2 rfl rfl rfl (fun _ hS => r_fa0 rfl fo25_1) (H.subl [4] rfl rfl) ?_
         refine tqh 3 rfl rfl rfl (fun _ hS => r_lo hS 0 rfl rfl rfl ag23) (H.subl [4] rfl rfl) ?_
         refine tqh 4 rfl rfl rfl (fun _ hS => r_mv (v := .int _ _) rfl) (H.subl [4] rfl rfl) ?_
         refine tqh 5 rfl rfl rfl (fun _ hS => r_ix (i := i) rfl rfl (by omega) (by omega) Try.underlying23 sz39) (H.subl [4] rfl rfl) ?_
         refine tqh 6 rfl rfl rfl (fun _ hS => r_fa rfl fo39_0) (H.subl [4] rfl rfl) ?_
         refine tqh 7 rfl rfl rfl (fun _ hS => r_lr hS rfl hc0 (by simp) ag22) (H.subl [4] rfl rfl) ?_
         refine tqh 8 rfl rfl rfl (fun _ hS => r_mv (v := .int _ _) rfl) (H.subl [4] rfl rfl) ?_
         refine tqh 10 rfl rfl rfl (fun _ hS => r_fa0 rfl fo25_1) (H.subl [4] rfl rfl) ?_
         refine tqh 11 rfl rfl rfl (fun _ hS => r_lo hS 0 rfl rfl rfl ag23) (H.subl [4] rfl rfl) ?_
         refine tqh 12 rfl rfl rfl (fun _ hS => r_mv (v := .int _ _) rfl) (H.subl [4] rfl rfl) ?_
         refine tqh 13 rfl rfl rfl (fun _ hS => r_ix (i := i) rfl rfl (by omega) (by omega) Try.underlying23 sz39) (H.subl [4] rfl rfl) ?_
         refine tqh 14 rfl rfl rfl (fun _ hS => r_fa rfl fo39_1) (H.subl [4] rfl rfl) ?_
         refine tqh 15 rfl rfl rfl (fun _ hS => r_lr hS rfl hc1 (by simp) ag37) (H.subl [4] rfl rfl) ?_
         refine t_up2 1 9 (by kernel_rfl) ?_ ?_
         ·refine up_mk rfl ?_
          refine s_run rfl rfl (r_lo H 0 rfl rfl rfl ag28) ?_
          refine k_nil ?_
          refine t_on (H.subl [4] rfl rfl) ?_
          refine t_up1 9 (by kernel_rfl) ?_
          refine up_mk rfl ?_
          refine s_call rfl (hSh2 _ H.only) (ca21 rfl) ?_
          rintro e W1 ⟨PA, cP, rfl, H'⟩
          refine ⟨_, rfl, ?_⟩
          have H := H.more H'; clear H'
          refine k_nil ?_
          refine t_on (H.subl [5] rfl rfl) ?_
          refine tqh 16 rfl rfl rfl (fun _ hS => r_bd (bd40_0_1 _ _ _ _ _ _) rfl) (H.subl [5] rfl rfl) ?_
          refine t_up1 17 (by kernel_rfl) ?_
          refine up_mk rfl ?_
          refine s_bsN (enc := C1.v) (size := 2) (zs := [C1.s PA x.n cP, C1.s x.B x.m x.d]) H rfl rfl rfl (by omega) (by kernel_rfl) Try.underlying28 inf40 ?_
          intro _ _ H'; clear H; have H := H'; clear H'
          refine k_nil ?_
          refine t_on (H.subl [6] rfl rfl) ?_
          refine t_up1 18 (by kernel_rfl) ?_
          refine up_mk rfl ?_
          refine s_apB (enc := C1.v) (size := 2) H 2 rfl rfl rfl rfl C1.one (by omega) (by omega) Try.underlying28 inf40 rfl ?_
          intro NA' cN' _ H'; simp only [List.set_cons_zero, List.set_cons_succ, List.take_succ_cons, List.take_zero, List.drop_succ_cons, List.drop_zero, List.cons_append, List.nil_append, List.append_nil, List.length_cons, List.length_nil, Nat.reduceAdd] at H'; clear H; have H := H'; clear H'
          refine k_nil ?_
          refine t_on (H.subl [5] rfl rfl) ?_
          refine tqh 19 rfl rfl rfl (fun _ hS => r_fa0 rfl fo30_1) (H.subl [5] rfl rfl) ?_
          refine t_up1 20 (by kernel_rfl) ?_
          refine up_mk rfl ?_
          refine s_st (u := .slice _ _ _) H 1 rfl rfl rfl rfl rfl rfl sz28 ?_
          clear H; intro _ H; simp only [jA, jB, jC, jD, jE, jF, jG, jH, jI, jJ, jK, Nat.reduceAdd] at H
          refine k_nil ?_
          refine t_on (H.subl [5] rfl rfl) ?_
          refine t_done (by kernel_rfl) ?_
          refine b_norm ?_
          refine c_norm ?_
          refine k_rg ?_
          refine s_run rfl rfl (rmi rfl) ?_
          refine s_run rfl rfl (r_add rfl rfl (wI (by omega))) ?_
          refine s_run rfl rfl (rai rfl) ?_
          refine k_nil ?_
          refine c_round ?_
          exact fin _ _ PA NA' cP cN' rfl rfl rfl rfl rfl H
         ·refine up_mk rfl ?_
          refine s_call rfl (hSh2 _ H.only) (ca21 rfl) ?_
          rintro e W1 ⟨PA, cP, rfl, H'⟩
          refine ⟨_, rfl, ?_⟩
          have H := H.more H'; clear H'
          refine k_nil ?_
          refine t_on (H.subl [5] rfl rfl) ?_
          refine tqh 16 rfl rfl rfl (fun _ hS => r_bd (bd40_0_1 _ _ _ _ _ _) rfl) (H.subl [5] rfl rfl) ?_
          refine t_up2 1 17 (by kernel_rfl) ?_ ?_
          ·refine up_mk rfl ?_
           refine s_run rfl rfl (r_lo H 1 rfl rfl rfl ag28) ?_
           refine k_nil ?_
           refine t_on (H.subl [5] rfl rfl) ?_
           refine t_up1 17 (by kernel_rfl) ?_
           refine up_mk rfl ?_
           refine s_bsN (enc := C1.v) (size := 2) (zs := [C1.s PA x.n cP, C1.s x.B x.m x.d]) H rfl rfl rfl (by omega) (by kernel_rfl) Try.underlying28 inf40 ?_
           intro _ _ H'; clear H; have H := H'; clear H'
           refine k_nil ?_
           refine t_on (H.subl [6] rfl rfl) ?_
           refine t_up1 18 (by kernel_rfl) ?_
           refine up_mk rfl ?_
           refine s_apB (enc := C1.v) (size := 2) H 2 rfl rfl rfl rfl C1.one (by omega) (by omega) Try.underlying28 inf40 rfl ?_
           intro NA' cN' _ H'; simp only [List.set_cons_zero, List.set_cons_succ, List.take_succ_cons, List.take_zero, List.drop_succ_cons, List.drop_zero, List.cons_append, List.nil_append, List.append_nil, List.length_cons, List.length_nil, Nat.reduceAdd] at H'; clear H; have H := H'; clear H'
           refine k_nil ?_
           refine t_on (H.subl [5] rfl rfl) ?_
           refine tqh 19 rfl rfl rfl (fun _ hS => r_fa0 rfl fo30_1) (H.subl [5] rfl rfl) ?_
           refine t_up1 20 (by kernel_rfl) ?_
           refine up_mk rfl ?_
           refine s_st (u := .slice _ _ _) H 1 rfl rfl rfl rfl rfl rfl sz28 ?_
           clear H; intro _ H; simp only [jA, jB, jC, jD, jE, jF, jG, jH, jI, jJ, jK, Nat.reduceAdd] at H
           refine k_nil ?_
           refine t_on (H.subl [5] rfl rfl) ?_
           refine t_done (by kernel_rfl) ?_
           refine b_norm ?_
           refine c_norm ?_
           refine k_rg ?_
           refine s_run rfl rfl (rmi rfl) ?_
           refine s_run rfl rfl (r_add rfl rfl (wI (by omega))) ?_
           refine s_run rfl rfl (rai rfl) ?_
           refine k_nil ?_
           refine c_round ?_
           exact fin _ _ PA NA' cP cN' rfl rfl rfl rfl rfl H
          ·refine up_mk rfl ?_
           refine s_bsN (enc := C1.v) (size := 2) (zs := [C1.s PA x.n cP, C1.s x.B x.m x.d]) H rfl rfl rfl (by omega) (by kernel_rfl) Try.underlying28 inf40 ?_
           intro _ _ H'; clear H; have H := H'; clear H'
           refine k_nil ?_
           refine t_on (H.subl [6] rfl rfl) ?_
           refine t_up1 1 (by kernel_rfl) ?_
           refine up_mk rfl ?_
           refine s_run rfl rfl (r_lo H 2 rfl rfl rfl ag28) ?_
           refine k_nil ?_
           refine t_on (H.subl [6] rfl rfl) ?_
           refine t_up1 18 (by kernel_rfl) ?_
           refine up_mk rfl ?_
           refine s_apB (enc := C1.v) (size := 2) H 2 rfl rfl rfl rfl C1.one (by omega) (by omega) Try.underlying28 inf40 rfl ?_
           intro NA' cN' _ H'; simp only [List.set_cons_zero, List.set_cons_succ, List.take_succ_cons, List.take_zero, List.drop_succ_cons, List.drop_zero, List.cons_append, List.nil_append, List.append_nil, List.length_cons, List.length_nil, Nat.reduceAdd] at H'; clear H; have H := H'; clear H'
           refine k_nil ?_
           refine t_on (H.subl [5] rfl rfl) ?_
           refine tqh 19 rfl rfl rfl (fun _ hS => r_fa0 rfl fo30_1) (H.subl [5] rfl rfl) ?_
           refine t_up1 20 (by kernel_rfl) ?_
           refine up_mk rfl ?_
           refine s_st (u := .slice _ _ _) H 1 rfl rfl rfl rfl rfl rfl sz28 ?_
           clear H; intro _ H; simp only [jA, jB, jC, jD, jE, jF, jG, jH, jI, jJ, jK, Nat.reduceAdd] at H
           refine k_nil ?_
           refine t_on (H.subl [5] rfl rfl) ?_
           refine t_done (by kernel_rfl) ?_
           refine b_norm ?_
           refine c_norm ?_
           refine k_rg ?_
           refine s_run rfl rfl (rmi rfl) ?_
           refine s_run rfl rfl (r_add rfl rfl (wI (by omega))) ?_
           refine s_run rfl rfl (rai rfl) ?_
           refine k_nil ?_
           refine c_round ?_
           exact fin _ _ PA NA' cP cN' rfl rfl rfl rfl rfl H
        ·obtain rfl : i = b.m := by omega
         have et : b.ns.take b.m = b.ns := by rw [← hbnl]; exact List.take_length
         rw [et] at hnsm
         refine k_seq ?_
         refine k_sg ?_
         refine s_run rfl rfl (rmi rfl) ?_
         refine s_run rfl rfl (r_fa0 rfl fo25_1) ?_
         refine s_run rfl rfl (r_lo H 4 rfl rfl rfl ag23) ?_
         refine s_run rfl rfl (r_len rfl Try.underlying23) ?_
         refine s_run rfl rfl (r_lssF rfl rfl (by omega)) ?_
         refine k_nc ?_
         refine k_f rfl ?_
         refine k_exit ?_
         refine c_exit ?_
         refine c_exit ?_
         refine b_hit ?_
         refine c_norm ?_
         refine k_sg ?_
         refine s_run rfl rfl (r_la H 5 rfl rfl rfl ag25 sz25) ?_
         refine s_run rfl rfl (r_la H 4 rfl rfl rfl ag25 sz25) ?_
         refine s_call rfl (hJ _ H.only) (ca22 rfl) ?_
         rintro e W1 ⟨⟨g, rfl, kg, jr, jn, q1, q2, q3⟩, H'⟩
         refine ⟨_, rfl, ?_⟩
         obtain ⟨WC, rfl⟩ : ∃ X, X = W1 := ⟨W1, rfl⟩; have HP := H.same H'; clear H'; clear H; have H := Heap.nil WC
         refine s_al H rfl inf25 ?_
         intro p10 _ H'; clear H; have H := H'; clear H'
         refine s_sw H 0 rfl rfl rfl rfl rfl rfl rfl sz25 ?_
         clear H; intro _ H; simp only [jA, jB, jC, jD, jE, jF, jG, jH, jI, jJ, jK, Nat.reduceAdd] at H
         refine k_nc ?_
         refine k_seq ?_
         have L1 := fun W' (h : Only [] WC W') => HP.same h
         have hWn : GrS.nodes ⟨WR, a.n + b.n, cR, a.rs ++ b.rs.map (Gr.sh a.m), NA, a.m + b.m, cN, a.ns ++ ns⟩ = g.nodes := by
          rw [jn, ← hnsm]; unfold GrS.nodes; rw [List.map_append]
         have hWG := fun W' (h : Only [] WC W') => made_okG (n := a.n + b.n) (m := a.m + b.m) (ns := a.ns ++ ns) (by rw [List.length_append, List.length_map, harl, hbrl]) (by rw [List.length_append, hanl, hnsl]) ((L1 W' h).order [3, 1, 2, 0, 4, 5] rfl rfl) (by omega) (by omega) (fun p hp => by
          rcases List.mem_append.1 hp with hp | hp
          ·have := right_roots ra p hp; unfold okP at this; omega
          ·obtain ⟨z, hz, rfl⟩ := List.mem_map.1 hp
           exact sh_bd (right_roots rb z hz) hm hm2) (fun x hx => by
          rcases List.mem_append.1 hx with hx | hx
          ·exact (ha.ns.2 x hx).later (L1 W' h).only (by simp)
          ·obtain ⟨h1, h2, h21, h22⟩ := hnsb x hx
           have h3 : (x.ps, x.ds) ∈ b.ns.map (shP a.m) := by rw [← hnsm]; exact List.mem_map.2 ⟨x, hx, rfl⟩
           obtain ⟨y, hy, he⟩ := List.mem_map.1 h3
           unfold shP at he
           injection he with he1 he2
           refine nodeP_ok (L1 W' h) 2 rfl x hx ⟨by omega, h2, fun p hp => ?_, fun p hp => ?_, h21.later (L1 W' h).only (by simp), h22⟩
           ·rw [← he1] at hp
            obtain ⟨z, hz, rfl⟩ := List.mem_map.1 hp
            exact sh_bd (right_ptrs rb y hy z hz) hm hm2
           ·rw [← he2] at hp
            exact (hb.ns.2 y hy).db p hp)
         have fa2 := of_decide_eq_true fa
         have fb2 := of_decide_eq_true fb
         have fa3 := fa2.1
         have fb3 := fb2.1
         have fa4 := fa2.2.1
         have fb4 := fb2.2.1
         have sg : Sm g := ⟨by omega, by omega, q3⟩
         have sw : Sm ⟨WR, a.n + b.n, cR, a.rs ++ b.rs.map (Gr.sh a.m), NA, a.m + b.m, cN, a.ns ++ ns⟩ := ⟨by show a.n + b.n ≤ _; omega, by show a.m + b.m ≤ _; omega, fun x hx => by
          rcases List.mem_append.1 hx with hx | hx
          ·exact sa.p x hx
          ·exact ⟨(hnsb x hx).1, (hnsb x hx).2.1⟩⟩
         have hRG := fun W' (h : Only [] WC W') => lRefE g W' (kg.later h (by simp)) sg
         have hSD : ∀ {W0 W' : World} {L : List Ent} {NA2 : Option Addr} {cN2 : Nat}, Heap W0 [] (ownN 2 (.slice NA2 g.m cN2) g.m ((flatN g.ns).map C1.v) 40 :: L) W' → Only [] WC W' →
           Calls Try.prog 17 [.agg (refG g NA2 cN2).cells.toArray, .agg (GrS.cells ⟨WR, a.n + b.n, cR, a.rs ++ b.rs.map (Gr.sh a.m), NA, a.m + b.m, cN, a.ns ++ ns⟩).toArray].toArray W' fun e w' => e = .returned (.bool true) ∧ Only [] W' w' := by
          intro W0 W' L NA2 cN2 h hO
          have h5 := dSame (refG g NA2 cN2) ⟨WR, a.n + b.n, cR, a.rs ++ b.rs.map (Gr.sh a.m), NA, a.m + b.m, cN, a.ns ++ ns⟩ W' (ref_ok (kg.later hO (by simp)) h 0 rfl) (hWG W' hO) (ref_sm sg NA2 cN2) sw
          have e : sameB (refG g NA2 cN2) ⟨WR, a.n + b.n, cR, a.rs ++ b.rs.map (Gr.sh a.m), NA, a.m + b.m, cN, a.ns ++ ns⟩ = true := decide_eq_true ⟨jr, hWn.symm⟩
          rw [e] at h5; exact h5
         have rg : rightB g = true := join_right ra rb (fun x hx => ⟨(ha.ns.2 x hx).pl, (ha.ns.2 x hx).dl⟩) (fun x hx => ⟨(hb.ns.2 x hx).pl, (hb.ns.2 x hx).dl⟩) (fun x hx => ⟨(kg.ns.2 x hx).pl, (kg.ns.2 x hx).dl⟩) jr jn q2
         have hReG := fun W' (h : Only [] WC W') => gReached g W' (kg.later h (by simp)) sg
         have ean : a.nodes.length = a.m := by simp [GrS.nodes, hanl]
         have hJL : ∀ {oA oB oJ : List Int}, Gr.IsOrd (Gr.ptr a.nodes) a.rs oA → Gr.IsOrd (Gr.ptr b.nodes) b.rs oB → Gr.IsOrd (Gr.ptr g.nodes) g.rs oJ → oJ.length = oA.length + oB.length := by
          intro oA oB oJ h1 h2 h3
          rw [jr] at h3
          refine Gr.join_len (n := (a.m : Int)) (by omega) (fun c hc => (right_roots ra c hc).2) (fun x h0 hx => ?_) (fun x _ _ => ptr_lt ha ra x) (fun x h0 => ?_) h1 h2 h3
          ·rw [jn]; exact jn_ptrA x h0 (by omega)
          ·rw [jn]; exact jn_ptrB a.m ean x h0
         have hlA : ∀ {o : List Int}, Gr.IsOrd (Gr.ptr a.nodes) a.rs o → o.length ≤ a.m := fun h => Gr.nodup_len a.m _ h.nodup (ord_in ha ra h)
         have hlB : ∀ {o : List Int}, Gr.IsOrd (Gr.ptr b.nodes) b.rs o → o.length ≤ b.m := fun h => Gr.nodup_len b.m _ h.nodup (ord_in hb rb h)
         unfold GrS.cells at hRG hSD hReG
         unfold refG at hRG hSD
         clear hJ hSh hRa hRb hDa hDb hFa hFb
         have HR := H; clear H; have H := HR.tree; refine k_tr mixed ?_
         refine tqh 0 rfl rfl rfl (fun _ hS => r_la (HR.same hS) 0 rfl rfl rfl ag25 sz25) H.only ?_
         refine tqh 2 rfl rfl rfl (fun _ hS => r_la (L1 _ (HR.same hS).only) 0 rfl rfl rfl ag30 sz30) H.only ?_
         refine t_up1 1 (by kernel_rfl) ?_
         refine up_mk rfl ?_
         refine s_call rfl (hRG _ (HR.same H.only).only) (ca15 rfl) ?_
         rintro e W1 ⟨NA2, cN2, rfl, H'⟩
         refine ⟨_, rfl, ?_⟩
         have H := H.more H'; clear H'
         refine k_nil ?_
         refine t_on H.only ?_
         refine t_up1 3 (by kernel_rfl) ?_
         refine up_mk rfl ?_
         refine s_call rfl (hSD H (HR.same H.only).only) (ca17 rfl) ?_
         rintro e W1 ⟨rfl, H'⟩
         refine ⟨_, rfl, ?_⟩
         have H := H.same H'; clear H'
         refine k_nil ?_
         refine t_on H.only ?_
         refine tqh 4 rfl rfl rfl (fun _ hS => r_mv (v := .bool _) rfl) H.only ?_
         refine tqh 5 rfl rfl (g_on 118 (by kernel_rfl) rfl) (fun _ hS => r_la (HR.same hS) 0 rfl rfl rfl ag25 sz25) H.only ?_
         refine tqh 7 rfl rfl (g_on 118 (by kernel_rfl) rfl) (fun _ hS => r_la (L1 _ (HR.same hS).only) 5 rfl rfl rfl ag25 sz25) H.only ?_
         refine tqh 9 rfl rfl (g_on 118 (by kernel_rfl) rfl) (fun _ hS => r_la (L1 _ (HR.same hS).only) 4 rfl rfl rfl ag25 sz25) H.only ?_
         refine t_up1 6 (by kernel_rfl) ?_
         refine up_mk rfl ?_
         refine s_call (g_on 118 (by kernel_rfl) rfl) (hReG _ (HR.same H.only).only) (ca23 rfl) ?_
         rintro e W1 ⟨⟨rJ, rfl, _, hrJ⟩, H'⟩
         refine ⟨_, rfl, ?_⟩
         have H := H.same H'; clear H'; obtain ⟨oJ, hoJ, rfl⟩ := hrJ rg; (try have hlen := hJL hoA hoB hoJ)
         refine k_nil ?_
         refine t_on H.only ?_
         refine t_up1 8 (by kernel_rfl) ?_
         refine up_mk rfl ?_
         refine s_call (g_on 118 (by kernel_rfl) rfl) (hReA _ (L1 _ (HR.same H.only).only).only) (ca23 rfl) ?_
         rintro e W1 ⟨⟨rA, rfl, _, hrA⟩, H'⟩
         refine ⟨_, rfl, ?_⟩
         have H := H.same H'; clear H'; obtain ⟨oA, hoA, rfl⟩ := hrA ra; have hlA2 := hlA hoA; (try have hlen := hJL hoA hoB hoJ)
         refine k_nil ?_
         refine t_on H.only ?_
         refine t_up1 10 (by kernel_rfl) ?_
         refine up_mk rfl ?_
         refine s_call (g_on 118 (by kernel_rfl) rfl) (hReB _ (L1 _ (HR.same H.only).only).only) (ca23 rfl) ?_
         rintro e W1 ⟨⟨rB, rfl, _, hrB⟩, H'⟩
         refine ⟨_, rfl, ?_⟩
         have H := H.same H'; clear H'; obtain ⟨oB, hoB, rfl⟩ := hrB rb; have hlB2 := hlB hoB; (try have hlen := hJL hoA hoB hoJ)
         refine k_nil ?_
         refine t_on H.only ?_
         refine tqh 11 rfl rfl (g_on 118 (by kernel_rfl) rfl) (fun _ hS => r_add rfl rfl (wI (by omega))) H.only ?_
         refine tqh 12 rfl rfl (g_on 118 (by kernel_rfl) rfl) (fun _ hS => r_eqlT rfl rfl (by omega)) H.only ?_
         refine tqh 13 rfl rfl rfl (fun _ hS => r_pkT (v := .bool _) rfl rfl) H.only ?_
         refine tqh 14 rfl rfl rfl (fun _ hS => r_as (v := .bool _) rfl) H.only ?_
         refine t_done (by kernel_rfl) ?_
         have H := HR.more H; clear HR; simp only [List.cons_append, List.nil_append] at H
         refine c_norm ?_
         refine k_ret ?_
         refine fin1r (v := .bool _) rfl rfl ?_
         exact ⟨rfl, (L1 _ H.only).below⟩
end Go.Proofs.Ytdgmlfpikgjnlaa
end

section
namespace Go.Proofs.Ytdgmlfpikgjnlaa.lGraphJoins
open Go.ChangeShapes Go.WideShapes Go.ChangeAt Go.RowKit
theorem own : ownKnob Try.prog.godebug = none := by kernel_rfl
theorem laidOut : laidOutB Try.prog = true := by kernel_rfl
set_option maxRecDepth 100000 in
theorem lifted (os : Os) (started : os.Started) (H : Type) (enc : TypeId × Value → H) :
  ReturnsInHanded {} Try.checked os 4 .any (Rows.graphJoinsSpec.pre6 enc Try.prog Try.f4 Rows.graphJoinsRow.domain false) (Rows.graphJoinsSpec.post enc Try.prog Try.f4 false true false false) := by
 refine returnsInHanded_of_change (C := Try.checked) own started (by kernel_rfl) Try.func4
  (ChangeSpec.witness6 (enc := enc) (C := Try.checked) false ⟨#[], #[.agg #[.slice none 0 0, .slice none 0 0], .agg #[.slice none 0 0, .slice none 0 0]], []⟩ 8 (by kernel_rfl) (by kernel_rfl) (by kernel_rfl) (by kernel_rfl)) ?_
 intro W base args ds gs before hval0 hW hcnd _
 have hval : ∀ (j : Nat) t v, Try.f4.params[j]? = some t → args[j]? = some v → Value.okWide Try.prog W .any base t v := hval0
 have hW' := hW
 obtain ⟨p, q, hA0, hV, rfl, hfz, hnd⟩ := hW
 have hA : DataW.TrodAll enc Try.prog W 0 (fun _ => true) true Try.f4.params.toList args.toList ds p := hA0
 rw [Try.params4] at hA hval
 obtain ⟨v0, vs0, d0, ds0, p0, q0, hargs, rfl, rfl, h0, r0⟩ := trodAll_cons hA
 obtain ⟨v1, vs1, d1, ds1, p1, q1, rfl, rfl, rfl, h1, r1⟩ := trodAll_cons r0
 obtain ⟨rfl, rfl, rfl⟩ := trodAll_nil r1
 obtain rfl : args = #[v0, v1] := by cases args; simp_all
 obtain ⟨rfl, rfl⟩ := trodVars_none hV
 have k0 := h0
 have lt0 : ∀ x ∈ p0, x.block < W.heap.size := by obtain ⟨m, hm⟩ := k0; exact DataW.trod_lt m _ _ _ hm
 have k1 := h1
 have lt1 : ∀ x ∈ p1, x.block < W.heap.size := by obtain ⟨m, hm⟩ := k1; exact DataW.trod_lt m _ _ _ hm
 obtain ⟨x0, rfl, w0⟩ := open_graph W base v0 d0 p0 (hval 0 25 v0 rfl rfl) h0
 obtain ⟨x1, rfl, w1⟩ := open_graph W base v1 d1 p1 (hval 1 25 v1 rfl rfl) h1
 clear hA0 hval0
 refine (walk_GraphJoins x0 x1 W w0 w1).mono fun e W' ⟨he, bel⟩ => ?_
 subst he
 exact ⟨_, rfl, _, _, _, [], _, [], hW', trodAll_mk1 (shut_bool Try.underlying4 _), (trodAll_cons_mk (Below.trod laidOut (by kernel_rfl) (of_decide_eq_true (by kernel_rfl)) k0 bel lt0) (trodAll_cons_mk (Below.trod laidOut (by kernel_rfl) (of_decide_eq_true (by kernel_rfl)) k1 bel lt1) trodAll_mk0)), rfl, bel.frame _, fun h => by cases h⟩
theorem over : Rows.graphJoinsRow.holds Try.pinned (OpenSpec.ofChange Rows.graphJoinsSpec) :=
 OpenClaim.holds_of_wide 4 Try.f4 rfl rfl rfl rfl rfl rfl rfl ⟨rfl, rfl, rfl, rfl, rfl⟩ rfl rfl rfl rfl rfl (by kernel_rfl) Try.func4 (by kernel_rfl)
  (of_decide_eq_true (by kernel_rfl)) (by unfold Func.isWrapper; first | (rw [if_pos (by decide +kernel)]; kernel_rfl) | (rw [if_neg (by decide +kernel)]; exact ⟨rfl, rfl⟩))
  (fun os started H enc _ => lifted os started H enc)
theorem proved : Rows.GraphJoinsSaid := over
#print axioms proved
end Go.Proofs.Ytdgmlfpikgjnlaa.lGraphJoins
end
