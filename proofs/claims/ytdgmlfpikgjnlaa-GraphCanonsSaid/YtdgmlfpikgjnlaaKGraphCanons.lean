/-
  GraphCanons: for every input the Go function answers true, and its arguments read afterwards as they read before. No condition.
-/
import Derived.Deep.Slices
import Derived.Deep.Fields
import Derived.ChangeSame
import Derived.Test.YtdgmlfpikgjnlaaKGraphCanonsc
set_option linter.unusedSimpArgs false
set_option linter.unusedVariables false
section
namespace Go.Proofs.Ytdgmlfpikgjnlaa
open Go.RowKit
set_option maxRecDepth 100000
set_option maxHeartbeats 2000000
def fewB (g : GrS) : Bool := decide (g.n ≤ 40 ∧ g.m ≤ 60 ∧ ∀ x ∈ g.ns, x.n ≤ 70 ∧ x.m ≤ 200)
theorem few_sm {g : GrS} (h : fewB g = true) : Sm g := by
 obtain ⟨h1, h2, h3⟩ := of_decide_eq_true h
 exact ⟨by omega, by omega, fun x hx => by have := h3 x hx; omega⟩
theorem lFew (g : GrS) (w : World) (hg : GrOk w [] g) :
  Calls Try.prog 14 [.agg g.cells.toArray].toArray w fun e w' => e = .returned (.bool (fewB g)) ∧ Only [] w w' := by
 have H := Heap.nil w
 have hnl := hg.nl
 have hnb := hg.nb
 have hmb := hg.mb
 have hbad : ∀ x ∈ g.ns, ¬ (x.n ≤ 70 ∧ x.m ≤ 200) → fewB g = false := fun x hx h => decide_eq_false fun h2 => h (h2.2.2 x hx)
 unfold GrS.cells
 by_cases h1 : g.n ≤ 40
 ·by_cases h2 : g.m ≤ 60
  ·refine k_in (N := 39) Try.func14 rfl rfl rfl ?_
   refine k_sg ?_
   refine s_box H rfl rfl ?_
   intro p1 _ H'; clear H; have H := H'; clear H'
   refine s_run rfl rfl (rab rfl) ?_
   refine k_nc ?_
   refine k_seq ?_
   refine k_sg ?_
   refine s_run rfl rfl (r_fa0 rfl fo25_0) ?_
   refine s_run rfl rfl (r_lo H 0 rfl rfl rfl ag22) ?_
   refine s_run rfl rfl (r_len rfl Try.underlying22) ?_
   refine s_run rfl rfl (r_gtrF rfl rfl (by omega)) ?_
   refine s_run rfl rfl (rmb rfl) ?_
   refine s_run rfl (g_on 8 (by kernel_rfl) rfl) (r_fa0 rfl fo25_1) ?_
   refine s_run rfl (g_on 8 (by kernel_rfl) rfl) (r_lo H 0 rfl rfl rfl ag23) ?_
   refine s_run rfl (g_on 8 (by kernel_rfl) rfl) (r_len rfl Try.underlying23) ?_
   refine s_run rfl (g_on 8 (by kernel_rfl) rfl) (r_gtrF rfl rfl (by omega)) ?_
   refine s_run rfl rfl (r_pkF (v := .bool _) rfl rfl) ?_
   refine k_nc ?_
   refine k_f rfl ?_
   refine k_skip ?_
   refine c_norm ?_
   refine k_seq ?_
   refine k_sg ?_
   refine s_run rfl rfl (rai rfl) ?_
   refine k_nc ?_
   refine k_b ?_
   refine k_loop (fun z f W => ∃ i : Nat, i ≤ g.m ∧ z = g.m - i ∧ (∀ j x, j < i → g.ns[j]? = some x → x.n ≤ 70 ∧ x.m ≤ 200) ∧ f 1 = ptr p1 ∧ f 3 = .int .i64 i ∧ Heap w [] [blk p1 [.slice g.A g.n g.c, .slice g.B g.m g.d] 25] W) g.m ⟨0, by omega, rfl, by omega, rfl, rfl, H⟩ ?_
   clear H
   rintro z f W ⟨i, hi, rfl, hall, f1, f3, H⟩
   obtain ⟨f, rfl⟩ := live2 f1 f3
   clear f1 f3
   by_cases hlt : i < g.m
   ·obtain ⟨x, hx⟩ : ∃ x, g.ns[i]? = some x := ⟨_, List.getElem?_eq_getElem (by omega)⟩
    have hxm := List.mem_of_getElem? hx
    have hxo := hg.ns.2 x hxm
    have hxn := hxo.nb
    have hxd := hxo.mb
    obtain ⟨b, o, hB, _, hrd⟩ := hg.ns.1 (by omega)
    have hc0 := hrd i x hx 0 _ rfl
    have hc1 := hrd i x hx 1 _ rfl
    rw [hB] at H
    by_cases h70 : x.n ≤ 70
    ·by_cases h200 : x.m ≤ 200
     ·refine k_seq ?_
      refine k_sg ?_
      refine s_run rfl rfl (rmi rfl) ?_
      refine s_run rfl rfl (r_fa0 rfl fo25_1) ?_
      refine s_run rfl rfl (r_lo H 0 rfl rfl rfl ag23) ?_
      refine s_run rfl rfl (r_len rfl Try.underlying23) ?_
      refine s_run rfl rfl (r_lssT rfl rfl (by omega)) ?_
      refine k_nc ?_
      refine k_t rfl ?_
      refine k_skip ?_
      refine c_norm ?_
      refine k_seq ?_
      refine k_b ?_
      refine k_sg ?_
      refine s_run rfl rfl (r_fa0 rfl fo25_1) ?_
      refine s_run rfl rfl (r_lo H 0 rfl rfl rfl ag23) ?_
      refine s_run rfl rfl (rmi rfl) ?_
      refine s_run rfl rfl (r_ix (i := i) rfl rfl (by omega) (by omega) Try.underlying23 sz39) ?_
      refine s_run rfl rfl (r_fa rfl fo39_0) ?_
      refine s_run rfl rfl (r_lr H rfl hc0 (by simp) ag22) ?_
      refine s_run rfl rfl (r_len rfl Try.underlying22) ?_
      refine s_run rfl rfl (r_gtrF rfl rfl (by omega)) ?_
      refine s_run rfl rfl (rmb rfl) ?_
      refine s_run rfl (g_on 29 (by kernel_rfl) rfl) (r_fa0 rfl fo25_1) ?_
      refine s_run rfl (g_on 29 (by kernel_rfl) rfl) (r_lo H 0 rfl rfl rfl ag23) ?_
      refine s_run rfl (g_on 29 (by kernel_rfl) rfl) (rmi rfl) ?_
      refine s_run rfl (g_on 29 (by kernel_rfl) rfl) (r_ix (i := i) rfl rfl (by omega) (by omega) Try.underlying23 sz39) ?_
      refine s_run rfl (g_on 29 (by kernel_rfl) rfl) (r_fa rfl fo39_1) ?_
      refine s_run rfl (g_on 29 (by kernel_rfl) rfl) (r_lr H rfl hc1 (by simp) ag37) ?_
      refine s_run rfl (g_on 29 (by kernel_rfl) rfl) (r_len rfl Try.underlying37) ?_
      refine s_run rfl (g_on 29 (by kernel_rfl) rfl) (r_gtrF rfl rfl (by omega)) ?_
      refine s_run rfl rfl (r_pkF (v := .bool _) rfl rfl) ?_
      refine k_nc ?_
      refine k_f rfl ?_
      refine k_skip ?_
      refine b_norm ?_
      refine c_norm ?_
      refine k_rg ?_
      refine s_run rfl rfl (rmi rfl) ?_
      refine s_run rfl rfl (r_add rfl rfl (wI (by omega))) ?_
      refine s_run rfl rfl (rai rfl) ?_
      refine k_nil ?_
      refine c_round ?_
      rw [← hB] at H
      refine ⟨_, _, ?_, rfl, i + 1, by omega, rfl, fun j y hj hy => ?_, rfl, rfl, H⟩
      ·omega
      ·by_cases e : j = i
       ·subst e; rw [hx] at hy; injection hy with hy; subst hy; exact ⟨h70, h200⟩
       ·exact hall j y (by omega) hy
     ·rw [hbad x hxm (fun h => h200 h.2)]
      refine k_seq ?_
      refine k_sg ?_
      refine s_run rfl rfl (rmi rfl) ?_
      refine s_run rfl rfl (r_fa0 rfl fo25_1) ?_
      refine s_run rfl rfl (r_lo H 0 rfl rfl rfl ag23) ?_
      refine s_run rfl rfl (r_len rfl Try.underlying23) ?_
      refine s_run rfl rfl (r_lssT rfl rfl (by omega)) ?_
      refine k_nc ?_
      refine k_t rfl ?_
      refine k_skip ?_
      refine c_norm ?_
      refine k_seq ?_
      refine k_b ?_
      refine k_sg ?_
      refine s_run rfl rfl (r_fa0 rfl fo25_1) ?_
      refine s_run rfl rfl (r_lo H 0 rfl rfl rfl ag23) ?_
      refine s_run rfl rfl (rmi rfl) ?_
      refine s_run rfl rfl (r_ix (i := i) rfl rfl (by omega) (by omega) Try.underlying23 sz39) ?_
      refine s_run rfl rfl (r_fa rfl fo39_0) ?_
      refine s_run rfl rfl (r_lr H rfl hc0 (by simp) ag22) ?_
      refine s_run rfl rfl (r_len rfl Try.underlying22) ?_
      refine s_run rfl rfl (r_gtrF rfl rfl (by omega)) ?_
      refine s_run rfl rfl (rmb rfl) ?_
      refine s_run rfl (g_on 29 (by kernel_rfl) rfl) (r_fa0 rfl fo25_1) ?_
      refine s_run rfl (g_on 29 (by kernel_rfl) rfl) (r_lo H 0 rfl rfl rfl ag23) ?_
      refine s_run rfl (g_on 29 (by kernel_rfl) rfl) (rmi rfl) ?_
      refine s_run rfl (g_on 29 (by kernel_rfl) rfl) (r_ix (i := i) rfl rfl (by omega) (by omega) Try.underlying23 sz39) ?_
      refine s_run rfl (g_on 29 (by kernel_rfl) rfl) (r_fa rfl fo39_1) ?_
      refine s_run rfl (g_on 29 (by kernel_rfl) rfl) (r_lr H rfl hc1 (by simp) ag37) ?_
      refine s_run rfl (g_on 29 (by kernel_rfl) rfl) (r_len rfl Try.underlying37) ?_
      refine s_run rfl (g_on 29 (by kernel_rfl) rfl) (r_gtrT rfl rfl (by omega)) ?_
      refine s_run rfl rfl (r_pkF (v := .bool _) rfl rfl) ?_
      refine k_nc ?_
      refine k_t rfl ?_
      refine k_sg ?_
      refine s_run rfl rfl (rab rfl) ?_
      refine k_nc ?_
      refine k_ret ?_
      refine b_ret ?_
      refine c_ret ?_
      refine c_ret ?_
      refine b_ret ?_
      refine c_ret ?_
      refine fin1r (v := .bool _) rfl rfl ?_
      exact ⟨rfl, H.only⟩
    ·rw [hbad x hxm (fun h => h70 h.1)]
     refine k_seq ?_
     refine k_sg ?_
     refine s_run rfl rfl (rmi rfl) ?_
     refine s_run rfl rfl (r_fa0 rfl fo25_1) ?_
     refine s_run rfl rfl (r_lo H 0 rfl rfl rfl ag23) ?_
     refine s_run rfl rfl (r_len rfl Try.underlying23) ?_
     refine s_run rfl rfl (r_lssT rfl rfl (by omega)) ?_
     refine k_nc ?_
     refine k_t rfl ?_
     refine k_skip ?_
     refine c_norm ?_
     refine k_seq ?_
     refine k_b ?_
     refine k_sg ?_
     refine s_run rfl rfl (r_fa0 rfl fo25_1) ?_
     refine s_run rfl rfl (r_lo H 0 rfl rfl rfl ag23) ?_
     refine s_run rfl rfl (rmi rfl) ?_
     refine s_run rfl rfl (r_ix (i := i) rfl rfl (by omega) (by omega) Try.underlying23 sz39) ?_
     refine s_run rfl rfl (r_fa rfl fo39_0) ?_
     refine s_run rfl rfl (r_lr H rfl hc0 (by simp) ag22) ?_
     refine s_run rfl rfl (r_len rfl Try.underlying22) ?_
     refine s_run rfl rfl (r_gtrT rfl rfl (by omega)) ?_
     refine s_run rfl rfl (rmb rfl) ?_
     refine s_off rfl (g_off 29 (by kernel_rfl) rfl rfl) ?_
     refine s_off rfl (g_off 29 (by kernel_rfl) rfl rfl) ?_
     refine s_off rfl (g_off 29 (by kernel_rfl) rfl rfl) ?_
     refine s_off rfl (g_off 29 (by kernel_rfl) rfl rfl) ?_
     refine s_off rfl (g_off 29 (by kernel_rfl) rfl rfl) ?_
     refine s_off rfl (g_off 29 (by kernel_rfl) rfl rfl) ?_
     refine s_off rfl (g_off 29 (by kernel_rfl) rfl rfl) ?_
     refine s_off rfl (g_off 29 (by kernel_rfl) rfl rfl) ?_
     refine s_run rfl rfl (r_pkT (v := .bool _) rfl rfl) ?_
     refine k_nc ?_
     refine k_t rfl ?_
     refine k_sg ?_
     refine s_run rfl rfl (rab rfl) ?_
     refine k_nc ?_
     refine k_ret ?_
     refine b_ret ?_
     refine c_ret ?_
     refine c_ret ?_
     refine b_ret ?_
     refine c_ret ?_
     refine fin1r (v := .bool _) rfl rfl ?_
     exact ⟨rfl, H.only⟩
   ·obtain rfl : i = g.m := by omega
    rw [show fewB g = true from decide_eq_true ⟨h1, h2, fun x hx => by
     obtain ⟨j, hj, rfl⟩ := List.mem_iff_getElem.1 hx
     exact hall j _ (by omega) (List.getElem?_eq_getElem hj)⟩]
    refine k_seq ?_
    refine k_sg ?_
    refine s_run rfl rfl (rmi rfl) ?_
    refine s_run rfl rfl (r_fa0 rfl fo25_1) ?_
    refine s_run rfl rfl (r_lo H 0 rfl rfl rfl ag23) ?_
    refine s_run rfl rfl (r_len rfl Try.underlying23) ?_
    refine s_run rfl rfl (r_lssF rfl rfl (by omega)) ?_
    refine k_nc ?_
    refine k_f rfl ?_
    refine k_exit ?_
    refine c_exit ?_
    refine c_exit ?_
    refine b_hit ?_
    refine c_norm ?_
    refine k_sg ?_
    refine s_run rfl rfl (rab rfl) ?_
    refine k_nc ?_
    refine k_ret ?_
    refine fin1r (v := .bool _) rfl rfl ?_
    exact ⟨rfl, H.only⟩
  ·rw [show fewB g = false from decide_eq_false fun h => h2 h.2.1]
   refine k_in (N := 39) Try.func14 rfl rfl rfl ?_
   refine k_sg ?_
   refine s_box H rfl rfl ?_
   intro p1 _ H'; clear H; have H := H'; clear H'
   refine s_run rfl rfl (rab rfl) ?_
   refine k_nc ?_
   refine k_seq ?_
   refine k_sg ?_
   refine s_run rfl rfl (r_fa0 rfl fo25_0) ?_
   refine s_run rfl rfl (r_lo H 0 rfl rfl rfl ag22) ?_
   refine s_run rfl rfl (r_len rfl Try.underlying22) ?_
   refine s_run rfl rfl (r_gtrF rfl rfl (by omega)) ?_
   refine s_run rfl rfl (rmb rfl) ?_
   refine s_run rfl (g_on 8 (by kernel_rfl) rfl) (r_fa0 rfl fo25_1) ?_
   refine s_run rfl (g_on 8 (by kernel_rfl) rfl) (r_lo H 0 rfl rfl rfl ag23) ?_
   refine s_run rfl (g_on 8 (by kernel_rfl) rfl) (r_len rfl Try.underlying23) ?_
   refine s_run rfl (g_on 8 (by kernel_rfl) rfl) (r_gtrT rfl rfl (by omega)) ?_
   refine s_run rfl rfl (r_pkF (v := .bool _) rfl rfl) ?_
   refine k_nc ?_
   refine k_t rfl ?_
   refine k_sg ?_
   refine s_run rfl rfl (rab rfl) ?_
   refine k_nc ?_
   refine k_ret ?_
   refine c_ret ?_
   refine fin1r (v := .bool _) rfl rfl ?_
   exact ⟨rfl, H.only⟩
 ·rw [show fewB g = false from decide_eq_false fun h => h1 h.1]
  refine k_in (N := 39) Try.func14 rfl rfl rfl ?_
  refine k_sg ?_
  refine s_box H rfl rfl ?_
  intro p1 _ H'; clear H; have H := H'; clear H'
  refine s_run rfl rfl (rab rfl) ?_
  refine k_nc ?_
  refine k_seq ?_
  refine k_sg ?_
  refine s_run rfl rfl (r_fa0 rfl fo25_0) ?_
  refine s_run rfl rfl (r_lo H 0 rfl rfl rfl ag22) ?_
  refine s_run rfl rfl (r_len rfl Try.underlying22) ?_
  refine s_run rfl rfl (r_gtrT rfl rfl (by omega)) ?_
  refine s_run rfl rfl (rmb rfl) ?_
  refine s_off rfl (g_off 8 (by kernel_rfl) rfl rfl) ?_
  refine s_off rfl (g_off 8 (by kernel_rfl) rfl rfl) ?_
  refine s_off rfl (g_off 8 (by kernel_rfl) rfl rfl) ?_
  refine s_off rfl (g_off 8 (by kernel_rfl) rfl rfl) ?_
  refine s_run rfl rfl (r_pkT (v := .bool _) rfl rfl) ?_
  refine k_nc ?_
  refine k_t rfl ?_
  refine k_sg ?_
  refine s_run rfl rfl (rab rfl) ?_
  refine k_nc ?_
  refine k_ret ?_
  refine c_ret ?_
  refine fin1r (v := .bool _) rfl rfl ?_
  exact ⟨rfl, H.only⟩
/-- the document's graph: the same rows, in a row of nodes of its own -/
def refG (g : GrS) (NA : Option Addr) (cN : Nat) : GrS := ⟨g.A, g.n, g.c, g.rs, NA, g.m, cN, g.ns⟩
theorem ref_ok {g : GrS} {w W : World} {F : List Nat} {L : List Ent} {NA : Option Addr} {cN : Nat} {T : TypeId} (hg2 : GrOk W [] g) (H : Heap w F L W) (j : Nat) (hj : L[j]? = some (ownN 2 (.slice NA g.m cN) g.m ((flatN g.ns).map C1.v) T)) : GrOk W [] (refG g NA cN) := by
 refine ⟨hg2.rs, hg2.rl, hg2.rb, ⟨fun h0 => ?_, hg2.ns.2⟩, hg2.nl, hg2.nb, hg2.mb⟩
 have h0' : g.ns.length ≠ 0 := h0
 obtain ⟨b, e, _, hr⟩ := H.own_seesN j hj (by rw [flatN_len]; omega)
 refine ⟨b, 0, e, by simp, fun i x hi j u hj => ?_⟩
 obtain ⟨g1, g2⟩ := flatN_get g.ns i x hi
 have hj2 : j < 2 := by have := (List.getElem?_eq_some_iff.1 hj).1; exact this
 rw [show 0 + i * 2 + j = 0 + (i * 2 + j) by omega]
 match j, hj2, hj with
 | 0, _, hj => exact (hr _ _ g1).trans (by simpa [NodeS.cells, C1.v] using hj)
 | 1, _, hj => exact (hr _ _ g2).trans (by simpa [NodeS.cells, C1.v] using hj)
theorem ref_sm {g : GrS} (h : Sm g) (NA : Option Addr) (cN : Nat) : Sm (refG g NA cN) := ⟨h.n, h.m, h.p⟩
theorem lRefE (g : GrS) (w : World) (hg : GrOk w [] g) (hs : Sm g) :
  Calls Try.prog 15 [.agg g.cells.toArray].toArray w fun e w' => ∃ NA cN, e = .returned (.agg (refG g NA cN).cells.toArray) ∧ Heap w [] [ownN 2 (.slice NA g.m cN) g.m ((flatN g.ns).map C1.v) 40] w' := by
 have H := Heap.nil w
 have hnl := hg.nl
 have hm := hs.m
 unfold refG GrS.cells
 refine k_in (N := 34) Try.func15 rfl rfl rfl ?_
 refine k_sg ?_
 refine s_box H rfl rfl ?_
 intro p1 _ H'; clear H; have H := H'; clear H'
 refine s_al H rfl inf30 ?_
 intro p2 _ H'; clear H; have H := H'; clear H'
 refine k_nc ?_
 refine k_sg ?_
 refine s_run rfl rfl (r_fa0 rfl fo25_0) ?_
 refine s_run rfl rfl (r_lo H 1 rfl rfl rfl ag22) ?_
 refine s_run rfl rfl (r_bd (bd30_0 _ _ _) rfl) ?_
 refine s_al H rfl inf30 ?_
 intro p3 _ H'; clear H; have H := H'; clear H'
 refine s_sw H 0 rfl rfl rfl rfl rfl rfl rfl sz30 ?_
 clear H; intro _ H; simp only [jA, jB, jC, jD, jE, jF, jG, jH, jI, jJ, jK, Nat.reduceAdd] at H
 refine k_nc ?_
 refine k_seq ?_
 refine k_sg ?_
 refine s_run rfl rfl (rai rfl) ?_
 refine k_nc ?_
 refine k_b ?_
 replace H := H.own_nil 2 40
 replace H := H.order [1, 0, 2, 3] rfl rfl
 refine k_loop (fun z f W => ∃ (i : Nat) (NA : Option Addr) (cN : Nat), i ≤ g.m ∧ z = g.m - i ∧ f 1 = ptr p1 ∧ f 2 = ptr p2 ∧ f 3 = ptr p3 ∧ f 4 = .int .i64 i ∧ Heap w [] [blk p3 [.slice g.A g.n g.c, .slice NA i cN] 30, ownN 2 (.slice NA i cN) i ((flatN (g.ns.take i)).map C1.v) 40, blk p2 [.slice none 0 0, .slice none 0 0] 30, blk p1 [.slice g.A g.n g.c, .slice g.B g.m g.d] 25] W) g.m ⟨0, none, 0, by omega, rfl, rfl, rfl, rfl, rfl, H⟩ ?_
 clear H
 rintro z f W ⟨i, NA, cN, hi, rfl, f1, f2, f3, f4, H⟩
 obtain ⟨f, rfl⟩ := live4 f1 f2 f3 f4
 clear f1 f2 f3 f4
 by_cases hlt : i < g.m
 ·obtain ⟨x, hx⟩ : ∃ x, g.ns[i]? = some x := ⟨_, List.getElem?_eq_getElem (by omega)⟩
  have hxm := List.mem_of_getElem? hx
  obtain ⟨b, o, hB, _, hrd⟩ := hg.ns.1 (by omega)
  have hc0 := hrd i x hx 0 _ rfl
  have hc1 := hrd i x hx 1 _ rfl
  have hfl : flatN (g.ns.take (i + 1)) = flatN (g.ns.take i) ++ [C1.s x.A x.n x.c, C1.s x.B x.m x.d] := by
   rw [List.take_add_one, hx, Option.toList_some, flatN_snoc]
  rw [hB] at H
  refine k_seq ?_
  refine k_sg ?_
  refine s_run rfl rfl (rmi rfl) ?_
  refine s_run rfl rfl (r_fa0 rfl fo25_1) ?_
  refine s_run rfl rfl (r_lo H 3 rfl rfl rfl ag23) ?_
  refine s_run rfl rfl (r_len rfl Try.underlying23) ?_
  refine s_run rfl rfl (r_lssT rfl rfl (by omega)) ?_
  refine k_nc ?_
  refine k_t rfl ?_
  refine k_skip ?_
  refine c_norm ?_
  refine k_seq ?_
  refine k_b ?_
  refine k_trS (A := [_]) mixed H [3] rfl ?_; have H' := H.drew; clear H; have H := H'; clear H'
  refine tqh 0 rfl rfl rfl (fun _ hS => r_fa0 rfl fo30_1) (H.subl [3] rfl rfl) ?_
  refine tqh 2 rfl rfl rfl (fun _ hS => r_fa0 rfl fo25_1) (H.subl [3] rfl rfl) ?_
  refine tqh 3 rfl rfl rfl (fun _ hS => r_lo hS 0 rfl rfl rfl ag23) (H.subl [3] rfl rfl) ?_
  refine tqh 4 rfl rfl rfl (fun _ hS => r_mv (v := .int _ _) rfl) (H.subl [3] rfl rfl) ?_
  refine tqh 5 rfl rfl rfl (fun _ hS => r_ix (i := i) rfl rfl (by omega) (by omega) Try.underlying23 sz39) (H.subl [3] rfl rfl) ?_
  refine tqh 6 rfl rfl rfl (fun _ hS => r_fa rfl fo39_0) (H.subl [3] rfl rfl) ?_
  refine tqh 7 rfl rfl rfl (fun _ hS => r_lr hS rfl hc0 (by simp) ag22) (H.subl [3] rfl rfl) ?_
  refine tqh 8 rfl rfl rfl (fun _ hS => r_fa0 rfl fo25_1) (H.subl [3] rfl rfl) ?_
  refine tqh 9 rfl rfl rfl (fun _ hS => r_lo hS 0 rfl rfl rfl ag23) (H.subl [3] rfl rfl) ?_
  refine tqh 10 rfl rfl rfl (fun _ hS => r_mv (v := .int _ _) rfl) (H.subl [3] rfl rfl) ?_
  refine tqh 11 rfl rfl rfl (fun _ hS => r_ix (i := i) rfl rfl (by omega) (by omega) Try.underlying23 sz39) (H.subl [3] rfl rfl) ?_
  refine tqh 12 rfl rfl rfl (fun _ hS => r_fa rfl fo39_1) (H.subl [3] rfl rfl) ?_
  refine tqh 13 rfl rfl rfl (fun _ hS => r_lr hS rfl hc1 (by simp) ag37) (H.subl [3] rfl rfl) ?_
  refine tqh 14 rfl rfl rfl (fun _ hS => r_bd (bd40_0_1 _ _ _ _ _ _) rfl) (H.subl [3] rfl rfl) ?_
  refine t_up2 1 15 (by kernel_rfl) ?_ ?_
  ·refine up_mk rfl ?_
   refine s_run rfl rfl (r_lo H 0 rfl rfl rfl ag28) ?_
   refine k_nil ?_
   refine t_on (H.subl [3] rfl rfl) ?_
   refine t_up1 15 (by kernel_rfl) ?_
   refine up_mk rfl ?_
   refine s_bsN (enc := C1.v) (size := 2) (zs := [C1.s x.A x.n x.c, C1.s x.B x.m x.d]) H rfl rfl rfl (by omega) (by kernel_rfl) Try.underlying28 inf40 ?_
   intro _ _ H'; clear H; have H := H'; clear H'
   refine k_nil ?_
   refine t_on (H.subl [4] rfl rfl) ?_
   refine t_up1 16 (by kernel_rfl) ?_
   refine up_mk rfl ?_
   refine s_apB (enc := C1.v) (size := 2) H 1 rfl rfl rfl rfl C1.one (by omega) (by omega) Try.underlying28 inf40 rfl ?_
   intro NA' cN' _ H'; simp only [List.set_cons_zero, List.set_cons_succ, List.take_succ_cons, List.take_zero, List.drop_succ_cons, List.drop_zero, List.cons_append, List.nil_append, List.append_nil, List.length_cons, List.length_nil, Nat.reduceAdd] at H'; clear H; have H := H'; clear H'
   refine k_nil ?_
   refine t_on (H.subl [3] rfl rfl) ?_
   refine tqh 17 rfl rfl rfl (fun _ hS => r_fa0 rfl fo30_1) (H.subl [3] rfl rfl) ?_
   refine t_up1 18 (by kernel_rfl) ?_
   refine up_mk rfl ?_
   refine s_st (u := .slice _ _ _) H 0 rfl rfl rfl rfl rfl rfl sz28 ?_
   clear H; intro _ H; simp only [jA, jB, jC, jD, jE, jF, jG, jH, jI, jJ, jK, Nat.reduceAdd] at H
   refine k_nil ?_
   refine t_on (H.subl [3] rfl rfl) ?_
   refine t_done (by kernel_rfl) ?_
   refine b_norm ?_
   refine c_norm ?_
   refine k_rg ?_
   refine s_run rfl rfl (rmi rfl) ?_
   refine s_run rfl rfl (r_add rfl rfl (wI (by omega))) ?_
   refine s_run rfl rfl (rai rfl) ?_
   refine k_nil ?_
   refine c_round ?_
   refine ⟨_, _, ?_, rfl, i + 1, NA', cN', by omega, rfl, rfl, rfl, rfl, rfl, by rw [hfl, hB]; exact H⟩
   omega
  ·refine up_mk rfl ?_
   refine s_bsN (enc := C1.v) (size := 2) (zs := [C1.s x.A x.n x.c, C1.s x.B x.m x.d]) H rfl rfl rfl (by omega) (by kernel_rfl) Try.underlying28 inf40 ?_
   intro _ _ H'; clear H; have H := H'; clear H'
   refine k_nil ?_
   refine t_on (H.subl [4] rfl rfl) ?_
   refine t_up1 1 (by kernel_rfl) ?_
   refine up_mk rfl ?_
   refine s_run rfl rfl (r_lo H 1 rfl rfl rfl ag28) ?_
   refine k_nil ?_
   refine t_on (H.subl [4] rfl rfl) ?_
   refine t_up1 16 (by kernel_rfl) ?_
   refine up_mk rfl ?_
   refine s_apB (enc := C1.v) (size := 2) H 1 rfl rfl rfl rfl C1.one (by omega) (by omega) Try.underlying28 inf40 rfl ?_
   intro NA' cN' _ H'; simp only [List.set_cons_zero, List.set_cons_succ, List.take_succ_cons, List.take_zero, List.drop_succ_cons, List.drop_zero, List.cons_append, List.nil_append, List.append_nil, List.length_cons, List.length_nil, Nat.reduceAdd] at H'; clear H; have H := H'; clear H'
   refine k_nil ?_
   refine t_on (H.subl [3] rfl rfl) ?_
   refine tqh 17 rfl rfl rfl (fun _ hS => r_fa0 rfl fo30_1) (H.subl [3] rfl rfl) ?_
   refine t_up1 18 (by kernel_rfl) ?_
   refine up_mk rfl ?_
   refine s_st (u := .slice _ _ _) H 0 rfl rfl rfl rfl rfl rfl sz28 ?_
   clear H; intro _ H; simp only [jA, jB, jC, jD, jE, jF, jG, jH, jI, jJ, jK, Nat.reduceAdd] at H
   refine k_nil ?_
   refine t_on (H.subl [3] rfl rfl) ?_
   refine t_done (by kernel_rfl) ?_
   refine b_norm ?_
   refine c_norm ?_
   refine k_rg ?_
   refine s_run rfl rfl (rmi rfl) ?_
   refine s_run rfl rfl (r_add rfl rfl (wI (by omega))) ?_
   refine s_run rfl rfl (rai rfl) ?_
   refine k_nil ?_
   refine c_round ?_
   refine ⟨_, _, ?_, rfl, i + 1, NA', cN', by omega, rfl, rfl, rfl, rfl, rfl, by rw [hfl, hB]; exact H⟩
   omega
 ·obtain rfl : i = g.m := by omega
  have et : g.ns.take g.m = g.ns := by rw [← hnl]; exact List.take_length
  rw [et] at H
  refine k_seq ?_
  refine k_sg ?_
  refine s_run rfl rfl (rmi rfl) ?_
  refine s_run rfl rfl (r_fa0 rfl fo25_1) ?_
  refine s_run rfl rfl (r_lo H 3 rfl rfl rfl ag23) ?_
  refine s_run rfl rfl (r_len rfl Try.underlying23) ?_
  refine s_run rfl rfl (r_lssF rfl rfl (by omega)) ?_
  refine k_nc ?_
  refine k_f rfl ?_
  refine k_exit ?_
  refine c_exit ?_
  refine c_exit ?_
  refine b_hit ?_
  refine c_norm ?_
  refine k_sg ?_
  refine s_run rfl rfl (r_la H 0 rfl rfl rfl ag30 sz30) ?_
  refine s_sw H 2 rfl rfl rfl rfl rfl rfl rfl sz30 ?_
  clear H; intro _ H; simp only [jA, jB, jC, jD, jE, jF, jG, jH, jI, jJ, jK, Nat.reduceAdd] at H
  refine k_nc ?_
  refine k_ret ?_
  refine fx1r rfl (rv_a H 2 rfl rfl rfl ag30 sz30) ?_
  exact ⟨NA, cN, rfl, (H.order [1, 0, 2, 3] rfl rfl : Heap w [] ([_] ++ [_, _, _]) _).drops⟩
end Go.Proofs.Ytdgmlfpikgjnlaa
end

section
namespace Go.Proofs.Ytdgmlfpikgjnlaa
open Go.RowKit
set_option maxRecDepth 100000
set_option maxHeartbeats 2000000
def exG (b4 b6 b8 : Nat) : GrS := ⟨some ⟨b4, 0, none⟩, 1, 1, [1], some ⟨b8, 0, none⟩, 2, 2, [⟨none, 0, 0, [], none, 0, 0, []⟩, ⟨some ⟨b6, 0, none⟩, 1, 1, [0], none, 0, 0, []⟩]⟩
theorem exG_right (b4 b6 b8 : Nat) : rightB (exG b4 b6 b8) = true := by
 unfold rightB exG okN okP
 simp
theorem exG_ord (b4 b6 b8 : Nat) (out : List Int) (h : Gr.IsOrd (Gr.ptr (exG b4 b6 b8).nodes) (exG b4 b6 b8).rs out) : out = [1, 0] :=
 h.same ⟨2, rfl⟩
theorem awake38 (w : World) : Calls Try.prog 13 [].toArray w fun e w' => e = .returned (.bool true) ∧ Only [] w w' := by
 have H := Heap.nil w
 refine k_in (N := 55) Try.func13 rfl rfl rfl ?_
 refine k_sg ?_
 refine s_run rfl rfl (rab rfl) ?_
 refine k_nc ?_
 refine k_sg ?_
 refine s_bsO (enc := (Value.int .i64)) (zs := [1]) H rfl rfl rfl (by omega) (by kernel_rfl) Try.underlying22 inf3 ?_
 intro b4 _ H'; clear H; have H := H'; clear H'
 refine s_run rfl rfl (r_bd (bd39 ) rfl) ?_
 refine s_bsO (enc := (Value.int .i64)) (zs := [0]) H rfl rfl rfl (by omega) (by kernel_rfl) Try.underlying22 inf3 ?_
 intro b6 _ H'; clear H; have H := H'; clear H'
 refine s_run rfl rfl (r_bd (bd39_0 _ _ _) rfl) ?_
 refine s_bsM (enc := C1.v) (size := 2) (zs := [C1.s none 0 0, C1.s none 0 0, C1.s (some ⟨b6, 0, none⟩) 1 1, C1.s none 0 0]) H rfl rfl rfl (by omega) (by omega) (by kernel_rfl) Try.underlying23 inf39 ?_
 intro b8 W8 H'
 clear H; have H := H'; clear H'
 refine s_run rfl rfl (r_bd (bd25_0_1 _ _ _ _ _ _) rfl) ?_
 have hok : GrOk W8 [] (exG b4 b6 b8) := by
  refine ⟨H.own_sees 2 rfl, rfl, by simp [exG], ⟨fun _ => ?_, fun x hx => ?_⟩, rfl, by simp [exG], by simp [exG]⟩
  ·obtain ⟨b, e, _, hr⟩ := H.own_seesN 0 rfl (by simp)
   injection e with e
   injection e with e _ _
   subst e
   refine ⟨b8, 0, rfl, by simp, fun i x hi j u hj => ?_⟩
   match i, j, hi, hj with
   | 0, 0, hi, hj => simp [exG] at hi; subst hi; simp [NodeS.cells] at hj; subst hj; exact hr 0 (C1.s none 0 0) rfl
   | 0, 1, hi, hj => simp [exG] at hi; subst hi; simp [NodeS.cells] at hj; subst hj; exact hr 1 (C1.s none 0 0) rfl
   | 1, 0, hi, hj => simp [exG] at hi; subst hi; simp [NodeS.cells] at hj; subst hj; exact hr 2 (C1.s (some ⟨b6, 0, none⟩) 1 1) rfl
   | 1, 1, hi, hj => simp [exG] at hi; subst hi; simp [NodeS.cells] at hj; subst hj; exact hr 3 (C1.s none 0 0) rfl
   | 0, j + 2, hi, hj => simp [exG] at hi; subst hi; simp [NodeS.cells] at hj
   | 1, j + 2, hi, hj => simp [exG] at hi; subst hi; simp [NodeS.cells] at hj
   | i + 2, j, hi, hj => simp [exG] at hi
  ·simp [exG] at hx
   rcases hx with rfl | rfl
   ·exact ⟨Sees.nil, rfl, Sees.nil, rfl, by simp, by simp, by simp [exG], by simp [exG]⟩
   ·exact ⟨H.own_sees 1 rfl, rfl, Sees.nil, rfl, by simp, by simp, by simp [exG], by simp [exG]⟩
 have hsm : Sm (exG b4 b6 b8) := ⟨by simp [exG], by simp [exG], fun x hx => by
  simp [exG] at hx
  rcases hx with rfl | rfl
  ·exact ⟨by simp [exG], by simp [exG]⟩
  ·exact ⟨by simp [exG], by simp [exG]⟩⟩
 have hC := gCanon1 (exG b4 b6 b8) W8 hok (exG_right b4 b6 b8) hsm
 refine s_call rfl (hC) (ca28 rfl) ?_
 rintro e W1 ⟨⟨g', out, rfl, kg, ho, er, en, e3, e4, _, _⟩, H'⟩
 refine ⟨_, rfl, ?_⟩
 have H := H.same H'; clear H'; have HP := H; clear H; have H := Heap.nil W1; unfold GrS.cells
 refine s_run rfl rfl (rmt rfl) ?_
 refine s_run rfl rfl (r_ext (v := .agg _) rfl rfl) ?_
 refine s_run rfl rfl (r_ext (v := .int _ _) rfl rfl) ?_
 refine s_al H rfl inf25 ?_
 intro p1 _ H'; clear H; have H := H'; clear H'
 refine s_sw H 0 rfl rfl rfl rfl rfl rfl rfl sz25 ?_
 clear H; intro _ H; simp only [jA, jB, jC, jD, jE, jF, jG, jH, jI, jJ, jK, Nat.reduceAdd] at H
 refine s_run rfl rfl (rai rfl) ?_
 refine k_nc ?_
 refine k_sg ?_
 obtain rfl := exG_ord b4 b6 b8 out ho
 have er2 : g'.rs = [0] := er.trans rfl
 have en2 : g'.nodes = [([1], []), ([], [])] := en.trans rfl
 have e32 : g'.n = 1 := e3
 have e42 : g'.m = 2 := e4
 obtain ⟨x0, hx0, hx0p⟩ : ∃ x0, g'.ns[0]? = some x0 ∧ x0.ps = [1] := by
  have h1 : g'.nodes[0]? = some ([1], []) := by rw [en2]; rfl
  unfold GrS.nodes at h1
  rw [List.getElem?_map] at h1
  cases hq : g'.ns[0]? with
  | none => rw [hq] at h1; cases h1
  | some x => rw [hq] at h1; injection h1 with h1; injection h1 with h1 _; exact ⟨x, rfl, h1⟩
 have hxo := kg.ns.2 x0 (List.mem_of_getElem? hx0)
 have hx0n : x0.n = 1 := by rw [← hxo.pl, hx0p]; rfl
 obtain ⟨rb, ro, hRA, _, hrr⟩ := kg.rs (by rw [er2]; simp)
 have hc1 := hrr 0 0 (by rw [er2]; rfl)
 obtain ⟨nb, no, hNB, _, hrn⟩ := kg.ns.1 (by have := (List.getElem?_eq_some_iff.1 hx0).1; omega)
 have hc2 := hrn 0 x0 hx0 0 _ rfl
 obtain ⟨pb, po, hPA, _, hrp⟩ := hxo.ps (by rw [hx0p]; simp)
 have hc3 := hrp 0 1 (by rw [hx0p]; rfl)
 rw [hPA, hx0n] at hc2
 rw [hRA, hNB, e32, e42] at H
 refine s_run rfl rfl (rmi rfl) ?_
 refine s_run rfl rfl (r_eqlT rfl rfl (by omega)) ?_
 refine s_run rfl rfl (rmb rfl) ?_
 refine s_run rfl (g_on 15 (by kernel_rfl) rfl) (r_fa0 rfl fo25_0) ?_
 refine s_run rfl (g_on 15 (by kernel_rfl) rfl) (r_lo H 0 rfl rfl rfl ag22) ?_
 refine s_run rfl (g_on 15 (by kernel_rfl) rfl) (r_len rfl Try.underlying22) ?_
 refine s_run rfl (g_on 15 (by kernel_rfl) rfl) (r_eqlT rfl rfl (by omega)) ?_
 refine s_run rfl rfl (r_pkT (v := .bool _) rfl rfl) ?_
 refine s_run rfl rfl (rmb rfl) ?_
 refine s_run rfl (g_on 21 (by kernel_rfl) rfl) (r_fa0 rfl fo25_0) ?_
 refine s_run rfl (g_on 21 (by kernel_rfl) rfl) (r_lo H 0 rfl rfl rfl ag22) ?_
 refine s_run rfl (g_on 21 (by kernel_rfl) rfl) (r_ix1o (i := 0) rfl rfl (by omega) (by omega) Try.underlying22 sz3) ?_
 refine s_run rfl (g_on 21 (by kernel_rfl) rfl) (r_lr H rfl hc1 (by simp) ag3) ?_
 refine s_run rfl (g_on 21 (by kernel_rfl) rfl) (r_eqlT rfl rfl (by omega)) ?_
 refine s_run rfl rfl (r_pkT (v := .bool _) rfl rfl) ?_
 refine s_run rfl rfl (rmb rfl) ?_
 refine s_run rfl (g_on 28 (by kernel_rfl) rfl) (r_fa0 rfl fo25_1) ?_
 refine s_run rfl (g_on 28 (by kernel_rfl) rfl) (r_lo H 0 rfl rfl rfl ag23) ?_
 refine s_run rfl (g_on 28 (by kernel_rfl) rfl) (r_len rfl Try.underlying23) ?_
 refine s_run rfl (g_on 28 (by kernel_rfl) rfl) (r_eqlT rfl rfl (by omega)) ?_
 refine s_run rfl rfl (r_pkT (v := .bool _) rfl rfl) ?_
 refine s_run rfl rfl (rmb rfl) ?_
 refine s_run rfl (g_on 34 (by kernel_rfl) rfl) (r_fa0 rfl fo25_1) ?_
 refine s_run rfl (g_on 34 (by kernel_rfl) rfl) (r_lo H 0 rfl rfl rfl ag23) ?_
 refine s_run rfl (g_on 34 (by kernel_rfl) rfl) (r_ix (i := 0) rfl rfl (by omega) (by omega) Try.underlying23 sz39) ?_
 refine s_run rfl (g_on 34 (by kernel_rfl) rfl) (r_fa rfl fo39_0) ?_
 refine s_run rfl (g_on 34 (by kernel_rfl) rfl) (r_lr H rfl hc2 (by simp) ag22) ?_
 refine s_run rfl (g_on 34 (by kernel_rfl) rfl) (r_len rfl Try.underlying22) ?_
 refine s_run rfl (g_on 34 (by kernel_rfl) rfl) (r_eqlT rfl rfl (by omega)) ?_
 refine s_run rfl rfl (r_pkT (v := .bool _) rfl rfl) ?_
 refine s_run rfl rfl (rmb rfl) ?_
 refine s_run rfl (g_on 43 (by kernel_rfl) rfl) (r_fa0 rfl fo25_1) ?_
 refine s_run rfl (g_on 43 (by kernel_rfl) rfl) (r_lo H 0 rfl rfl rfl ag23) ?_
 refine s_run rfl (g_on 43 (by kernel_rfl) rfl) (r_ix (i := 0) rfl rfl (by omega) (by omega) Try.underlying23 sz39) ?_
 refine s_run rfl (g_on 43 (by kernel_rfl) rfl) (r_fa rfl fo39_0) ?_
 refine s_run rfl (g_on 43 (by kernel_rfl) rfl) (r_lr H rfl hc2 (by simp) ag22) ?_
 refine s_run rfl (g_on 43 (by kernel_rfl) rfl) (r_ix1o (i := 0) rfl rfl (by omega) (by omega) Try.underlying22 sz3) ?_
 refine s_run rfl (g_on 43 (by kernel_rfl) rfl) (r_lr H rfl hc3 (by simp) ag3) ?_
 refine s_run rfl (g_on 43 (by kernel_rfl) rfl) (r_eqlT rfl rfl (by omega)) ?_
 refine s_run rfl rfl (r_pkT (v := .bool _) rfl rfl) ?_
 refine s_run rfl rfl (rmb rfl) ?_
 refine s_run rfl rfl (r_pkT (v := .bool _) rfl rfl) ?_
 refine s_run rfl rfl (rab rfl) ?_
 refine k_nc ?_
 refine k_ret ?_
 refine fin1r (v := .bool _) rfl rfl ?_
 exact ⟨rfl, HP.only.trans H.only⟩
end Go.Proofs.Ytdgmlfpikgjnlaa
end

section
namespace Go.Proofs.Ytdgmlfpikgjnlaa
section
open Go.ChangeShapes Go.WideShapes Go.Deep
variable {H : Type} {enc : TypeId × Value → H} {w : World} {base : Nat} {spare : Nat → Bool} {held : Bool}
theorem o_add {b o i : Nat} : (⟨b, o, none⟩ : Addr).add i = ⟨b, o + i, none⟩ := by
 unfold Addr.add; split
 ·subst_vars; rfl
 ·rfl
theorem o_sees {k : IntKind} {t e : TypeId} {fuel : Nat} {v : Value} {y : DataW H × List MemPlace} (ht : Try.prog.underlying t = some (.slice e)) (he : Try.prog.underlying e = some (.int k)) (hc : Try.prog.cellsOf e = 1)
  (h : DataW.trod enc Try.prog w base spare held fuel t [v] = some y) :
  ∃ A n c xs, v = .slice A n c ∧ Sees (Value.int k) w [] A xs ∧ xs.length = n ∧ n ≤ c ∧ c ≤ maxLen ∧ ∀ z ∈ xs, (Lit.int k z).wf = true := by
 rcases open_ints ht he hc h with ⟨hcs, _⟩ | ⟨x, l, c, zs, hcs, _, hl, hm, hz, _, hcell, hwf⟩
 ·injection hcs with hv _
  exact ⟨none, 0, 0, [], hv, Sees.nil, rfl, by omega, by decide, by simp⟩
 ·injection hcs with hv _
  have hzl : l ≤ zs.length := by rw [hz]; split <;> omega
  refine ⟨some x, l, c, zs.take l, hv, fun h0 => ?_, by simp; omega, hl, hm, fun z hz => hwf z (List.mem_of_mem_take hz)⟩
  obtain ⟨b, off, spot⟩ := x
  have h0' : 0 < l := by simp at h0; omega
  have hc0 := hcell 0 (by omega)
  have hspot : spot = none := by simpa [Addr.add] using World.cell?_spot hc0
  subst hspot
  refine ⟨b, off, rfl, by simp, fun j z hj => ?_⟩
  have hjl : j < l := by have := (List.getElem?_eq_some_iff.1 hj).1; simp at this; omega
  rw [List.getElem?_take_of_lt hjl] at hj
  have hc2 := hcell j (by omega)
  rw [o_add] at hc2
  rw [hc2]
  simp [List.getD, hj]
theorem o_list {α : Type} {Q : Nat → α → Prop} : ∀ n : Nat, (∀ i, i < n → ∃ x, Q i x) → ∃ l : List α, l.length = n ∧ ∀ i x, l[i]? = some x → Q i x
 | 0, _ => ⟨[], rfl, by simp⟩
 | n + 1, h => by
  obtain ⟨l, hl, hq⟩ := o_list n (fun i hi => h i (by omega))
  obtain ⟨x, hx⟩ := h n (by omega)
  refine ⟨l ++ [x], by simp [hl], fun i y hy => ?_⟩
  by_cases hi : i < l.length
  ·rw [List.getElem?_append_left hi] at hy; exact hq i y hy
  ·have hi2 : i < n + 1 := by have := (List.getElem?_eq_some_iff.1 hy).1; simp at this; omega
   obtain rfl : i = n := by omega
   rw [List.getElem?_append_right (by omega)] at hy
   simp [hl] at hy
   subst hy; exact hx
set_option maxRecDepth 100000 in
theorem o_one {t : TypeId} {fs : Array Field} (h : Try.prog.underlying t = some (.struct fs)) (h2 : (match Try.prog.underlying t with | some (.struct fs) => oneCellFields Try.prog fs | _ => false) = true) : oneCellFields Try.prog fs = true := by
 rw [h] at h2; exact h2
end
end Go.Proofs.Ytdgmlfpikgjnlaa
end

section
namespace Go.Proofs.Ytdgmlfpikgjnlaa
open Go.RowKit
structure NodeO where
 A0 : Option Addr
 n0 : Nat
 c0 : Nat
 xs0 : List Int
 A1 : Option Addr
 n1 : Nat
 c1 : Nat
 xs1 : List Int
def NodeO.cells (u : NodeO) : List Value := [.slice u.A0 u.n0 u.c0, .slice u.A1 u.n1 u.c1]
structure NodeOOk (w : World) (u : NodeO) : Prop where
 s0 : Sees (Value.int .i64) w [] u.A0 u.xs0
 l0 : u.xs0.length = u.n0
 m0 : u.n0 ≤ u.c0 ∧ u.c0 ≤ maxLen
 b0 : ∀ z ∈ u.xs0, (Lit.int .i64 z).wf = true
 s1 : Sees (Value.int .u64) w [] u.A1 u.xs1
 l1 : u.xs1.length = u.n1
 m1 : u.n1 ≤ u.c1 ∧ u.c1 ≤ maxLen
 b1 : ∀ z ∈ u.xs1, (Lit.int .u64 z).wf = true
def ScriptNodeO (w : World) (A : Option Addr) (ops : List NodeO) : Prop := (ops.length ≠ 0 → ∃ b o, A = some ⟨b, o, none⟩ ∧ ∀ i op, ops[i]? = some op → Reads (fun v : Value => v) w b (o + i * 2) op.cells) ∧ ∀ op ∈ ops, NodeOOk w op
theorem NodeOOk.later {w W : World} {u : NodeO} (h : NodeOOk w u) (hO : Only [] w W) : NodeOOk W u := ⟨h.s0.later hO (by simp), h.l0, h.m0, h.b0, h.s1.later hO (by simp), h.l1, h.m1, h.b1⟩
theorem ScriptNodeO.later {w W : World} {A : Option Addr} {ops : List NodeO} (h : ScriptNodeO w A ops) (hO : Only [] w W) : ScriptNodeO W A ops :=
 ⟨fun h0 => by
  obtain ⟨b, o, e, hr⟩ := h.1 h0
  exact ⟨b, o, e, fun i op hi => (hr i op hi).later hO (by simp)⟩, fun op hop => (h.2 op hop).later hO⟩
section
open Go.ChangeShapes Go.WideShapes Go.Deep
variable {H : Type} {enc : TypeId × Value → H} {w : World} {base : Nat} {spare : Nat → Bool} {held : Bool}
set_option maxRecDepth 100000 in
theorem open_NodeO {fuel : Nat} {cs : List Value} {y : DataW H × List MemPlace} (h : DataW.trod enc Try.prog w base spare held fuel 39 cs = some y) : ∃ op : NodeO, cs = op.cells ∧ NodeOOk w op := by
 obtain ⟨xs, n, _, _, hl, hlen, hg⟩ := DataW.trod_struct Try.underlying39 h
 have hone := o_one Try.underlying39 (by kernel_rfl)
 have hcl : cs.length = 2 := hl.trans (by kernel_rfl)
 replace hlen : xs.length = 2 := hlen
 match cs, hcl, xs, hlen with
 | [c0, c1], _, [y0, y1], _ =>
  obtain ⟨o0, k0⟩ := hone_of hone 0 _ rfl
  obtain ⟨o1, k1⟩ := hone_of hone 1 _ rfl
  have g0 := hg 0 _ rfl
  have g1 := hg 1 _ rfl
  rw [o0, k0] at g0
  rw [o1, k1] at g1
  replace g0 := g0.trans (show _ = some y0 from rfl)
  replace g1 := g1.trans (show _ = some y1 from rfl)
  obtain ⟨A0, m0, q0, bs0, e0, hs0, hb0, hmc0, hcm0, hw0⟩ := o_sees Try.underlying22 Try.underlying3 (by kernel_rfl) (show DataW.trod enc Try.prog w base spare held n 22 [c0] = some y0 from g0)
  obtain ⟨A1, m1, q1, bs1, e1, hs1, hb1, hmc1, hcm1, hw1⟩ := o_sees Try.underlying37 Try.underlying78 (by kernel_rfl) (show DataW.trod enc Try.prog w base spare held n 37 [c1] = some y1 from g1)
  subst e0
  subst e1
  exact ⟨⟨A0, m0, q0, bs0, A1, m1, q1, bs1⟩, rfl, hs0, hb0, ⟨hmc0, hcm0⟩, hw0, hs1, hb1, ⟨hmc1, hcm1⟩, hw1⟩

def NodeO.s (u : NodeO) : NodeS := ⟨u.A0, u.n0, u.c0, u.xs0, u.A1, u.n1, u.c1, u.xs1⟩
theorem NodeO.ok {W : World} {u : NodeO} (h : NodeOOk W u) : NodeOk W [] u.s := by
 refine ⟨h.s0, h.l0, h.s1, h.l1, fun p hp => bounds_i64 (h.b0 p hp), fun p hp => bounds_u64 (h.b1 p hp), ?_, ?_⟩
 ·have := h.m0; simp only [maxLen] at this; show u.n0 ≤ _; omega
 ·have := h.m1; simp only [maxLen] at this; show u.n1 ≤ _; omega
set_option maxRecDepth 100000 in
theorem open_graph (W : World) {r : Reach} (b0 : Nat) (v : Value) (d : DataW H) (p : List MemPlace)
  (hv : Value.okWide Try.prog W r b0 25 v) (h : DataW.Trod enc Try.prog W base spare held 25 v d p) :
  ∃ g : GrS, v = .agg g.cells.toArray ∧ GrOk W [] g := by
 obtain ⟨cs, rfl, hsz⟩ := okWide_struct Try.underlying25 hv
 obtain ⟨fuel, hf⟩ := h
 obtain ⟨xs, n, _, _, hl, hlen, hg⟩ := DataW.trod_struct Try.underlying25 hf
 have hone := o_one Try.underlying25 (by kernel_rfl)
 have hl2 : cs.toList.length = 2 := hl.trans (by kernel_rfl)
 have hlen2 : xs.length = 2 := hlen
 obtain ⟨cl, rfl⟩ : ∃ cl, cs = List.toArray cl := ⟨cs.toList, by simp⟩
 simp only [List.toList_toArray] at hl2
 match cl, hl2, xs, hlen2 with
 | [c0, c1], _, [y0, y1], _ =>
  obtain ⟨o0, k0⟩ := hone_of hone 0 _ rfl
  obtain ⟨o1, k1⟩ := hone_of hone 1 _ rfl
  have g0 := hg 0 _ rfl
  have g1 := hg 1 _ rfl
  rw [o0, k0] at g0
  rw [o1, k1] at g1
  replace g0 := g0.trans (show _ = some y0 from rfl)
  replace g1 := g1.trans (show _ = some y1 from rfl)
  obtain ⟨A0, m0, q0, bs0, e0, hs0, hb0, hmc0, hcm0, hw0⟩ := o_sees Try.underlying22 Try.underlying3 (by kernel_rfl) (show DataW.trod enc Try.prog W base spare held n 22 [c0] = some y0 from g0)
  subst e0
  have g1' : DataW.trod enc Try.prog W base spare held n 23 [c1] = some y1 := g1
  have c2 : Try.prog.cellsOf 39 = 2 := by kernel_rfl
  have hm0 : m0 ≤ 9223372036854775807 := by simp only [maxLen] at hcm0; omega
  rcases open_slice Try.underlying23 g1' with ⟨hcs, _⟩ | ⟨x, len, cap, m, n2, D, Pl, hcs, _, hl3, hm, hmm, _, hx⟩
  ·injection hcs with hcs _
   subst hcs
   exact ⟨⟨A0, m0, q0, bs0, none, 0, 0, []⟩, rfl, ⟨hs0, hb0, fun p hp => bounds_i64 (hw0 p hp), ⟨fun h => absurd rfl h, by simp⟩, rfl, hm0, by show (0 : Nat) ≤ _; omega⟩⟩
  ·injection hcs with hcs _
   subst hcs
   rw [c2] at hx
   have hlm : len ≤ m := by rw [hmm]; split <;> omega
   obtain ⟨ops, hol, hq⟩ := o_list (Q := fun i (op : NodeO) => NodeOOk W op ∧ ∀ j u, op.cells[j]? = some u → W.cell? (x.add (i * 2 + j)) = some u) len (fun i hi => by
    obtain ⟨cs', hc, ht⟩ := hx i (by omega)
    obtain ⟨op, rfl, hok⟩ := open_NodeO ht
    obtain ⟨_, hcl, hat⟩ := World.cells?_some hc
    refine ⟨op, hok, fun j u hj => ?_⟩
    have hj5 : j < 2 := by have := (List.getElem?_eq_some_iff.1 hj).1; rw [hcl] at this; exact this
    rw [← Go.Deep.add_add, hat j hj5, hj])
   refine ⟨⟨A0, m0, q0, bs0, some x, len, cap, ops.map NodeO.s⟩, rfl, ⟨hs0, hb0, fun p hp => bounds_i64 (hw0 p hp), ⟨fun h0 => ?_, fun z hz => ?_⟩, by simp [hol], hm0, by simp only [maxLen] at hm; show len ≤ _; omega⟩⟩
   ·have h00 : ops.length ≠ 0 := by simpa using h0
    obtain ⟨op0, hop0⟩ : ∃ op, ops[0]? = some op := ⟨_, List.getElem?_eq_getElem (by omega)⟩
    obtain ⟨b, off, spot⟩ := x
    have hc0 := (hq 0 op0 hop0).2 0 _ rfl
    have hspot : spot = none := by simpa [Addr.add] using World.cell?_spot hc0
    subst hspot
    refine ⟨b, off, rfl, by simp, fun i z hz j u hj => ?_⟩
    have hz' : (ops.map NodeO.s)[i]? = some z := hz
    rw [List.getElem?_map] at hz'
    cases hoi : ops[i]? with
    | none => rw [hoi] at hz'; cases hz'
    | some op =>
     rw [hoi] at hz'
     injection hz' with hz'
     subst hz'
     have := (hq i op hoi).2 j u hj
     rw [o_add] at this
     rw [Nat.add_assoc]; exact this
   ·have hz' : z ∈ ops.map NodeO.s := hz
    obtain ⟨op, hop, rfl⟩ := List.mem_map.1 hz'
    obtain ⟨i, hi, rfl⟩ := List.mem_iff_getElem.1 hop
    exact NodeO.ok (hq i _ (List.getElem?_eq_getElem hi)).1
end
end Go.Proofs.Ytdgmlfpikgjnlaa
end

section
namespace Go.Proofs.Ytdgmlfpikgjnlaa
open Go.RowKit
open Classical in
/-- both are right, and numbered as one comes to their nodes they are one graph -/
noncomputable def alB (a b : GrS) : Bool := decide (rightB a = true ∧ rightB b = true ∧ ∃ oa ob, Gr.IsOrd (Gr.ptr a.nodes) a.rs oa ∧ Gr.IsOrd (Gr.ptr b.nodes) b.rs ob ∧ Gr.canonR a.rs oa = Gr.canonR b.rs ob ∧ Gr.canonN a.nodes oa = Gr.canonN b.nodes ob)
theorem alB_no {a b : GrS} (h : (rightB a && rightB b) = false) : alB a b = false := by
 classical
 unfold alB
 rw [decide_eq_false_iff_not]
 rintro ⟨h1, h2, _⟩; rw [h1, h2] at h; cases h
theorem alB_yes {a b : GrS} {oa ob : List Int} (ra : rightB a = true) (rb : rightB b = true) (ha : Gr.IsOrd (Gr.ptr a.nodes) a.rs oa) (hb : Gr.IsOrd (Gr.ptr b.nodes) b.rs ob) : alB a b = decide (Gr.canonR a.rs oa = Gr.canonR b.rs ob ∧ Gr.canonN a.nodes oa = Gr.canonN b.nodes ob) := by
 classical
 unfold alB
 apply decide_eq_decide.2
 constructor
 ·rintro ⟨_, _, oa', ob', h1, h2, h3⟩
  rw [h1.same ha, h2.same hb] at h3; exact h3
 ·intro h; exact ⟨ra, rb, oa, ob, ha, hb, h⟩
theorem gAl (a b : GrS) (w : World) (ha : GrOk w [] a) (hb : GrOk w [] b) (sa : Sm a) (sb : Sm b) :
  Calls Try.prog 20 [.agg a.cells.toArray, .agg b.cells.toArray].toArray w fun e w' => e = .returned (.bool (alB a b)) ∧ Only [] w w' :=
 (gAlike a b w ha hb sa sb).mono fun e w' ⟨⟨r, he, h0, h1⟩, h⟩ => ⟨by
  rw [he]
  cases hc : rightB a && rightB b with
  | false => rw [h0 hc, alB_no hc]
  | true =>
   obtain ⟨oa, ob, hoa, hob, hr⟩ := h1 hc
   have hc' := Bool.and_eq_true_iff.1 hc
   rw [hr, alB_yes hc'.1 hc'.2 hoa hob], h⟩
end Go.Proofs.Ytdgmlfpikgjnlaa
end

section
namespace Go.Proofs.Ytdgmlfpikgjnlaa
open Go.RowKit
set_option maxRecDepth 100000
set_option maxHeartbeats 4000000
end Go.Proofs.Ytdgmlfpikgjnlaa
end

section
namespace Go.Proofs.Ytdgmlfpikgjnlaa.Gr
def Bd (a : List Int) (lo hi : Int) : Prop := ∀ v ∈ a, lo ≤ v ∧ v ≤ hi
theorem Bd.mono {a : List Int} {lo hi lo' hi' : Int} (h : Bd a lo hi) (h1 : lo' ≤ lo) (h2 : hi ≤ hi') : Bd a lo' hi' := fun v hv => by have := h v hv; omega
theorem getD_mem {a : List Int} {i : Nat} (h : i < a.length) : a.getD i 0 ∈ a := by
 rw [List.getD, List.getElem?_eq_getElem h]; exact List.getElem_mem h
theorem getD_get {a : List Int} {i : Nat} (h : i < a.length) : a[i]? = some (a.getD i 0) := by
 rw [List.getD, List.getElem?_eq_getElem h]; rfl
theorem set_get {a : List Int} {i : Nat} (h : i < a.length) (v : Int) : (a.set i v)[i]? = some v := by
 rw [List.getElem?_set, if_pos rfl, if_pos h]
theorem Bd.set {a : List Int} {lo hi : Int} (h : Bd a lo hi) (i : Nat) (v : Int) (hv : lo ≤ v ∧ v ≤ hi) : Bd (a.set i v) lo hi := fun z hz => by
 rcases List.mem_or_eq_of_mem_set hz with hz | rfl
 ·exact h z hz
 ·exact hv
theorem inc_neg {a : List Int} {p : Int} (h : p < 0) : inc a p = a := by unfold inc; rw [if_pos h]
theorem inc_at {a : List Int} (p : Nat) : inc a (p : Int) = a.set p (a.getD p 0 + 1) := by unfold inc; rw [if_neg (by omega), Int.toNat_natCast]
theorem kd_neg {s : List Int × List Int} {p : Int} (h : p < 0) : kd s p = s := by unfold kd; rw [if_pos h]
theorem kd_one {s : List Int × List Int} (p : Nat) (h : s.1.getD p 0 - 1 = 0) : kd s (p : Int) = (s.1.set p (s.1.getD p 0 - 1), s.2 ++ [(p : Int)]) := by unfold kd; rw [if_neg (by omega), Int.toNat_natCast, if_pos h]
theorem kd_two {s : List Int × List Int} (p : Nat) (h : ¬ s.1.getD p 0 - 1 = 0) : kd s (p : Int) = (s.1.set p (s.1.getD p 0 - 1), s.2) := by unfold kd; rw [if_neg (by omega), Int.toNat_natCast, if_neg h]
theorem flat_snoc {pt : Int → List Int} {l : List Int} {i : Nat} {x : Int} (h : l[i]? = some x) : flat pt (l.take (i + 1)) = flat pt (l.take i) ++ pt x := by
 unfold flat; rw [List.take_add_one, h, List.flatMap_append]; simp
theorem filter_snoc {p : Int → Bool} {l : List Int} {i : Nat} {x : Int} (h : l[i]? = some x) : (l.take (i + 1)).filter p = (l.take i).filter p ++ if p x then [x] else [] := by
 rw [List.take_add_one, h, List.filter_append]; cases hp : p x <;> simp [hp]
end Go.Proofs.Ytdgmlfpikgjnlaa.Gr
end

section
namespace Go.Proofs.Ytdgmlfpikgjnlaa
open Go.RowKit
set_option maxRecDepth 100000
set_option maxHeartbeats 4000000
theorem ord_in {g : GrS} {out : List Int} {w : World} (hg : GrOk w [] g) (hb : rightB g = true) (ho : Gr.IsOrd (Gr.ptr g.nodes) g.rs out) : ∀ x ∈ out, 0 ≤ x ∧ x < (g.m : Int) := by
 have e : g.nodes.length = g.m := by simp [GrS.nodes, hg.nl]
 have hrt : Gr.Rt g.rs g.nodes := ⟨fun r hr => by
  have := right_roots hb r hr
  unfold okP at this
  rw [e]; exact this, fun x hx p hp => by
  unfold GrS.nodes at hx
  obtain ⟨y, hy, rfl⟩ := List.mem_map.1 hx
  have := right_ptrs hb y hy p hp
  unfold okP at this
  rw [e]; exact this⟩
 intro x hx
 have := hrt.ord ho x hx
 rw [e] at this; exact this
theorem ptr_lt {g : GrS} {w : World} (hg : GrOk w [] g) (hb : rightB g = true) (x : Int) : ∀ y ∈ Gr.ptr g.nodes x, y < (g.m : Int) := by
 intro y hy
 have e : g.nodes.length = g.m := by simp [GrS.nodes, hg.nl]
 have hrt : Gr.Rt g.rs g.nodes := ⟨fun r hr => by
  have := right_roots hb r hr
  unfold okP at this
  rw [e]; exact this, fun x hx p hp => by
  unfold GrS.nodes at hx
  obtain ⟨y, hy, rfl⟩ := List.mem_map.1 hx
  have := right_ptrs hb y hy p hp
  unfold okP at this
  rw [e]; exact this⟩
 have := hrt.ptr x y hy
 rw [e] at this; exact this.2
theorem gCyclic (g : GrS) (w : World) (hg : GrOk w [] g) (hs : Sm g) :
  Calls Try.prog 24 [.agg g.cells.toArray].toArray w fun e w' => (∃ r : Bool, e = .returned (.bool r) ∧ (rightB g = false → r = false) ∧ (rightB g = true → ∃ out, Gr.IsOrd (Gr.ptr g.nodes) g.rs out ∧ (r = true ↔ ∃ x ∈ out, Gr.Reach (Gr.ptr g.nodes) (Gr.ptr g.nodes x) x))) ∧ Only [] w w' := by
 have H := Heap.nil w
 have hR := fun W (h : Only [] w W) => gRight g W (hg.later h (by simp))
 cases hb : rightB g with
 | false =>
  rw [hb] at hR
  unfold GrS.cells at *
  refine k_in (N := 109) Try.func24 rfl rfl rfl ?_
  refine k_sg ?_
  refine s_box H rfl rfl ?_
  intro p1 _ H'; clear H; have H := H'; clear H'
  refine s_run rfl rfl (rab rfl) ?_
  refine k_nc ?_
  refine k_seq ?_
  refine k_sg ?_
  refine s_run rfl rfl (r_la H 0 rfl rfl rfl ag25 sz25) ?_
  refine s_call rfl (hR _ H.only) (ca29 rfl) ?_
  rintro e W1 ⟨rfl, H'⟩
  refine ⟨_, rfl, ?_⟩
  have H := H.same H'; clear H'
  refine s_run rfl rfl (r_notF rfl) ?_
  refine k_nc ?_
  refine k_t rfl ?_
  refine k_sg ?_
  refine s_run rfl rfl (rab rfl) ?_
  refine k_nc ?_
  refine k_ret ?_
  refine c_ret ?_
  refine fin1r (v := .bool _) rfl rfl ?_
  exact ⟨⟨false, rfl, (fun _ => rfl), (fun h => by cases h)⟩, H.only⟩
 | true =>
  rw [hb] at hR
  have hO := fun W (h : Only [] w W) => gOrder g W (hg.later h (by simp)) hb hs
  have hrl := hg.rl
  have hnl := hg.nl
  have hn := hs.n
  have hm := hs.m
  unfold GrS.cells at *
  refine k_in (N := 109) Try.func24 rfl rfl rfl ?_
  refine k_sg ?_
  refine s_box H rfl rfl ?_
  intro p1 _ H'; clear H; have H := H'; clear H'
  refine s_run rfl rfl (rab rfl) ?_
  refine k_nc ?_
  refine k_seq ?_
  refine k_sg ?_
  refine s_run rfl rfl (r_la H 0 rfl rfl rfl ag25 sz25) ?_
  refine s_call rfl (hR _ H.only) (ca29 rfl) ?_
  rintro e W1 ⟨rfl, H'⟩
  refine ⟨_, rfl, ?_⟩
  have H := H.same H'; clear H'
  refine s_run rfl rfl (r_notT rfl) ?_
  refine k_nc ?_
  refine k_f rfl ?_
  refine k_skip ?_
  refine c_norm ?_
  refine k_sg ?_
  refine s_run rfl rfl (r_fa0 rfl fo25_1) ?_
  refine s_run rfl rfl (r_lo H 0 rfl rfl rfl ag23) ?_
  refine s_run rfl rfl (r_len rfl Try.underlying23) ?_
  refine s_mk (Value.int .i64) 0 (m := g.m) H rfl rfl rfl (by omega) (by omega) (by omega) Try.underlying22 inf3 rfl ?_
  intro nb _ H'; clear H; have H := H'; clear H'
  refine s_run rfl rfl (ras rfl) ?_
  refine k_nc ?_
  refine k_sg ?_
  refine s_run rfl rfl (r_la H 1 rfl rfl rfl ag25 sz25) ?_
  refine s_call rfl (hO _ H.only) (ca56 rfl) ?_
  rintro e W1 ⟨A, c, out, rfl, ho, H'⟩
  refine ⟨_, rfl, ?_⟩
  have H := H.more H'; clear H'
  refine s_run rfl rfl (ras rfl) ?_
  refine k_nc ?_
  refine k_seq ?_
  refine k_sg ?_
  refine s_run rfl rfl (rms rfl) ?_
  refine s_run rfl rfl (r_len rfl Try.underlying22) ?_
  refine s_run rfl rfl (rmi rfl) ?_
  refine k_nc ?_
  refine k_b ?_
  have hod := ho.nodup
  have hob := ord_in hg hb ho
  have hcl := ho.closed
  have hpl : ∀ x ∈ out, ∀ y ∈ Gr.ptr g.nodes x, y < (g.m : Int) := fun x _ => ptr_lt hg hb x
  have hol : out.length ≤ g.m := Gr.nodup_len g.m out hod hob
  have hz : (List.replicate g.m (0 : Int)).length = g.m ∧ Gr.Bd (List.replicate g.m (0 : Int)) 0 0 := ⟨by simp, fun v hv => by rw [(List.mem_replicate.1 hv).2]; omega⟩
  have hK := fun d => Gr.kahn hob hod hcl hpl d
  have hKS := Gr.kahn_start hob hod hpl
  generalize List.replicate g.m (0 : Int) = num0 at *
  refine k_loop (fun z f W => ∃ (i : Nat) (inn : List Int), i ≤ out.length ∧ z = out.length - i ∧ inn = (Gr.flat (Gr.ptr g.nodes) (out.take i)).foldl Gr.inc num0 ∧ inn.length = g.m ∧ Gr.Bd inn 0 ((i * 1000 : Nat) : Int) ∧ f 1 = ptr p1 ∧ f 3 = .slice (some ⟨nb, 0, none⟩) g.m g.m ∧ f 4 = .slice A out.length c ∧ f 24 = .slice A out.length c ∧ f 25 = .int .i64 out.length ∧ f 26 = .int .i64 i ∧ Heap w [] [ownN 1 (.slice A out.length c) out.length (out.map (Value.int .i64)) 3, vec (Value.int .i64) nb inn 3, blk p1 [.slice g.A g.n g.c, .slice g.B g.m g.d] 25] W) out.length ⟨0, num0, by omega, rfl, rfl, hz.1, hz.2, rfl, rfl, rfl, rfl, rfl, rfl, H⟩ ?_
  clear H hz
  rintro z f W ⟨i, inn, hi, rfl, hinn, hil, hbd, f1, f3, f4, f24, f25, f26, H⟩
  by_cases hlt : i < out.length
  ·obtain ⟨y, hy⟩ : ∃ y, out[i]? = some y := ⟨_, List.getElem?_eq_getElem hlt⟩
   have hyb := hob y (List.mem_of_getElem? hy)
   obtain ⟨x', rfl⟩ := Int.eq_ofNat_of_zero_le hyb.1
   obtain ⟨x, hx⟩ : ∃ x, g.ns[x']? = some x := ⟨_, List.getElem?_eq_getElem (by omega)⟩
   have hxm := List.mem_of_getElem? hx
   obtain ⟨b, o, hB, _, hrd⟩ := hg.ns.1 (by omega)
   have hc0 := hrd x' x hx 0 _ rfl
   have hxo := hg.ns.2 x hxm
   have hxn := (hs.p x hxm).1
   have hxl := hxo.pl
   have hfl := Gr.flat_snoc (pt := Gr.ptr g.nodes) hy
   rw [(nodes_at hx).1] at hfl
   obtain ⟨pa, hpa⟩ := H.own_some 0 rfl (by omega)
   rw [hpa] at H f4 f24
   rw [hB] at H
   obtain ⟨f, rfl⟩ := live6 f1 f3 f4 f24 f25 f26
   clear f1 f3 f4 f24 f25 f26
   refine k_sg ?_
   refine s_run rfl rfl (r_lssT rfl rfl (by omega)) ?_
   refine k_nc ?_
   refine k_seq ?_
   refine k_t rfl ?_
   refine k_skip ?_
   refine c_norm ?_
   refine k_seq ?_
   refine k_b ?_
   refine k_sg ?_
   refine s_run rfl rfl (r_ix1 (i := i) rfl rfl (by omega) (by omega) Try.underlying22 sz3) ?_
   refine s_run rfl rfl (r_ow H 0 rfl rfl hy ag3) ?_
   refine s_run rfl rfl (rai rfl) ?_
   refine k_nc ?_
   refine k_sg ?_
   refine s_run rfl rfl (r_fa0 rfl fo25_1) ?_
   refine s_run rfl rfl (r_lo H 2 rfl rfl rfl ag23) ?_
   refine s_run rfl rfl (rmi rfl) ?_
   refine s_run rfl rfl (r_ix (i := x') rfl rfl (by omega) (by omega) Try.underlying23 sz39) ?_
   refine s_run rfl rfl (r_fa rfl fo39_0) ?_
   refine s_run rfl rfl (r_lr H rfl hc0 (by simp) ag22) ?_
   refine s_run rfl rfl (r_len rfl Try.underlying22) ?_
   refine s_run rfl rfl (rmi rfl) ?_
   refine k_nc ?_
   refine k_b ?_
   rw [← hB, ← hpa] at H
   refine k_loop (fun z f W => ∃ (j : Nat) (inn' : List Int), j ≤ x.n ∧ z = x.n - j ∧ inn' = (x.ps.take j).foldl Gr.inc inn ∧ inn'.length = g.m ∧ Gr.Bd inn' 0 ((i * 1000 + j : Nat) : Int) ∧ f 1 = ptr p1 ∧ f 3 = .slice (some ⟨nb, 0, none⟩) g.m g.m ∧ f 4 = .slice A out.length c ∧ f 24 = .slice A out.length c ∧ f 25 = .int .i64 out.length ∧ f 26 = .int .i64 i ∧ f 35 = .slice x.A x.n x.c ∧ f 36 = .int .i64 x.n ∧ f 37 = .int .i64 j ∧ Heap w [] [ownN 1 (.slice A out.length c) out.length (out.map (Value.int .i64)) 3, vec (Value.int .i64) nb inn' 3, blk p1 [.slice g.A g.n g.c, .slice g.B g.m g.d] 25] W) x.n ⟨0, inn, by omega, rfl, rfl, hil, hbd, rfl, rfl, by rw [hpa]; rfl, by rw [hpa]; rfl, rfl, rfl, rfl, rfl, rfl, H⟩ ?_
   clear H
   rintro z f W ⟨j, inn', hj, rfl, hinn', hil', hbd', f1, f3, f4, f24, f25, f26, f35, f36, f37, H⟩
   by_cases hlj : j < x.n
   ·obtain ⟨q, hq⟩ : ∃ q, x.ps[j]? = some q := ⟨_, List.getElem?_eq_getElem (by omega)⟩
    obtain ⟨b2, o2, hA2, _, hrd2⟩ := hxo.ps (by omega)
    have hcell := hrd2 j q hq
    have hok := right_ptrs hb x hxm q (List.mem_of_getElem? hq)
    unfold okP at hok
    have hstep := foldl_snoc Gr.inc inn _ _ _ hq
    rw [← hinn'] at hstep
    rw [hA2] at f35
    obtain ⟨f, rfl⟩ := lv9 f1 f3 f4 f24 f25 f26 f35 f36 f37
    clear f1 f3 f4 f24 f25 f26 f35 f36 f37
    by_cases hq0 : q < 0
    ·rw [Gr.inc_neg hq0] at hstep
     refine k_sg ?_
     refine s_run rfl rfl (r_lssT rfl rfl (by omega)) ?_
     refine k_nc ?_
     refine k_seq ?_
     refine k_t rfl ?_
     refine k_skip ?_
     refine c_norm ?_
     refine k_seq ?_
     refine k_b ?_
     refine k_sg ?_
     refine s_run rfl rfl (r_ix1o (i := j) rfl rfl (by omega) (by omega) Try.underlying22 sz3) ?_
     refine s_run rfl rfl (r_lr H rfl hcell (by simp) ag3) ?_
     refine s_run rfl rfl (rai rfl) ?_
     refine k_nc ?_
     refine k_sg ?_
     refine s_run rfl rfl (rmi rfl) ?_
     refine s_run rfl rfl (r_geqF rfl rfl (by omega)) ?_
     refine k_nc ?_
     refine k_f rfl ?_
     refine k_skip ?_
     refine b_norm ?_
     refine c_norm ?_
     refine k_rg ?_
     refine s_run rfl rfl (r_add rfl rfl (wI (by omega))) ?_
     refine s_run rfl rfl (rmi rfl) ?_
     refine k_nil ?_
     refine c_round ?_
     refine ⟨_, _, ?_, rfl, j + 1, inn', by omega, rfl, hstep.symm, hil', hbd'.mono (by omega) (by omega), rfl, rfl, rfl, rfl, rfl, rfl, by rw [hA2]; rfl, rfl, rfl, H⟩
     omega
    ·obtain ⟨q', rfl⟩ := Int.eq_ofNat_of_zero_le (Int.not_lt.1 hq0)
     rw [Gr.inc_at] at hstep
     have hget := Gr.getD_get (a := inn') (i := q') (by omega)
     have hvb := hbd' _ (Gr.getD_mem (a := inn') (i := q') (by omega))
     generalize inn'.getD q' 0 = v at *
     refine k_sg ?_
     refine s_run rfl rfl (r_lssT rfl rfl (by omega)) ?_
     refine k_nc ?_
     refine k_seq ?_
     refine k_t rfl ?_
     refine k_skip ?_
     refine c_norm ?_
     refine k_seq ?_
     refine k_b ?_
     refine k_sg ?_
     refine s_run rfl rfl (r_ix1o (i := j) rfl rfl (by omega) (by omega) Try.underlying22 sz3) ?_
     refine s_run rfl rfl (r_lr H rfl hcell (by simp) ag3) ?_
     refine s_run rfl rfl (rai rfl) ?_
     refine k_nc ?_
     refine k_sg ?_
     refine s_run rfl rfl (rmi rfl) ?_
     refine s_run rfl rfl (r_geqT rfl rfl (by omega)) ?_
     refine k_nc ?_
     refine k_t rfl ?_
     refine k_rg ?_
     refine s_run rfl rfl (rms rfl) ?_
     refine s_run rfl rfl (rmi rfl) ?_
     refine s_run rfl rfl (r_ix1 (i := q') rfl rfl (by omega) (by omega) Try.underlying22 sz3) ?_
     refine s_run rfl rfl (r_lv H 1 rfl rfl hget ag3) ?_
     refine s_run rfl rfl (r_add rfl rfl (wI (by omega))) ?_
     refine s_run rfl rfl (r_ix1 (i := q') rfl rfl (by omega) (by omega) Try.underlying22 sz3) ?_
     refine s_sv (u := .int _ _) H 1 rfl rfl rfl rfl rfl (by omega) (fun _ => rfl) sz3 ?_
     clear H; intro _ H; simp only [jA, jB, jC, jD, jE, jF, jG, jH, jI, jJ, jK, Nat.reduceAdd] at H
     refine k_nil ?_
     refine b_norm ?_
     refine c_norm ?_
     refine k_rg ?_
     refine s_run rfl rfl (r_add rfl rfl (wI (by omega))) ?_
     refine s_run rfl rfl (rmi rfl) ?_
     refine k_nil ?_
     refine c_round ?_
     refine ⟨_, _, ?_, rfl, j + 1, inn'.set q' (v + 1), by omega, rfl, hstep.symm, by rw [List.length_set]; exact hil', (hbd'.mono (by omega) (by omega)).set _ _ (by omega), rfl, rfl, rfl, rfl, rfl, rfl, by rw [hA2]; rfl, rfl, rfl, H⟩
     omega
   ·obtain rfl : j = x.n := by omega
    rw [← hxl, List.take_length] at hinn'
    obtain ⟨f, rfl⟩ := lv9 f1 f3 f4 f24 f25 f26 f35 f36 f37
    clear f1 f3 f4 f24 f25 f26 f35 f36 f37
    refine k_sg ?_
    refine s_run rfl rfl (r_lssF rfl rfl (by omega)) ?_
    refine k_nc ?_
    refine k_seq ?_
    refine k_f rfl ?_
    refine k_exit ?_
    refine c_exit ?_
    refine c_exit ?_
    refine b_hit ?_
    refine b_norm ?_
    refine c_norm ?_
    refine k_rg ?_
    refine s_run rfl rfl (r_add rfl rfl (wI (by omega))) ?_
    refine s_run rfl rfl (rmi rfl) ?_
    refine k_nil ?_
    refine c_round ?_
    refine ⟨_, _, ?_, rfl, i + 1, inn', by omega, rfl, by rw [hfl, List.foldl_append, ← hinn]; exact hinn', hil', hbd'.mono (by omega) (by omega), rfl, rfl, rfl, rfl, rfl, rfl, H⟩
    omega
  ·obtain rfl : i = out.length := by omega
   rw [List.take_length] at hinn
   rw [← hinn] at hK hKS
   obtain ⟨f, rfl⟩ := live6 f1 f3 f4 f24 f25 f26
   clear f1 f3 f4 f24 f25 f26
   refine k_sg ?_
   refine s_run rfl rfl (r_lssF rfl rfl (by omega)) ?_
   refine k_nc ?_
   refine k_seq ?_
   refine k_f rfl ?_
   refine k_exit ?_
   refine c_exit ?_
   refine c_exit ?_
   refine b_hit ?_
   refine c_norm ?_
   refine k_sg ?_
   refine s_run rfl rfl (ras rfl) ?_
   refine k_nc ?_
   refine k_seq ?_
   refine k_sg ?_
   refine s_run rfl rfl (rms rfl) ?_
   refine s_run rfl rfl (r_len rfl Try.underlying22) ?_
   refine s_run rfl rfl (rmi rfl) ?_
   refine k_nc ?_
   refine k_b ?_
   replace H := H.own_nil 1 3
   refine k_loop (fun z f W => ∃ (i : Nat) (OA : Option Addr) (co : Nat) (op : List Int), i ≤ out.length ∧ z = out.length - i ∧ op = (out.take i).filter (fun y => decide (inn.getD y.toNat 0 = 0)) ∧ f 1 = ptr p1 ∧ f 3 = .slice (some ⟨nb, 0, none⟩) g.m g.m ∧ f 4 = .slice A out.length c ∧ f 9 = .slice OA op.length co ∧ f 51 = .slice A out.length c ∧ f 52 = .int .i64 out.length ∧ f 53 = .int .i64 i ∧ Heap w [] [ownN 1 (.slice OA op.length co) op.length (op.map (Value.int .i64)) 3, ownN 1 (.slice A out.length c) out.length (out.map (Value.int .i64)) 3, vec (Value.int .i64) nb inn 3, blk p1 [.slice g.A g.n g.c, .slice g.B g.m g.d] 25] W) out.length ⟨0, none, 0, [], by omega, rfl, rfl, rfl, rfl, rfl, rfl, rfl, rfl, rfl, H⟩ ?_
   clear H
   rintro z f W ⟨i, OA, co, op, hi, rfl, hop, f1, f3, f4, f9, f51, f52, f53, H⟩
   by_cases hlt : i < out.length
   ·obtain ⟨y, hy⟩ : ∃ y, out[i]? = some y := ⟨_, List.getElem?_eq_getElem hlt⟩
    have hyb := hob y (List.mem_of_getElem? hy)
    obtain ⟨x', rfl⟩ := Int.eq_ofNat_of_zero_le hyb.1
    have hfs := Gr.filter_snoc (p := fun y => decide (inn.getD y.toNat 0 = 0)) hy
    rw [← hop, Int.toNat_natCast] at hfs
    have hget := Gr.getD_get (a := inn) (i := x') (by omega)
    have hopl : op.length ≤ out.length := by
     rw [hop]
     refine Nat.le_trans (List.length_filter_le _ _) ?_
     rw [List.length_take]; omega
    obtain ⟨pa, hpa⟩ := H.own_some 1 rfl (by omega)
    rw [hpa] at H f4 f51
    obtain ⟨f, rfl⟩ := lv7 f1 f3 f4 f9 f51 f52 f53
    clear f1 f3 f4 f9 f51 f52 f53
    by_cases hv : inn.getD x' 0 = 0
    ·rw [decide_eq_true hv, if_pos rfl] at hfs
     rw [hv] at hget
     refine k_sg ?_
     refine s_run rfl rfl (r_lssT rfl rfl (by omega)) ?_
     refine k_nc ?_
     refine k_seq ?_
     refine k_t rfl ?_
     refine k_skip ?_
     refine c_norm ?_
     refine k_seq ?_
     refine k_b ?_
     refine k_sg ?_
     refine s_run rfl rfl (r_ix1 (i := i) rfl rfl (by omega) (by omega) Try.underlying22 sz3) ?_
     refine s_run rfl rfl (r_ow H 1 rfl rfl hy ag3) ?_
     refine s_run rfl rfl (rai rfl) ?_
     refine k_nc ?_
     refine k_sg ?_
     refine s_run rfl rfl (rms rfl) ?_
     refine s_run rfl rfl (rmi rfl) ?_
     refine s_run rfl rfl (r_ix1 (i := x') rfl rfl (by omega) (by omega) Try.underlying22 sz3) ?_
     refine s_run rfl rfl (r_lv H 2 rfl rfl hget ag3) ?_
     refine s_run rfl rfl (r_eqlT rfl rfl (by omega)) ?_
     refine k_nc ?_
     refine k_t rfl ?_
     refine k_rg ?_
     refine s_run rfl rfl (rms rfl) ?_
     refine s_run rfl rfl (rmi rfl) ?_
     refine s_app1 (enc := (Value.int .i64)) H 0 rfl rfl rfl rfl rfl rfl rfl (by omega) Try.underlying22 inf3 rfl ?_
     intro _ An cn _ H'; simp only [List.set_cons_zero, List.set_cons_succ, List.take_succ_cons, List.take_zero, List.drop_succ_cons, List.drop_zero, List.cons_append, List.nil_append, List.append_nil, List.length_cons, List.length_nil, Nat.reduceAdd] at H'; clear H; have H := H'; clear H'
     refine s_run rfl rfl (ras rfl) ?_
     refine k_nil ?_
     refine b_norm ?_
     refine c_norm ?_
     refine k_rg ?_
     refine s_run rfl rfl (r_add rfl rfl (wI (by omega))) ?_
     refine s_run rfl rfl (rmi rfl) ?_
     refine k_nil ?_
     refine c_round ?_
     rw [← hpa] at H
     refine ⟨_, _, ?_, rfl, i + 1, An, cn, op ++ [(x' : Int)], by omega, rfl, hfs.symm, rfl, rfl, by rw [hpa]; rfl, by rw [List.length_append]; rfl, by rw [hpa]; rfl, rfl, rfl, by rw [List.length_append]; exact H⟩
     omega
    ·rw [decide_eq_false hv, if_neg (by simp), List.append_nil] at hfs
     generalize inn.getD x' 0 = v at *
     refine k_sg ?_
     refine s_run rfl rfl (r_lssT rfl rfl (by omega)) ?_
     refine k_nc ?_
     refine k_seq ?_
     refine k_t rfl ?_
     refine k_skip ?_
     refine c_norm ?_
     refine k_seq ?_
     refine k_b ?_
     refine k_sg ?_
     refine s_run rfl rfl (r_ix1 (i := i) rfl rfl (by omega) (by omega) Try.underlying22 sz3) ?_
     refine s_run rfl rfl (r_ow H 1 rfl rfl hy ag3) ?_
     refine s_run rfl rfl (rai rfl) ?_
     refine k_nc ?_
     refine k_sg ?_
     refine s_run rfl rfl (rms rfl) ?_
     refine s_run rfl rfl (rmi rfl) ?_
     refine s_run rfl rfl (r_ix1 (i := x') rfl rfl (by omega) (by omega) Try.underlying22 sz3) ?_
     refine s_run rfl rfl (r_lv H 2 rfl rfl hget ag3) ?_
     refine s_run rfl rfl (r_eqlF rfl rfl (by omega)) ?_
     refine k_nc ?_
     refine k_f rfl ?_
     refine k_skip ?_
     refine b_norm ?_
     refine c_norm ?_
     refine k_rg ?_
     refine s_run rfl rfl (r_add rfl rfl (wI (by omega))) ?_
     refine s_run rfl rfl (rmi rfl) ?_
     refine k_nil ?_
     refine c_round ?_
     rw [← hpa] at H
     refine ⟨_, _, ?_, rfl, i + 1, OA, co, op, by omega, rfl, hfs.symm, rfl, rfl, by rw [hpa]; rfl, rfl, by rw [hpa]; rfl, rfl, rfl, H⟩
     omega
   ·obtain rfl : i = out.length := by omega
    rw [List.take_length] at hop
    rw [← hop] at hK hKS
    obtain ⟨f, rfl⟩ := lv7 f1 f3 f4 f9 f51 f52 f53
    clear f1 f3 f4 f9 f51 f52 f53
    refine k_sg ?_
    refine s_run rfl rfl (r_lssF rfl rfl (by omega)) ?_
    refine k_nc ?_
    refine k_seq ?_
    refine k_f rfl ?_
    refine k_exit ?_
    refine c_exit ?_
    refine c_exit ?_
    refine b_hit ?_
    refine c_norm ?_
    refine k_sg ?_
    refine s_run rfl rfl (rai rfl) ?_
    refine k_nc ?_
    refine k_seq ?_
    refine k_b ?_
    refine k_loop (fun z f W => ∃ (d : Nat) (OA : Option Addr) (co : Nat) (s : List Int × List Int), d ≤ s.2.length ∧ z = g.m - d ∧ s = Gr.kst (Gr.ptr g.nodes) (inn, op) d ∧ s.1.length = g.m ∧ Gr.Bd s.1 (-((d * 1000 : Nat) : Int)) 1000000 ∧ f 1 = ptr p1 ∧ f 3 = .slice (some ⟨nb, 0, none⟩) g.m g.m ∧ f 4 = .slice A out.length c ∧ f 9 = .slice OA s.2.length co ∧ f 12 = .int .i64 d ∧ Heap w [] [ownN 1 (.slice OA s.2.length co) s.2.length (s.2.map (Value.int .i64)) 3, ownN 1 (.slice A out.length c) out.length (out.map (Value.int .i64)) 3, vec (Value.int .i64) nb s.1 3, blk p1 [.slice g.A g.n g.c, .slice g.B g.m g.d] 25] W) g.m ⟨0, OA, co, (inn, op), by omega, rfl, rfl, hil, hbd.mono (by omega) (by omega), rfl, rfl, rfl, rfl, rfl, H⟩ ?_
    clear H
    rintro z f W ⟨d, OA, co, s, hd, rfl, hst, hsl, hsb, f1, f3, f4, f9, f12, H⟩
    have hks := Gr.kst_KS hob hcl hKS d (by rw [← hst]; exact hd)
    rw [← hst] at hks
    have hsin : ∀ y ∈ s.2, 0 ≤ y ∧ y < (g.m : Int) := fun y hy => hob y ((hks.ki.mem y).1 hy).1
    have hs2 : s.2.length ≤ g.m := Gr.nodup_len g.m s.2 hks.ki.nd hsin
    by_cases hld : d < s.2.length
    ·obtain ⟨y, hy⟩ : ∃ y, s.2[d]? = some y := ⟨_, List.getElem?_eq_getElem hld⟩
     have hyb := hsin y (List.mem_of_getElem? hy)
     obtain ⟨x', rfl⟩ := Int.eq_ofNat_of_zero_le hyb.1
     obtain ⟨x, hx⟩ : ∃ x, g.ns[x']? = some x := ⟨_, List.getElem?_eq_getElem (by omega)⟩
     have hxm := List.mem_of_getElem? hx
     obtain ⟨b, o, hB, _, hrd⟩ := hg.ns.1 (by omega)
     have hc0 := hrd x' x hx 0 _ rfl
     have hxo := hg.ns.2 x hxm
     have hxn := (hs.p x hxm).1
     have hxl := hxo.pl
     have hnext : Gr.kst (Gr.ptr g.nodes) (inn, op) (d + 1) = x.ps.foldl Gr.kd s := by
      rw [Gr.kst, ← hst, hy]
      show (Gr.ptr g.nodes (x' : Int)).foldl Gr.kd s = _
      rw [(nodes_at hx).1]
     obtain ⟨pa, hpa⟩ := H.own_some 0 rfl (by omega)
     rw [hpa] at H f9
     rw [hB] at H
     obtain ⟨f, rfl⟩ := live5 f1 f3 f4 f9 f12
     clear f1 f3 f4 f9 f12
     refine k_seq ?_
     refine k_sg ?_
     refine s_run rfl rfl (rmi rfl) ?_
     refine s_run rfl rfl (rms rfl) ?_
     refine s_run rfl rfl (r_len rfl Try.underlying22) ?_
     refine s_run rfl rfl (r_lssT rfl rfl (by omega)) ?_
     refine k_nc ?_
     refine k_t rfl ?_
     refine k_skip ?_
     refine c_norm ?_
     refine k_seq ?_
     refine k_b ?_
     refine k_seq ?_
     refine k_q mixed (by kernel_rfl) H ?_
     refine q_run rfl rfl (fun _ H => r_fa0 rfl fo25_1) ?_
     refine q_run rfl rfl (fun _ H => r_lo H 3 rfl rfl rfl ag23) ?_
     refine q_run rfl rfl (fun _ H => r_mv (v := .slice _ _ _) rfl) ?_
     refine q_run rfl rfl (fun _ H => r_mv (v := .int _ _) rfl) ?_
     refine q_run rfl rfl (fun _ H => r_ix1 (i := d) rfl rfl (by omega) (by omega) Try.underlying22 sz3) ?_
     refine q_run rfl rfl (fun _ H => r_ow H 0 rfl rfl hy ag3) ?_
     refine q_run rfl rfl (fun _ H => r_ix (i := x') rfl rfl (by omega) (by omega) Try.underlying23 sz39) ?_
     refine q_run rfl rfl (fun _ H => r_fa rfl fo39_0) ?_
     refine q_run rfl rfl (fun _ H => r_lr H rfl hc0 (by simp) ag22) ?_
     refine q_run rfl rfl (fun _ H => r_len rfl Try.underlying22) ?_
     refine q_run rfl rfl (fun _ H => r_mv (v := .int _ _) rfl) ?_
     refine q_nil ?_
     intro _ H'; clear H; have H := H'; clear H'
     refine c_norm ?_
     refine k_b ?_
     rw [← hB, ← hpa] at H
     refine k_loop (fun z f W => ∃ (j : Nat) (OA : Option Addr) (co : Nat) (u : List Int × List Int), j ≤ x.n ∧ z = x.n - j ∧ u = (x.ps.take j).foldl Gr.kd s ∧ u.1.length = g.m ∧ u.2.length ≤ s.2.length + j ∧ Gr.Bd u.1 (-((d * 1000 + j : Nat) : Int)) 1000000 ∧ f 1 = ptr p1 ∧ f 3 = .slice (some ⟨nb, 0, none⟩) g.m g.m ∧ f 4 = .slice A out.length c ∧ f 9 = .slice OA u.2.length co ∧ f 12 = .int .i64 d ∧ f 81 = .slice x.A x.n x.c ∧ f 82 = .int .i64 x.n ∧ f 83 = .int .i64 j ∧ Heap w [] [ownN 1 (.slice OA u.2.length co) u.2.length (u.2.map (Value.int .i64)) 3, ownN 1 (.slice A out.length c) out.length (out.map (Value.int .i64)) 3, vec (Value.int .i64) nb u.1 3, blk p1 [.slice g.A g.n g.c, .slice g.B g.m g.d] 25] W) x.n ⟨0, OA, co, s, by omega, rfl, rfl, hsl, by omega, hsb, rfl, rfl, rfl, by rw [hpa]; rfl, rfl, rfl, rfl, rfl, H⟩ ?_
     clear H
     rintro z f W ⟨j, OA, co, u, hj, rfl, hu, hul, hu2, hub, f1, f3, f4, f9, f12, f81, f82, f83, H⟩
     by_cases hlj : j < x.n
     ·obtain ⟨q, hq⟩ : ∃ q, x.ps[j]? = some q := ⟨_, List.getElem?_eq_getElem (by omega)⟩
      obtain ⟨b2, o2, hA2, _, hrd2⟩ := hxo.ps (by omega)
      have hcell := hrd2 j q hq
      have hok := right_ptrs hb x hxm q (List.mem_of_getElem? hq)
      unfold okP at hok
      have hstep := foldl_snoc Gr.kd s _ _ _ hq
      rw [← hu] at hstep
      rw [hA2] at f81
      obtain ⟨f, rfl⟩ := lv8 f1 f3 f4 f9 f12 f81 f82 f83
      clear f1 f3 f4 f9 f12 f81 f82 f83
      by_cases hq0 : q < 0
      ·rw [Gr.kd_neg hq0] at hstep
       refine k_sg ?_
       refine s_run rfl rfl (r_lssT rfl rfl (by omega)) ?_
       refine k_nc ?_
       refine k_seq ?_
       refine k_t rfl ?_
       refine k_skip ?_
       refine c_norm ?_
       refine k_seq ?_
       refine k_b ?_
       refine k_sg ?_
       refine s_run rfl rfl (r_ix1o (i := j) rfl rfl (by omega) (by omega) Try.underlying22 sz3) ?_
       refine s_run rfl rfl (r_lr H rfl hcell (by simp) ag3) ?_
       refine s_run rfl rfl (rai rfl) ?_
       refine k_nc ?_
       refine k_sg ?_
       refine s_run rfl rfl (rmi rfl) ?_
       refine s_run rfl rfl (r_geqF rfl rfl (by omega)) ?_
       refine k_nc ?_
       refine k_f rfl ?_
       refine k_skip ?_
       refine b_norm ?_
       refine c_norm ?_
       refine k_rg ?_
       refine s_run rfl rfl (r_add rfl rfl (wI (by omega))) ?_
       refine s_run rfl rfl (rmi rfl) ?_
       refine k_nil ?_
       refine c_round ?_
       refine ⟨_, _, ?_, rfl, j + 1, OA, co, u, by omega, rfl, hstep.symm, hul, by omega, hub.mono (by omega) (by omega), rfl, rfl, rfl, rfl, rfl, by rw [hA2]; rfl, rfl, rfl, H⟩
       omega
      ·obtain ⟨q', rfl⟩ := Int.eq_ofNat_of_zero_le (Int.not_lt.1 hq0)
       have hget := Gr.getD_get (a := u.1) (i := q') (by omega)
       have hvb := hub _ (Gr.getD_mem (a := u.1) (i := q') (by omega))
       have hset := Gr.set_get (a := u.1) (i := q') (by omega) (u.1.getD q' 0 - 1)
       by_cases hv : u.1.getD q' 0 - 1 = 0
       ·rw [Gr.kd_one q' hv] at hstep
        generalize u.1.getD q' 0 = v at *
        rw [hv] at hset
        refine k_sg ?_
        refine s_run rfl rfl (r_lssT rfl rfl (by omega)) ?_
        refine k_nc ?_
        refine k_seq ?_
        refine k_t rfl ?_
        refine k_skip ?_
        refine c_norm ?_
        refine k_seq ?_
        refine k_b ?_
        refine k_sg ?_
        refine s_run rfl rfl (r_ix1o (i := j) rfl rfl (by omega) (by omega) Try.underlying22 sz3) ?_
        refine s_run rfl rfl (r_lr H rfl hcell (by simp) ag3) ?_
        refine s_run rfl rfl (rai rfl) ?_
        refine k_nc ?_
        refine k_sg ?_
        refine s_run rfl rfl (rmi rfl) ?_
        refine s_run rfl rfl (r_geqT rfl rfl (by omega)) ?_
        refine k_nc ?_
        refine k_t rfl ?_
        refine k_sg ?_
        refine s_run rfl rfl (rms rfl) ?_
        refine s_run rfl rfl (rmi rfl) ?_
        refine s_run rfl rfl (r_ix1 (i := q') rfl rfl (by omega) (by omega) Try.underlying22 sz3) ?_
        refine s_run rfl rfl (r_lv H 2 rfl rfl hget ag3) ?_
        refine s_run rfl rfl (r_sub rfl rfl (wI (by omega))) ?_
        refine s_run rfl rfl (r_ix1 (i := q') rfl rfl (by omega) (by omega) Try.underlying22 sz3) ?_
        refine s_sv (u := .int _ _) H 2 rfl rfl rfl rfl rfl (by omega) (fun _ => rfl) sz3 ?_
        clear H; intro _ H; simp only [jA, jB, jC, jD, jE, jF, jG, jH, jI, jJ, jK, Nat.reduceAdd] at H
        refine k_nc ?_
        refine k_sg ?_
        refine s_run rfl rfl (rms rfl) ?_
        refine s_run rfl rfl (rmi rfl) ?_
        refine s_run rfl rfl (r_ix1 (i := q') rfl rfl (by omega) (by omega) Try.underlying22 sz3) ?_
        refine s_run rfl rfl (r_lv H 2 rfl rfl (by rw [hv]; exact hset) ag3) ?_
        refine s_run rfl rfl (r_eqlT rfl rfl (by omega)) ?_
        refine k_nc ?_
        refine k_t rfl ?_
        refine k_rg ?_
        refine s_run rfl rfl (rms rfl) ?_
        refine s_run rfl rfl (rmi rfl) ?_
        refine s_app1 (enc := (Value.int .i64)) H 0 rfl rfl rfl rfl rfl rfl rfl (by omega) Try.underlying22 inf3 rfl ?_
        intro _ An cn _ H'; simp only [List.set_cons_zero, List.set_cons_succ, List.take_succ_cons, List.take_zero, List.drop_succ_cons, List.drop_zero, List.cons_append, List.nil_append, List.append_nil, List.length_cons, List.length_nil, Nat.reduceAdd] at H'; clear H; have H := H'; clear H'
        refine s_run rfl rfl (ras rfl) ?_
        refine k_nil ?_
        refine b_norm ?_
        refine c_norm ?_
        refine k_rg ?_
        refine s_run rfl rfl (r_add rfl rfl (wI (by omega))) ?_
        refine s_run rfl rfl (rmi rfl) ?_
        refine k_nil ?_
        refine c_round ?_
        refine ⟨_, _, ?_, rfl, j + 1, An, cn, (u.1.set q' (v - 1), u.2 ++ [(q' : Int)]), by omega, rfl, hstep.symm, by rw [List.length_set]; exact hul, by rw [List.length_append]; show _ + 1 ≤ _; omega, (hub.mono (by omega) (by omega)).set _ _ (by omega), rfl, rfl, rfl, by rw [List.length_append]; rfl, rfl, by rw [hA2]; rfl, rfl, rfl, by rw [List.length_append]; exact H⟩
        omega
       ·rw [Gr.kd_two q' hv] at hstep
        generalize u.1.getD q' 0 = v at *
        refine k_sg ?_
        refine s_run rfl rfl (r_lssT rfl rfl (by omega)) ?_
        refine k_nc ?_
        refine k_seq ?_
        refine k_t rfl ?_
        refine k_skip ?_
        refine c_norm ?_
        refine k_seq ?_
        refine k_b ?_
        refine k_sg ?_
        refine s_run rfl rfl (r_ix1o (i := j) rfl rfl (by omega) (by omega) Try.underlying22 sz3) ?_
        refine s_run rfl rfl (r_lr H rfl hcell (by simp) ag3) ?_
        refine s_run rfl rfl (rai rfl) ?_
        refine k_nc ?_
        refine k_sg ?_
        refine s_run rfl rfl (rmi rfl) ?_
        refine s_run rfl rfl (r_geqT rfl rfl (by omega)) ?_
        refine k_nc ?_
        refine k_t rfl ?_
        refine k_sg ?_
        refine s_run rfl rfl (rms rfl) ?_
        refine s_run rfl rfl (rmi rfl) ?_
        refine s_run rfl rfl (r_ix1 (i := q') rfl rfl (by omega) (by omega) Try.underlying22 sz3) ?_
        refine s_run rfl rfl (r_lv H 2 rfl rfl hget ag3) ?_
        refine s_run rfl rfl (r_sub rfl rfl (wI (by omega))) ?_
        refine s_run rfl rfl (r_ix1 (i := q') rfl rfl (by omega) (by omega) Try.underlying22 sz3) ?_
        refine s_sv (u := .int _ _) H 2 rfl rfl rfl rfl rfl (by omega) (fun _ => rfl) sz3 ?_
        clear H; intro _ H; simp only [jA, jB, jC, jD, jE, jF, jG, jH, jI, jJ, jK, Nat.reduceAdd] at H
        refine k_nc ?_
        refine k_sg ?_
        refine s_run rfl rfl (rms rfl) ?_
        refine s_run rfl rfl (rmi rfl) ?_
        refine s_run rfl rfl (r_ix1 (i := q') rfl rfl (by omega) (by omega) Try.underlying22 sz3) ?_
        refine s_run rfl rfl (r_lv H 2 rfl rfl hset ag3) ?_
        refine s_run rfl rfl (r_eqlF rfl rfl (by omega)) ?_
        refine k_nc ?_
        refine k_f rfl ?_
        refine k_skip ?_
        refine b_norm ?_
        refine c_norm ?_
        refine k_rg ?_
        refine s_run rfl rfl (r_add rfl rfl (wI (by omega))) ?_
        refine s_run rfl rfl (rmi rfl) ?_
        refine k_nil ?_
        refine c_round ?_
        refine ⟨_, _, ?_, rfl, j + 1, OA, co, (u.1.set q' (v - 1), u.2), by omega, rfl, hstep.symm, by rw [List.length_set]; exact hul, by show u.2.length ≤ _; omega, (hub.mono (by omega) (by omega)).set _ _ (by omega), rfl, rfl, rfl, rfl, rfl, by rw [hA2]; rfl, rfl, rfl, H⟩
        omega
     ·obtain rfl : j = x.n := by omega
      rw [← hxl, List.take_length] at hu
      have hpre := (Gr.kds_pre x.ps s).length_le
      rw [← hu] at hpre
      obtain ⟨f, rfl⟩ := lv8 f1 f3 f4 f9 f12 f81 f82 f83
      clear f1 f3 f4 f9 f12 f81 f82 f83
      refine k_sg ?_
      refine s_run rfl rfl (r_lssF rfl rfl (by omega)) ?_
      refine k_nc ?_
      refine k_seq ?_
      refine k_f rfl ?_
      refine k_exit ?_
      refine c_exit ?_
      refine c_exit ?_
      refine b_hit ?_
      refine b_norm ?_
      refine c_norm ?_
      refine k_rg ?_
      refine s_run rfl rfl (rmi rfl) ?_
      refine s_run rfl rfl (r_add rfl rfl (wI (by omega))) ?_
      refine s_run rfl rfl (rai rfl) ?_
      refine k_nil ?_
      refine c_round ?_
      refine ⟨_, _, ?_, rfl, d + 1, OA, co, u, by omega, rfl, by rw [hnext]; exact hu, hul, hub.mono (by omega) (by omega), rfl, rfl, rfl, rfl, rfl, H⟩
      omega
    ·have hde : d = s.2.length := by omega
     have hk := hK d (by rw [← hst]; omega)
     obtain ⟨f, rfl⟩ := live5 f1 f3 f4 f9 f12
     clear f1 f3 f4 f9 f12
     by_cases hf : d < out.length
     ·refine k_seq ?_
      refine k_sg ?_
      refine s_run rfl rfl (rmi rfl) ?_
      refine s_run rfl rfl (rms rfl) ?_
      refine s_run rfl rfl (r_len rfl Try.underlying22) ?_
      refine s_run rfl rfl (r_lssF rfl rfl (by omega)) ?_
      refine k_nc ?_
      refine k_f rfl ?_
      refine k_exit ?_
      refine c_exit ?_
      refine c_exit ?_
      refine b_hit ?_
      refine c_norm ?_
      refine k_sg ?_
      refine s_run rfl rfl (rmi rfl) ?_
      refine s_run rfl rfl (rms rfl) ?_
      refine s_run rfl rfl (r_len rfl Try.underlying22) ?_
      refine s_run rfl rfl (r_lssT rfl rfl (by omega)) ?_
      refine s_run rfl rfl (rab rfl) ?_
      refine k_nc ?_
      refine k_ret ?_
      refine fin1r (v := .bool _) rfl rfl ?_
      exact ⟨⟨true, rfl, (fun h => by cases h), fun _ => ⟨out, ho, fun _ => hk.1 hf, fun _ => rfl⟩⟩, H.only⟩
     ·refine k_seq ?_
      refine k_sg ?_
      refine s_run rfl rfl (rmi rfl) ?_
      refine s_run rfl rfl (rms rfl) ?_
      refine s_run rfl rfl (r_len rfl Try.underlying22) ?_
      refine s_run rfl rfl (r_lssF rfl rfl (by omega)) ?_
      refine k_nc ?_
      refine k_f rfl ?_
      refine k_exit ?_
      refine c_exit ?_
      refine c_exit ?_
      refine b_hit ?_
      refine c_norm ?_
      refine k_sg ?_
      refine s_run rfl rfl (rmi rfl) ?_
      refine s_run rfl rfl (rms rfl) ?_
      refine s_run rfl rfl (r_len rfl Try.underlying22) ?_
      refine s_run rfl rfl (r_lssF rfl rfl (by omega)) ?_
      refine s_run rfl rfl (rab rfl) ?_
      refine k_nc ?_
      refine k_ret ?_
      refine fin1r (v := .bool _) rfl rfl ?_
      exact ⟨⟨false, rfl, (fun h => by cases h), fun _ => ⟨out, ho, (fun h => by cases h), fun h => absurd (hk.2 h) hf⟩⟩, H.only⟩
end Go.Proofs.Ytdgmlfpikgjnlaa
end

section
namespace Go.Proofs.Ytdgmlfpikgjnlaa
open Go.RowKit
set_option maxRecDepth 100000
set_option maxHeartbeats 4000000
def wordsN (ns : Gr.Nodes) : Nat := (ns.map fun x => 1 + x.1.length + x.2.length).sum
theorem wordsN_snoc (ns : Gr.Nodes) (i : Nat) (x : List Int × List Int) (h : ns[i]? = some x) : wordsN (ns.take (i + 1)) = wordsN (ns.take i) + (1 + x.1.length + x.2.length) := by
 unfold wordsN
 rw [take_snoc _ _ _ _ h, List.sum_append]; simp
theorem gWords (g : GrS) (w : World) (hg : GrOk w [] g) (hs : Sm g) :
  Calls Try.prog 27 [.agg g.cells.toArray].toArray w fun e w' => e = .returned (.int .i64 (wordsN g.nodes : Nat)) ∧ Only [] w w' := by
 have H := Heap.nil w
 have hnl := hg.nl
 have hm := hs.m
 unfold GrS.cells
 refine k_in (N := 25) Try.func27 rfl rfl rfl ?_
 refine k_sg ?_
 refine s_box H rfl rfl ?_
 intro p1 _ H'; clear H; have H := H'; clear H'
 refine s_run rfl rfl (rai rfl) ?_
 refine k_nc ?_
 refine k_sg ?_
 refine s_run rfl rfl (rai rfl) ?_
 refine k_nc ?_
 refine k_seq ?_
 refine k_sg ?_
 refine s_run rfl rfl (r_fa0 rfl fo25_1) ?_
 refine s_run rfl rfl (r_lo H 0 rfl rfl rfl ag23) ?_
 refine s_run rfl rfl (r_len rfl Try.underlying23) ?_
 refine s_run rfl rfl (rmi rfl) ?_
 refine k_nc ?_
 refine k_b ?_
 refine k_loop (fun z f W => ∃ i s : Nat, i ≤ g.m ∧ z = g.m - i ∧ s = wordsN (g.nodes.take i) ∧ s ≤ i * 101001 ∧ f 3 = .int .i64 (s : Nat) ∧ f 7 = .slice g.B g.m g.d ∧ f 8 = .int .i64 g.m ∧ f 9 = .int .i64 i ∧ Heap w [] [blk p1 [.slice g.A g.n g.c, .slice g.B g.m g.d] 25] W) g.m ⟨0, 0, by omega, rfl, rfl, by omega, rfl, rfl, rfl, rfl, H⟩ ?_
 clear H
 rintro z f W ⟨i, s, hi, rfl, hss, hsb, f3, f7, f8, f9, H⟩
 by_cases hlt : i < g.m
 ·obtain ⟨x, hx⟩ : ∃ x, g.ns[i]? = some x := ⟨_, List.getElem?_eq_getElem (by omega)⟩
  have hxm := List.mem_of_getElem? hx
  obtain ⟨b, o, hB, _, hrd⟩ := hg.ns.1 (by omega)
  have hrx := hrd i x hx
  have hxo := hg.ns.2 x hxm
  have hxn := (hs.p x hxm).1
  have hxd := (hs.p x hxm).2
  have hstep := wordsN_snoc g.nodes i _ (nodes_get hx)
  rw [← hss] at hstep
  have e1 : x.ps.length = x.n := hxo.pl
  have e2 : x.ds.length = x.m := hxo.dl
  simp only [e1, e2] at hstep
  rw [hB] at f7
  obtain ⟨f, rfl⟩ := live4 f3 f7 f8 f9
  clear f3 f7 f8 f9
  unfold NodeS.cells at hrx
  refine k_sg ?_
  refine s_run rfl rfl (r_lssT rfl rfl (by omega)) ?_
  refine k_nc ?_
  refine k_seq ?_
  refine k_t rfl ?_
  refine k_skip ?_
  refine c_norm ?_
  refine k_seq ?_
  refine k_b ?_
  refine k_sg ?_
  refine s_run rfl rfl (r_ix (i := i) rfl rfl (by omega) (by omega) Try.underlying23 sz39) ?_
  refine s_run rfl rfl (r_lA (enc := fun v : Value => v) (zs := [.slice x.A x.n x.c, .slice x.B x.m x.d]) (hrx.later H.only (by simp)) rfl rfl ag39 sz39) ?_
  refine s_al H rfl inf39 ?_
  intro p5 _ H'; clear H; have H := H'; clear H'
  refine s_sw H 0 rfl rfl rfl rfl rfl rfl rfl sz39 ?_
  clear H; intro _ H; simp only [jA, jB, jC, jD, jE, jF, jG, jH, jI, jJ, jK, Nat.reduceAdd] at H
  refine k_nc ?_
  refine k_rg ?_
  refine s_run rfl rfl (rmi rfl) ?_
  refine s_run rfl rfl (r_fa0 rfl fo39_0) ?_
  refine s_run rfl rfl (r_lo H 0 rfl rfl rfl ag22) ?_
  refine s_run rfl rfl (r_len rfl Try.underlying22) ?_
  refine s_run rfl rfl (r_add rfl rfl (wI (by omega))) ?_
  refine s_run rfl rfl (r_fa0 rfl fo39_1) ?_
  refine s_run rfl rfl (r_lo H 0 rfl rfl rfl ag37) ?_
  refine s_run rfl rfl (r_len rfl Try.underlying37) ?_
  refine s_run rfl rfl (r_add rfl rfl (wI (by omega))) ?_
  refine s_run rfl rfl (r_add rfl rfl (wI (by omega))) ?_
  refine s_run rfl rfl (rai rfl) ?_
  refine k_nil ?_
  refine b_norm ?_
  refine c_norm ?_
  refine k_rg ?_
  refine s_run rfl rfl (r_add rfl rfl (wI (by omega))) ?_
  refine s_run rfl rfl (rmi rfl) ?_
  refine k_nil ?_
  refine c_round ?_
  have H := H.drop
  refine ⟨_, _, ?_, rfl, i + 1, s + (1 + x.n + x.m), by omega, rfl, hstep.symm, by omega, ?_, by rw [hB]; rfl, rfl, rfl, H⟩
  ·omega
  ·first | rfl | (simp only [upd_same, upd_ne]; congr 1; omega)
 ·obtain rfl : i = g.m := by omega
  have e : g.nodes.take g.m = g.nodes := by rw [← hnl, ← g.nodes_len]; exact List.take_length
  rw [e] at hss
  subst hss
  obtain ⟨f, rfl⟩ := live4 f3 f7 f8 f9
  clear f3 f7 f8 f9
  refine k_sg ?_
  refine s_run rfl rfl (r_lssF rfl rfl (by omega)) ?_
  refine k_nc ?_
  refine k_seq ?_
  refine k_f rfl ?_
  refine k_exit ?_
  refine c_exit ?_
  refine c_exit ?_
  refine b_hit ?_
  refine c_norm ?_
  refine k_sg ?_
  refine s_run rfl rfl (rmi rfl) ?_
  refine s_run rfl rfl (rai rfl) ?_
  refine k_nc ?_
  refine k_ret ?_
  refine fin1r (v := .int _ _) rfl rfl ?_
  exact ⟨rfl, H.only⟩
end Go.Proofs.Ytdgmlfpikgjnlaa
end

section
namespace Go.Proofs.Ytdgmlfpikgjnlaa
open Go.RowKit
set_option maxRecDepth 100000
set_option maxHeartbeats 4000000
end Go.Proofs.Ytdgmlfpikgjnlaa
end

section
namespace Go.Proofs.Ytdgmlfpikgjnlaa
open Go.RowKit
set_option maxRecDepth 100000
set_option maxHeartbeats 4000000
theorem canon_right {g c : GrS} {out : List Int} {w : World} (hg : GrOk w [] g) (hb : rightB g = true) (ho : Gr.IsOrd (Gr.ptr g.nodes) g.rs out) (hy : ∀ x ∈ c.ns, x.ps.length = x.n ∧ x.ds.length = x.m) (hm : c.m = out.length) (hr : c.rs = Gr.canonR g.rs out) (hn : c.nodes = Gr.canonN g.nodes out) : rightB c = true := by
 have hod := ho.nodup
 have hob := ord_in hg hb ho
 have hfd : ∀ z, okP c.m (Gr.fnd out z) := fun z => by
  have := Gr.fnd_bd out z hod; unfold okP; rw [hm]; exact this
 refine decide_eq_true ⟨fun r hr' => ?_, fun x hx' => ?_⟩
 ·rw [hr] at hr'
  obtain ⟨q, hq, rfl⟩ := List.mem_map.1 hr'
  exact hfd q
 ·have h1 : (x.ps, x.ds) ∈ Gr.canonN g.nodes out := by rw [← hn]; exact List.mem_map.2 ⟨x, hx', rfl⟩
  unfold Gr.canonN at h1
  obtain ⟨y, hy', he⟩ := List.mem_map.1 h1
  injection he with he1 he2
  have hyb := hob y hy'
  obtain ⟨y', rfl⟩ := Int.eq_ofNat_of_zero_le hyb.1
  have hnl := hg.nl
  obtain ⟨z, hz⟩ : ∃ z, g.ns[y']? = some z := ⟨_, List.getElem?_eq_getElem (by omega)⟩
  have hzm := List.mem_of_getElem? hz
  rw [(nodes_at hz).1] at he1
  rw [(nodes_at hz).2] at he2
  obtain ⟨k1, k2, k3⟩ := (of_decide_eq_true hb).2 z hzm
  obtain ⟨l3, l4⟩ := hy x hx'
  have l1 := (hg.ns.2 z hzm).pl
  have l2 := (hg.ns.2 z hzm).dl
  refine ⟨?_, ?_, fun p hp => ?_⟩
  ·rw [← l3, ← he1, List.length_map, l1]; exact k1
  ·rw [← l4, ← he2, l2]; exact k2
  ·rw [← he1] at hp
   obtain ⟨q, hq, rfl⟩ := List.mem_map.1 hp
   exact hfd q
theorem walk_GraphCanons (g : GrS) (w : World) (hg : GrOk w [] g) :
  Calls Try.prog 7 [.agg g.cells.toArray].toArray w fun e w' => e = .returned (.bool true) ∧ Below w.heap.size w w' := by
 have H := Heap.nil w
 have hF := fun W (h : Only [] w W) => lFew g W (hg.later h (by simp))
 cases fa : fewB g with
 | false =>
  rw [fa] at hF
  unfold GrS.cells at hF ⊢
  refine k_in (N := 125) Try.func7 rfl rfl rfl ?_
  refine k_sg ?_
  refine s_box H rfl rfl ?_
  intro p1 _ H'; clear H; have H := H'; clear H'
  refine s_run rfl rfl (rab rfl) ?_
  refine k_nc ?_
  refine k_seq ?_
  refine k_sg ?_
  refine s_call rfl (awake38 _) (ca13 rfl) ?_
  rintro e W1 ⟨rfl, H'⟩
  refine ⟨_, rfl, ?_⟩
  have H := H.same H'; clear H'
  refine s_run rfl rfl (r_notT rfl) ?_
  refine k_nc ?_
  refine k_f rfl ?_
  refine k_skip ?_
  refine c_norm ?_
  refine k_seq ?_
  refine k_sg ?_
  refine s_run rfl rfl (r_la H 0 rfl rfl rfl ag25 sz25) ?_
  refine s_call rfl (hF _ H.only) (ca14 rfl) ?_
  rintro e W1 ⟨rfl, H'⟩
  refine ⟨_, rfl, ?_⟩
  have H := H.same H'; clear H'
  refine s_run rfl rfl (r_notF rfl) ?_
  refine k_nc ?_
  refine k_t rfl ?_
  refine k_sg ?_
  refine s_run rfl rfl (rab rfl) ?_
  refine k_nc ?_
  refine k_ret ?_
  refine c_ret ?_
  refine fin1r (v := .bool _) rfl rfl ?_
  exact ⟨rfl, H.below⟩
 | true =>
  rw [fa] at hF
  have sa := few_sm fa
  have hE := fun W (h : Only [] w W) => lRefE g W (hg.later h (by simp)) sa
  have hD := fun NA cN W' E L (h : Heap w [] (E :: ownN 2 (.slice NA g.m cN) g.m ((flatN g.ns).map C1.v) 40 :: L) W') => dRight (refG g NA cN) W' (ref_ok (hg.later h.only (by simp)) h 1 rfl)
  have hR := fun W (h : Only [] w W) => gRight g W (hg.later h (by simp))
  have hRe := fun W (h : Only [] w W) => gReached g W (hg.later h (by simp)) sa
  have hCy := fun W (h : Only [] w W) => gCyclic g W (hg.later h (by simp)) sa
  cases hb : rightB g with
  | false =>
   have hD2 := fun NA cN => (show rightB (refG g NA cN) = false from hb)
   simp only [hD2] at hD
   have hC := fun W (h : Only [] w W) => gCanon0 g W (hg.later h (by simp)) hb
   rw [hb] at hR
   unfold GrS.cells at *
   unfold refG at *
   refine k_in (N := 125) Try.func7 rfl rfl rfl ?_
   refine k_sg ?_
   refine s_box H rfl rfl ?_
   intro p1 _ H'; clear H; have H := H'; clear H'
   refine s_run rfl rfl (rab rfl) ?_
   refine k_nc ?_
   refine k_seq ?_
   refine k_sg ?_
   refine s_call rfl (awake38 _) (ca13 rfl) ?_
   rintro e W1 ⟨rfl, H'⟩
   refine ⟨_, rfl, ?_⟩
   have H := H.same H'; clear H'
   refine s_run rfl rfl (r_notT rfl) ?_
   refine k_nc ?_
   refine k_f rfl ?_
   refine k_skip ?_
   refine c_norm ?_
   refine k_seq ?_
   refine k_sg ?_
   refine s_run rfl rfl (r_la H 0 rfl rfl rfl ag25 sz25) ?_
   refine s_call rfl (hF _ H.only) (ca14 rfl) ?_
   rintro e W1 ⟨rfl, H'⟩
   refine ⟨_, rfl, ?_⟩
   have H := H.same H'; clear H'
   refine s_run rfl rfl (r_notT rfl) ?_
   refine k_nc ?_
   refine k_f rfl ?_
   refine k_skip ?_
   refine c_norm ?_
   refine k_sg ?_
   refine s_run rfl rfl (r_la H 0 rfl rfl rfl ag25 sz25) ?_
   refine s_call rfl (hE _ H.only) (ca15 rfl) ?_
   rintro e W1 ⟨NA, cN, rfl, H'⟩
   refine ⟨_, rfl, ?_⟩
   have H := H.more H'; clear H'
   refine s_al H rfl inf30 ?_
   intro p3 _ H'; clear H; have H := H'; clear H'
   refine s_sw H 0 rfl rfl rfl rfl rfl rfl rfl sz25 ?_
   clear H; intro _ H; simp only [jA, jB, jC, jD, jE, jF, jG, jH, jI, jJ, jK, Nat.reduceAdd] at H
   refine k_nc ?_
   refine k_sg ?_
   refine s_run rfl rfl (r_la H 2 rfl rfl rfl ag25 sz25) ?_
   refine s_call rfl (hC _ H.only) (ca28 rfl) ?_
   rintro e W1 ⟨rfl, H'⟩
   refine ⟨_, rfl, ?_⟩
   have H := H.same H'; clear H'
   refine s_run rfl rfl (rmt rfl) ?_
   refine s_run rfl rfl (r_ext (v := .agg _) rfl rfl) ?_
   refine s_run rfl rfl (r_ext (v := .int _ _) rfl rfl) ?_
   refine s_al H rfl inf25 ?_
   intro p4 _ H'; clear H; have H := H'; clear H'
   refine s_sw H 0 rfl rfl rfl rfl rfl rfl rfl sz25 ?_
   clear H; intro _ H; simp only [jA, jB, jC, jD, jE, jF, jG, jH, jI, jJ, jK, Nat.reduceAdd] at H
   refine s_run rfl rfl (rai rfl) ?_
   refine k_nc ?_
   refine k_seq ?_
   refine k_sg ?_
   refine s_run rfl rfl (r_la H 1 rfl rfl rfl ag30 sz30) ?_
   refine s_call rfl (hD NA cN _ _ _ (H.order [1, 2, 3, 0] rfl rfl)) (ca18 rfl) ?_
   rintro e W1 ⟨rfl, H'⟩
   refine ⟨_, rfl, ?_⟩
   have H := H.same H'; clear H'
   refine s_run rfl rfl (r_notF rfl) ?_
   refine k_nc ?_
   refine k_t rfl ?_
   refine k_sg ?_
   refine s_run rfl rfl (r_la H 3 rfl rfl rfl ag25 sz25) ?_
   refine s_call rfl (hR _ H.only) (ca29 rfl) ?_
   rintro e W1 ⟨rfl, H'⟩
   refine ⟨_, rfl, ?_⟩
   have H := H.same H'; clear H'
   refine s_run rfl rfl (r_notF rfl) ?_
   refine s_run rfl rfl (rmb rfl) ?_
   refine s_run rfl (g_on 28 (by kernel_rfl) rfl) (rmi rfl) ?_
   refine s_run rfl (g_on 28 (by kernel_rfl) rfl) (r_eqlT rfl rfl (by omega)) ?_
   refine s_run rfl rfl (r_pkT (v := .bool _) rfl rfl) ?_
   refine s_run rfl rfl (rmb rfl) ?_
   refine s_run rfl (g_on 32 (by kernel_rfl) rfl) (r_fa0 rfl fo25_0) ?_
   refine s_run rfl (g_on 32 (by kernel_rfl) rfl) (r_lo H 0 rfl rfl rfl ag22) ?_
   refine s_run rfl (g_on 32 (by kernel_rfl) rfl) (r_len rfl Try.underlying22) ?_
   refine s_run rfl (g_on 32 (by kernel_rfl) rfl) (r_eqlT rfl rfl (by omega)) ?_
   refine s_run rfl rfl (r_pkT (v := .bool _) rfl rfl) ?_
   refine s_run rfl rfl (rmb rfl) ?_
   refine s_run rfl (g_on 38 (by kernel_rfl) rfl) (r_fa0 rfl fo25_1) ?_
   refine s_run rfl (g_on 38 (by kernel_rfl) rfl) (r_lo H 0 rfl rfl rfl ag23) ?_
   refine s_run rfl (g_on 38 (by kernel_rfl) rfl) (r_len rfl Try.underlying23) ?_
   refine s_run rfl (g_on 38 (by kernel_rfl) rfl) (r_eqlT rfl rfl (by omega)) ?_
   refine s_run rfl rfl (r_pkT (v := .bool _) rfl rfl) ?_
   refine s_run rfl rfl (rmb rfl) ?_
   refine s_run rfl (g_on 44 (by kernel_rfl) rfl) (r_la H 3 rfl rfl rfl ag25 sz25) ?_
   refine s_call (g_on 44 (by kernel_rfl) rfl) (hRe _ H.only) (ca23 rfl) ?_
   rintro e W1 ⟨⟨r, rfl, hr0, _⟩, H'⟩
   refine ⟨_, rfl, ?_⟩
   have H := H.same H'; clear H'; obtain rfl := hr0 hb
   refine s_run rfl (g_on 44 (by kernel_rfl) rfl) (r_eqlT rfl rfl (by omega)) ?_
   refine s_run rfl rfl (r_pkT (v := .bool _) rfl rfl) ?_
   refine s_run rfl rfl (rmb rfl) ?_
   refine s_run rfl (g_on 49 (by kernel_rfl) rfl) (r_la H 3 rfl rfl rfl ag25 sz25) ?_
   refine s_call (g_on 49 (by kernel_rfl) rfl) (hCy _ H.only) (ca24 rfl) ?_
   rintro e W1 ⟨⟨r2, rfl, hr2, _⟩, H'⟩
   refine ⟨_, rfl, ?_⟩
   have H := H.same H'; clear H'; obtain rfl := hr2 hb
   refine s_run rfl (g_on 49 (by kernel_rfl) rfl) (r_notF rfl) ?_
   refine s_run rfl rfl (r_pkT (v := .bool _) rfl rfl) ?_
   refine s_run rfl rfl (rab rfl) ?_
   refine k_nc ?_
   refine k_ret ?_
   refine c_ret ?_
   refine fin1r (v := .bool _) rfl rfl ?_
   exact ⟨rfl, H.below⟩
  | true =>
   have hD2 := fun NA cN => (show rightB (refG g NA cN) = true from hb)
   simp only [hD2] at hD
   have hC := fun W (h : Only [] w W) => gCanon1 g W (hg.later h (by simp)) hb sa
   have hDC := fun NA cN W' E L (h : Heap w [] (E :: ownN 2 (.slice NA g.m cN) g.m ((flatN g.ns).map C1.v) 40 :: L) W') => dCanon (refG g NA cN) W' (ref_ok (hg.later h.only (by simp)) h 1 rfl) hb (ref_sm sa NA cN)
   have hAl := fun c W (h : Only [] w W) => gAl g c W (hg.later h (by simp))
   have hWo := fun W (h : Only [] w W) => gWords g W (hg.later h (by simp)) sa
   rw [hb] at hR
   have hnl := hg.nl
   have hn := sa.n
   have hm := sa.m
   unfold GrS.cells at hF hE hD hR hRe hCy hC hDC hAl hWo ⊢
   unfold refG at hE hD hDC
   refine k_in (N := 125) Try.func7 rfl rfl rfl ?_
   refine k_sg ?_
   refine s_box H rfl rfl ?_
   intro p1 _ H'; clear H; have H := H'; clear H'
   refine s_run rfl rfl (rab rfl) ?_
   refine k_nc ?_
   refine k_seq ?_
   refine k_sg ?_
   refine s_call rfl (awake38 _) (ca13 rfl) ?_
   rintro e W1 ⟨rfl, H'⟩
   refine ⟨_, rfl, ?_⟩
   have H := H.same H'; clear H'
   refine s_run rfl rfl (r_notT rfl) ?_
   refine k_nc ?_
   refine k_f rfl ?_
   refine k_skip ?_
   refine c_norm ?_
   refine k_seq ?_
   refine k_sg ?_
   refine s_run rfl rfl (r_la H 0 rfl rfl rfl ag25 sz25) ?_
   refine s_call rfl (hF _ H.only) (ca14 rfl) ?_
   rintro e W1 ⟨rfl, H'⟩
   refine ⟨_, rfl, ?_⟩
   have H := H.same H'; clear H'
   refine s_run rfl rfl (r_notT rfl) ?_
   refine k_nc ?_
   refine k_f rfl ?_
   refine k_skip ?_
   refine c_norm ?_
   refine k_sg ?_
   refine s_run rfl rfl (r_la H 0 rfl rfl rfl ag25 sz25) ?_
   refine s_call rfl (hE _ H.only) (ca15 rfl) ?_
   rintro e W1 ⟨NA, cN, rfl, H'⟩
   refine ⟨_, rfl, ?_⟩
   have H := H.more H'; clear H'
   refine s_al H rfl inf30 ?_
   intro p3 _ H'; clear H; have H := H'; clear H'
   refine s_sw H 0 rfl rfl rfl rfl rfl rfl rfl sz30 ?_
   clear H; intro _ H; simp only [jA, jB, jC, jD, jE, jF, jG, jH, jI, jJ, jK, Nat.reduceAdd] at H
   refine k_nc ?_
   refine k_sg ?_
   refine s_run rfl rfl (r_la H 2 rfl rfl rfl ag25 sz25) ?_
   refine s_call rfl (hC _ H.only) (ca28 rfl) ?_
   rintro e W1 ⟨⟨c, out, rfl, kc, ho, er, en, q1, q2, q3, q4⟩, H'⟩
   refine ⟨_, rfl, ?_⟩
   obtain ⟨WC, rfl⟩ : ∃ X, X = W1 := ⟨W1, rfl⟩; have HP := H.same H'; clear H'; clear H; have H := Heap.nil WC
   refine s_run rfl rfl (rmt rfl) ?_
   refine s_run rfl rfl (r_ext (v := .agg _) rfl rfl) ?_
   refine s_run rfl rfl (r_ext (v := .int _ _) rfl rfl) ?_
   refine s_al H rfl inf25 ?_
   intro p4 _ H'; clear H; have H := H'; clear H'
   refine s_sw H 0 rfl rfl rfl rfl rfl rfl rfl sz25 ?_
   clear H; intro _ H; simp only [jA, jB, jC, jD, jE, jF, jG, jH, jI, jJ, jK, Nat.reduceAdd] at H
   refine s_run rfl rfl (rai rfl) ?_
   refine k_nc ?_
   refine k_seq ?_
   refine k_sg ?_
   refine s_run rfl rfl (r_la (HP.same H.only) 0 rfl rfl rfl ag30 sz30) ?_
   refine s_call rfl (hD NA cN _ _ _ (HP.same H.only)) (ca18 rfl) ?_
   rintro e W1 ⟨rfl, H'⟩
   refine ⟨_, rfl, ?_⟩
   have H := H.same H'; clear H'
   refine s_run rfl rfl (r_notT rfl) ?_
   refine k_nc ?_
   refine k_f rfl ?_
   refine k_skip ?_
   refine c_norm ?_
   refine k_sg ?_
   refine s_run rfl rfl (rai rfl) ?_
   refine k_nc ?_
   refine k_seq ?_
   refine k_sg ?_
   refine s_run rfl rfl (rai rfl) ?_
   refine k_nc ?_
   refine k_b ?_
   refine k_loop (fun z f W => ∃ i s : Nat, i ≤ g.m ∧ z = g.m - i ∧ s = wordsN (g.nodes.take i) ∧ s ≤ i * 101001 ∧ f 1 = ptr p1 ∧ f 3 = ptr p3 ∧ f 4 = ptr p4 ∧ f 5 = .int .i64 0 ∧ f 6 = .int .i64 (s : Nat) ∧ f 7 = .int .i64 i ∧ Heap WC [] [blk p4 [.slice c.A c.n c.c, .slice c.B c.m c.d] 25] W) g.m ⟨0, 0, by omega, rfl, rfl, by omega, rfl, rfl, rfl, rfl, rfl, rfl, H⟩ ?_
   clear H
   rintro z f W ⟨i, s, hi, rfl, hss, hsb, f1, f3, f4, f5, f6, f7, H⟩
   obtain ⟨f, rfl⟩ := live6 f1 f3 f4 f5 f6 f7
   clear f1 f3 f4 f5 f6 f7
   by_cases hlt : i < g.m
   ·obtain ⟨x, hx⟩ : ∃ x, g.ns[i]? = some x := ⟨_, List.getElem?_eq_getElem (by omega)⟩
    have hxm := List.mem_of_getElem? hx
    obtain ⟨b, o, hB, _, hrd⟩ := hg.ns.1 (by omega)
    have hc0 := hrd i x hx 0 _ rfl
    have hc1 := hrd i x hx 1 _ rfl
    have hxo := hg.ns.2 x hxm
    have hxn := (sa.p x hxm).1
    have hxd := (sa.p x hxm).2
    have hstep := wordsN_snoc g.nodes i _ (nodes_get hx)
    rw [← hss] at hstep
    have e1 : x.ps.length = x.n := hxo.pl
    have e2 : x.ds.length = x.m := hxo.dl
    simp only [e1, e2] at hstep
    rw [hB] at HP
    refine k_seq ?_
    refine k_sg ?_
    refine s_run rfl rfl (rmi rfl) ?_
    refine s_run rfl rfl (r_fa0 rfl fo25_1) ?_
    refine s_run rfl rfl (r_lo (HP.same H.only) 2 rfl rfl rfl ag23) ?_
    refine s_run rfl rfl (r_len rfl Try.underlying23) ?_
    refine s_run rfl rfl (r_lssT rfl rfl (by omega)) ?_
    refine k_nc ?_
    refine k_t rfl ?_
    refine k_skip ?_
    refine c_norm ?_
    refine k_seq ?_
    refine k_b ?_
    refine k_q mixed (by kernel_rfl) H ?_
    refine q_run rfl rfl (fun _ H => r_mv (v := .int _ _) rfl) ?_
    refine q_run rfl rfl (fun _ H => r_add rfl rfl (wI (by omega))) ?_
    refine q_run rfl rfl (fun _ H => r_fa0 rfl fo25_1) ?_
    refine q_run rfl rfl (fun _ H => r_lo (HP.same H.only) 2 rfl rfl rfl ag23) ?_
    refine q_run rfl rfl (fun _ H => r_mv (v := .int _ _) rfl) ?_
    refine q_run rfl rfl (fun _ H => r_ix (i := i) rfl rfl (by omega) (by omega) Try.underlying23 sz39) ?_
    refine q_run rfl rfl (fun _ H => r_fa rfl fo39_0) ?_
    refine q_run rfl rfl (fun _ H => r_lr (HP.same H.only) rfl hc0 (by simp) ag22) ?_
    refine q_run rfl rfl (fun _ H => r_len rfl Try.underlying22) ?_
    refine q_run rfl rfl (fun _ H => r_add rfl rfl (wI (by omega))) ?_
    refine q_run rfl rfl (fun _ H => r_fa0 rfl fo25_1) ?_
    refine q_run rfl rfl (fun _ H => r_lo (HP.same H.only) 2 rfl rfl rfl ag23) ?_
    refine q_run rfl rfl (fun _ H => r_mv (v := .int _ _) rfl) ?_
    refine q_run rfl rfl (fun _ H => r_ix (i := i) rfl rfl (by omega) (by omega) Try.underlying23 sz39) ?_
    refine q_run rfl rfl (fun _ H => r_fa rfl fo39_1) ?_
    refine q_run rfl rfl (fun _ H => r_lr (HP.same H.only) rfl hc1 (by simp) ag37) ?_
    refine q_run rfl rfl (fun _ H => r_len rfl Try.underlying37) ?_
    refine q_run rfl rfl (fun _ H => r_add rfl rfl (wI (by omega))) ?_
    refine q_run rfl rfl (fun _ H => r_as (v := .int _ _) rfl) ?_
    refine q_nil ?_
    intro _ H'; clear H; have H := H'; clear H'
    refine b_norm ?_
    refine c_norm ?_
    refine k_rg ?_
    refine s_run rfl rfl (rmi rfl) ?_
    refine s_run rfl rfl (r_add rfl rfl (wI (by omega))) ?_
    refine s_run rfl rfl (rai rfl) ?_
    refine k_nil ?_
    refine c_round ?_
    refine ⟨_, _, ?_, rfl, i + 1, s + 1 + x.n + x.m, by omega, rfl, by rw [hstep]; omega, by omega, rfl, rfl, rfl, rfl, rfl, rfl, H⟩
    omega
   ·obtain rfl : i = g.m := by omega
    have e : g.nodes.take g.m = g.nodes := by rw [← hnl, ← g.nodes_len]; exact List.take_length
    rw [e] at hss
    subst hss
    have hrc : rightB c = true := canon_right (hg.later HP.only (by simp)) hb ho (fun x hx => ⟨(kc.ns.2 x hx).pl, (kc.ns.2 x hx).dl⟩) q2 er en
    have sc : Sm c := ⟨by omega, by omega, q4⟩
    have hod := ho.nodup
    have hco := Gr.canon_ord ho
    have hcc := Gr.canon_canon (roots := g.rs) (ns := g.nodes) hod
    rw [← er, ← en] at hco
    have hC2 := fun W (h : Only [] WC W) => gCanon1 c W (kc.later h (by simp)) hrc sc
    unfold GrS.cells at hC2
    refine k_seq ?_
    refine k_sg ?_
    refine s_run rfl rfl (rmi rfl) ?_
    refine s_run rfl rfl (r_fa0 rfl fo25_1) ?_
    refine s_run rfl rfl (r_lo (HP.same H.only) 2 rfl rfl rfl ag23) ?_
    refine s_run rfl rfl (r_len rfl Try.underlying23) ?_
    refine s_run rfl rfl (r_lssF rfl rfl (by omega)) ?_
    refine k_nc ?_
    refine k_f rfl ?_
    refine k_exit ?_
    refine c_exit ?_
    refine c_exit ?_
    refine b_hit ?_
    refine c_norm ?_
    refine k_sg ?_
    refine s_run rfl rfl (r_la H 0 rfl rfl rfl ag25 sz25) ?_
    refine s_call rfl (hC2 _ H.only) (ca28 rfl) ?_
    rintro e W1 ⟨⟨d, out2, rfl, kd, ho2, er2, en2, r1, r2, r3, r4⟩, H'⟩
    refine ⟨_, rfl, ?_⟩
    obtain ⟨WD, rfl⟩ : ∃ X, X = W1 := ⟨W1, rfl⟩; have HQ := H.same H'; clear H'; clear H; have H := Heap.nil WD
    refine s_run rfl rfl (rmt rfl) ?_
    refine s_run rfl rfl (r_ext (v := .agg _) rfl rfl) ?_
    refine s_run rfl rfl (r_ext (v := .int _ _) rfl rfl) ?_
    refine s_al H rfl inf25 ?_
    intro p8 _ H'; clear H; have H := H'; clear H'
    refine s_sw H 0 rfl rfl rfl rfl rfl rfl rfl sz25 ?_
    clear H; intro _ H; simp only [jA, jB, jC, jD, jE, jF, jG, jH, jI, jJ, jK, Nat.reduceAdd] at H
    refine s_run rfl rfl (rai rfl) ?_
    refine k_nc ?_
    refine k_seq ?_
    have sd : Sm d := ⟨by omega, by omega, r4⟩
    have L1 := fun W' (h : Only [] WD W') => HP.same (HQ.only.trans h)
    have L2 := fun W' (h : Only [] WD W') => HQ.same h
    have kcl := fun W' (h : Only [] WD W') => kc.later (HQ.only.trans h) (by simp)
    have e2 := ho2.same hco
    have esd : sameB c d = true := by
     refine decide_eq_true ⟨?_, ?_⟩
     ·rw [er2, e2, er]; exact hcc.1.symm
     ·rw [en2, e2, en]; exact hcc.2.symm
    have eal : alB g c = true := by
     rw [alB_yes hb hrc ho hco]
     refine decide_eq_true ⟨?_, ?_⟩
     ·rw [er]; exact hcc.1.symm
     ·rw [en]; exact hcc.2.symm
    have hS2 := fun W' (h : Only [] WD W') => gSame c d W' (kcl W' h) (kd.later h (by simp)) sc sd
    rw [esd] at hS2
    have hA2 := fun W' (h : Only [] WD W') => hAl c W' (L1 W' h).only (kcl W' h) sa sc
    rw [eal] at hA2
    have hRC := fun W' (h : Only [] WD W') => lRefE c W' (kcl W' h) sc
    have hSD : ∀ {u : GrS} {W0 W' : World} {L : List Ent} {NA2 : Option Addr} {cN2 : Nat} {o3 : List Int}, Heap W0 [] (ownN 2 (.slice NA2 c.m cN2) c.m ((flatN c.ns).map C1.v) 40 :: L) W' → Only [] WD W' → GrOk W' [] u → Gr.IsOrd (Gr.ptr g.nodes) g.rs o3 → u.rs = Gr.canonR g.rs o3 → u.nodes = Gr.canonN g.nodes o3 → u.n = g.n → u.m = o3.length → o3.length ≤ g.m → (∀ x ∈ u.ns, x.n ≤ 1000 ∧ x.m ≤ 100000) →
      Calls Try.prog 17 [.agg (refG c NA2 cN2).cells.toArray, .agg u.cells.toArray].toArray W' fun e w' => e = .returned (.bool true) ∧ Only [] W' w' := by
     intro u W0 W' L NA2 cN2 o3 h hO ku h3 r1 n1 x1 x2 x3 x4
     have h5 := dSame (refG c NA2 cN2) u W' (ref_ok (kcl W' hO) h 0 rfl) ku (ref_sm sc NA2 cN2) ⟨by omega, by omega, x4⟩
     have e : sameB (refG c NA2 cN2) u = true := by
      have eo := h3.same ho
      refine decide_eq_true ⟨?_, ?_⟩
      ·rw [r1, eo]; exact er
      ·rw [n1, eo]; exact en
     rw [e] at h5; exact h5
    unfold GrS.cells at hS2 hRC hSD
    unfold refG at hRC hSD
    have HR := H; clear H; have H := HR.tree; refine k_tr mixed ?_
    refine tqh 0 rfl rfl rfl (fun _ hS => r_la (L1 _ (HR.same hS).only) 2 rfl rfl rfl ag25 sz25) H.only ?_
    refine t_up1 1 (by kernel_rfl) ?_
    refine up_mk rfl ?_
    refine s_call rfl (hR _ (L1 _ (HR.same H.only).only).only) (ca29 rfl) ?_
    rintro e W1 ⟨rfl, H'⟩
    refine ⟨_, rfl, ?_⟩
    have H := H.same H'; clear H'
    refine k_nil ?_
    refine t_on H.only ?_
    refine tqh 2 rfl rfl rfl (fun _ hS => r_mv (v := .bool _) rfl) H.only ?_
    refine tqh 3 rfl rfl (g_on 86 (by kernel_rfl) rfl) (fun _ hS => r_mv (v := .int _ _) rfl) H.only ?_
    refine tqh 4 rfl rfl (g_on 86 (by kernel_rfl) rfl) (fun _ hS => r_eqlT rfl rfl (by omega)) H.only ?_
    refine tqh 5 rfl rfl rfl (fun _ hS => r_pkT (v := .bool _) rfl rfl) H.only ?_
    refine tqh 6 rfl rfl rfl (fun _ hS => r_mv (v := .bool _) rfl) H.only ?_
    refine tqh 7 rfl rfl (g_on 90 (by kernel_rfl) rfl) (fun _ hS => r_la (L2 _ (HR.same hS).only) 0 rfl rfl rfl ag25 sz25) H.only ?_
    refine tqh 9 rfl rfl (g_on 90 (by kernel_rfl) rfl) (fun _ hS => r_la (L1 _ (HR.same hS).only) 0 rfl rfl rfl ag30 sz30) H.only ?_
    refine t_up1 8 (by kernel_rfl) ?_
    refine up_mk rfl ?_
    refine s_call (g_on 90 (by kernel_rfl) rfl) (hRC _ (HR.same H.only).only) (ca15 rfl) ?_
    rintro e W1 ⟨NA2, cN2, rfl, H'⟩
    refine ⟨_, rfl, ?_⟩
    (try replace ku := ku.later (Heap.only H') (by simp)); have H := H.more H'; clear H'
    refine k_nil ?_
    refine t_on H.only ?_
    refine t_up1 10 (by kernel_rfl) ?_
    refine up_mk rfl ?_
    refine s_call (g_on 90 (by kernel_rfl) rfl) (hDC NA cN _ _ _ (L1 _ (HR.same H.only).only)) (ca19 rfl) ?_
    rintro e W1 ⟨⟨u, o3, rfl, ku, ho3, er3, en3, v1, v2, v3, v4⟩, H'⟩
    refine ⟨_, rfl, ?_⟩
    have H := H.same H'; clear H'
    refine k_nil ?_
    refine t_on H.only ?_
    refine t_up1 11 (by kernel_rfl) ?_
    refine up_mk rfl ?_
    refine s_call (g_on 90 (by kernel_rfl) rfl) (hSD H (HR.same H.only).only ku ho3 er3 en3 v1 v2 v3 v4) (ca17 rfl) ?_
    rintro e W1 ⟨rfl, H'⟩
    refine ⟨_, rfl, ?_⟩
    have H := H.same H'; clear H'
    refine k_nil ?_
    refine t_on H.only ?_
    refine tqh 12 rfl rfl rfl (fun _ hS => r_pkT (v := .bool _) rfl rfl) H.only ?_
    refine tqh 13 rfl rfl rfl (fun _ hS => r_mv (v := .bool _) rfl) H.only ?_
    refine tqh 14 rfl rfl (g_on 97 (by kernel_rfl) rfl) (fun _ hS => r_la (L1 _ (HR.same hS).only) 2 rfl rfl rfl ag25 sz25) H.only ?_
    refine tqh 16 rfl rfl (g_on 97 (by kernel_rfl) rfl) (fun _ hS => r_fa0 rfl fo25_1) H.only ?_
    refine tqh 17 rfl rfl (g_on 97 (by kernel_rfl) rfl) (fun _ hS => r_lo (L2 _ (HR.same hS).only) 0 rfl rfl rfl ag23) H.only ?_
    refine tqh 18 rfl rfl (g_on 97 (by kernel_rfl) rfl) (fun _ hS => r_len rfl Try.underlying23) H.only ?_
    refine t_up1 15 (by kernel_rfl) ?_
    refine up_mk rfl ?_
    refine s_call (g_on 97 (by kernel_rfl) rfl) (hRe _ (L1 _ (HR.same H.only).only).only) (ca23 rfl) ?_
    rintro e W1 ⟨⟨r, rfl, _, hr1⟩, H'⟩
    refine ⟨_, rfl, ?_⟩
    have H := H.same H'; clear H'; obtain ⟨o4, ho4, rfl⟩ := hr1 hb; have e5 : o4.length = c.m := by rw [ho4.same ho, q2]
    refine k_nil ?_
    refine t_on H.only ?_
    refine tqh 19 rfl rfl (g_on 97 (by kernel_rfl) rfl) (fun _ hS => r_eqlT rfl rfl (by omega)) H.only ?_
    refine tqh 20 rfl rfl rfl (fun _ hS => r_pkT (v := .bool _) rfl rfl) H.only ?_
    refine tqh 21 rfl rfl rfl (fun _ hS => r_mv (v := .bool _) rfl) H.only ?_
    refine tqh 22 rfl rfl (g_on 105 (by kernel_rfl) rfl) (fun _ hS => r_la (L1 _ (HR.same hS).only) 2 rfl rfl rfl ag25 sz25) H.only ?_
    refine tqh 24 rfl rfl (g_on 105 (by kernel_rfl) rfl) (fun _ hS => r_mv (v := .int _ _) rfl) H.only ?_
    refine t_up1 23 (by kernel_rfl) ?_
    refine up_mk rfl ?_
    refine s_call (g_on 105 (by kernel_rfl) rfl) (hWo _ (L1 _ (HR.same H.only).only).only) (ca27 rfl) ?_
    rintro e W1 ⟨rfl, H'⟩
    refine ⟨_, rfl, ?_⟩
    have H := H.same H'; clear H'
    refine k_nil ?_
    refine t_on H.only ?_
    refine tqh 25 rfl rfl (g_on 105 (by kernel_rfl) rfl) (fun _ hS => r_eqlT rfl rfl (by omega)) H.only ?_
    refine tqh 26 rfl rfl rfl (fun _ hS => r_pkT (v := .bool _) rfl rfl) H.only ?_
    refine tqh 27 rfl rfl rfl (fun _ hS => r_mv (v := .bool _) rfl) H.only ?_
    refine tqh 28 rfl rfl (g_on 111 (by kernel_rfl) rfl) (fun _ hS => r_mv (v := .int _ _) rfl) H.only ?_
    refine tqh 29 rfl rfl (g_on 111 (by kernel_rfl) rfl) (fun _ hS => r_eqlT rfl rfl (by omega)) H.only ?_
    refine tqh 30 rfl rfl rfl (fun _ hS => r_pkT (v := .bool _) rfl rfl) H.only ?_
    refine tqh 31 rfl rfl rfl (fun _ hS => r_mv (v := .bool _) rfl) H.only ?_
    refine tqh 32 rfl rfl (g_on 115 (by kernel_rfl) rfl) (fun _ hS => r_la (L2 _ (HR.same hS).only) 0 rfl rfl rfl ag25 sz25) H.only ?_
    refine tqh 33 rfl rfl (g_on 115 (by kernel_rfl) rfl) (fun _ hS => r_la (HR.same hS) 0 rfl rfl rfl ag25 sz25) H.only ?_
    refine t_up1 34 (by kernel_rfl) ?_
    refine up_mk rfl ?_
    refine s_call (g_on 115 (by kernel_rfl) rfl) (hS2 _ (HR.same H.only).only) (ca16 rfl) ?_
    rintro e W1 ⟨rfl, H'⟩
    refine ⟨_, rfl, ?_⟩
    have H := H.same H'; clear H'
    refine k_nil ?_
    refine t_on H.only ?_
    refine tqh 35 rfl rfl rfl (fun _ hS => r_pkT (v := .bool _) rfl rfl) H.only ?_
    refine tqh 36 rfl rfl rfl (fun _ hS => r_mv (v := .bool _) rfl) H.only ?_
    refine tqh 37 rfl rfl (g_on 120 (by kernel_rfl) rfl) (fun _ hS => r_la (L1 _ (HR.same hS).only) 2 rfl rfl rfl ag25 sz25) H.only ?_
    refine tqh 38 rfl rfl (g_on 120 (by kernel_rfl) rfl) (fun _ hS => r_la (L2 _ (HR.same hS).only) 0 rfl rfl rfl ag25 sz25) H.only ?_
    refine t_up1 39 (by kernel_rfl) ?_
    refine up_mk rfl ?_
    refine s_call (g_on 120 (by kernel_rfl) rfl) (hA2 _ (HR.same H.only).only) (ca20 rfl) ?_
    rintro e W1 ⟨rfl, H'⟩
    refine ⟨_, rfl, ?_⟩
    have H := H.same H'; clear H'
    refine k_nil ?_
    refine t_on H.only ?_
    refine tqh 40 rfl rfl rfl (fun _ hS => r_pkT (v := .bool _) rfl rfl) H.only ?_
    refine tqh 41 rfl rfl rfl (fun _ hS => r_as (v := .bool _) rfl) H.only ?_
    refine t_done (by kernel_rfl) ?_
    have H := HR.more H; clear HR; simp only [List.cons_append, List.nil_append] at H
    refine c_norm ?_
    refine k_ret ?_
    refine fin1r (v := .bool _) rfl rfl ?_
    exact ⟨rfl, (L1 _ H.only).below⟩
end Go.Proofs.Ytdgmlfpikgjnlaa
end

section
namespace Go.Proofs.Ytdgmlfpikgjnlaa.lGraphCanons
open Go.ChangeShapes Go.WideShapes Go.ChangeAt Go.RowKit
theorem own : ownKnob Try.prog.godebug = none := by kernel_rfl
theorem laidOut : laidOutB Try.prog = true := by kernel_rfl
set_option maxRecDepth 100000 in
theorem lifted (os : Os) (started : os.Started) (H : Type) (enc : TypeId × Value → H) :
  ReturnsInHanded {} Try.checked os 7 .any (Rows.graphCanonsSpec.pre6 enc Try.prog Try.f7 Rows.graphCanonsRow.domain false) (Rows.graphCanonsSpec.post enc Try.prog Try.f7 false true false false) := by
 refine returnsInHanded_of_change (C := Try.checked) own started (by kernel_rfl) Try.func7
  (ChangeSpec.witness6 (enc := enc) (C := Try.checked) false ⟨#[], #[.agg #[.slice none 0 0, .slice none 0 0]], []⟩ 8 (by kernel_rfl) (by kernel_rfl) (by kernel_rfl) (by kernel_rfl)) ?_
 intro W base args ds gs before hval0 hW hcnd _
 have hval : ∀ (j : Nat) t v, Try.f7.params[j]? = some t → args[j]? = some v → Value.okWide Try.prog W .any base t v := hval0
 have hW' := hW
 obtain ⟨p, q, hA0, hV, rfl, hfz, hnd⟩ := hW
 have hA : DataW.TrodAll enc Try.prog W 0 (fun _ => true) true Try.f7.params.toList args.toList ds p := hA0
 rw [Try.params7] at hA hval
 obtain ⟨v0, vs0, d0, ds0, p0, q0, hargs, rfl, rfl, h0, r0⟩ := trodAll_cons hA
 obtain ⟨rfl, rfl, rfl⟩ := trodAll_nil r0
 obtain rfl : args = #[v0] := by cases args; simp_all
 obtain ⟨rfl, rfl⟩ := trodVars_none hV
 have k0 := h0
 have lt0 : ∀ x ∈ p0, x.block < W.heap.size := by obtain ⟨m, hm⟩ := k0; exact DataW.trod_lt m _ _ _ hm
 obtain ⟨x0, rfl, w0⟩ := open_graph W base v0 d0 p0 (hval 0 25 v0 rfl rfl) h0
 clear hA0 hval0
 refine (walk_GraphCanons x0 W w0).mono fun e W' ⟨he, bel⟩ => ?_
 subst he
 exact ⟨_, rfl, _, _, _, [], _, [], hW', trodAll_mk1 (shut_bool Try.underlying4 _), (trodAll_cons_mk (Below.trod laidOut (by kernel_rfl) (of_decide_eq_true (by kernel_rfl)) k0 bel lt0) trodAll_mk0), rfl, bel.frame _, fun h => by cases h⟩
theorem over : Rows.graphCanonsRow.holds Try.pinned (OpenSpec.ofChange Rows.graphCanonsSpec) :=
 OpenClaim.holds_of_wide 7 Try.f7 rfl rfl rfl rfl rfl rfl rfl ⟨rfl, rfl, rfl, rfl, rfl⟩ rfl rfl rfl rfl rfl (by kernel_rfl) Try.func7 (by kernel_rfl)
  (of_decide_eq_true (by kernel_rfl)) (by unfold Func.isWrapper; first | (rw [if_pos (by decide +kernel)]; kernel_rfl) | (rw [if_neg (by decide +kernel)]; exact ⟨rfl, rfl⟩))
  (fun os started H enc _ => lifted os started H enc)
theorem proved : Rows.GraphCanonsSaid := over
#print axioms proved
end Go.Proofs.Ytdgmlfpikgjnlaa.lGraphCanons
end
