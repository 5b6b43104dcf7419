/-
  GraphSames: for every input the Go function answers true, and its arguments read afterwards as they read before. No condition.
-/
import Derived.Deep.Slices
import Derived.Deep.Fields
import Derived.ChangeSame
import Derived.Test.YtdgmlfpikgjnlaaKGraphSamesc
set_option linter.unusedSimpArgs false
set_option linter.unusedVariables false
section
namespace Go.Proofs.Ytdgmlfpikgjnlaa
open Go.RowKit
set_option maxRecDepth 100000
set_option maxHeartbeats 2000000
def fewB (g : GrS) : Bool := decide (g.n ≤ 40 ∧ g.m ≤ 60 ∧ ∀ x ∈ g.ns, x.n ≤ 70 ∧ x.m ≤ 200)
theorem few_sm {g : GrS} (h : fewB g = true) : Sm g := by
 obtain ⟨h1, h2, h3⟩ := of_decide_eq_true h
 exact ⟨by omega, by omega, fun x hx => by have := h3 x hx; omega⟩
theorem lFew (g : GrS) (w : World) (hg : GrOk w [] g) :
  Calls Try.prog 14 [.agg g.cells.toArray].toArray w fun e w' => e = .returned (.bool (fewB g)) ∧ Only [] w w' := by
 have H := Heap.nil w
 have hnl := hg.nl
 have hnb := hg.nb
 have hmb := hg.mb
 have hbad : ∀ x ∈ g.ns, ¬ (x.n ≤ 70 ∧ x.m ≤ 200) → fewB g = false := fun x hx h => decide_eq_false fun h2 => h (h2.2.2 x hx)
 unfold GrS.cells
 by_cases h1 : g.n ≤ 40
 ·by_cases h2 : g.m ≤ 60
  ·refine k_in (N := 39) Try.func14 rfl rfl rfl ?_
   refine k_sg ?_
   refine s_box H rfl rfl ?_
   intro p1 _ H'; clear H; have H := H'; clear H'
   refine s_run rfl rfl (rab rfl) ?_
   refine k_nc ?_
   refine k_seq ?_
   refine k_sg ?_
   refine s_run rfl rfl (r_fa0 rfl fo25_0) ?_
   refine s_run rfl rfl (r_lo H 0 rfl rfl rfl ag22) ?_
   refine s_run rfl rfl (r_len rfl Try.underlying22) ?_
   refine s_run rfl rfl (r_gtrF rfl rfl (by omega)) ?_
   refine s_run rfl rfl (rmb rfl) ?_
   refine s_run rfl (g_on 8 (by kernel_rfl) rfl) (r_fa0 rfl fo25_1) ?_
   refine s_run rfl (g_on 8 (by kernel_rfl) rfl) (r_lo H 0 rfl rfl rfl ag23) ?_
   refine s_run rfl (g_on 8 (by kernel_rfl) rfl) (r_len rfl Try.underlying23) ?_
   refine s_run rfl (g_on 8 (by kernel_rfl) rfl) (r_gtrF rfl rfl (by omega)) ?_
   refine s_run rfl rfl (r_pkF (v := .bool _) rfl rfl) ?_
   refine k_nc ?_
   refine k_f rfl ?_
   refine k_skip ?_
   refine c_norm ?_
   refine k_seq ?_
   refine k_sg ?_
   refine s_run rfl rfl (rai rfl) ?_
   refine k_nc ?_
   refine k_b ?_
   refine k_loop (fun z f W => ∃ i : Nat, i ≤ g.m ∧ z = g.m - i ∧ (∀ j x, j < i → g.ns[j]? = some x → x.n ≤ 70 ∧ x.m ≤ 200) ∧ f 1 = ptr p1 ∧ f 3 = .int .i64 i ∧ Heap w [] [blk p1 [.slice g.A g.n g.c, .slice g.B g.m g.d] 25] W) g.m ⟨0, by omega, rfl, by omega, rfl, rfl, H⟩ ?_
   clear H
   rintro z f W ⟨i, hi, rfl, hall, f1, f3, H⟩
   obtain ⟨f, rfl⟩ := live2 f1 f3
   clear f1 f3
   by_cases hlt : i < g.m
   ·obtain ⟨x, hx⟩ : ∃ x, g.ns[i]? = some x := ⟨_, List.getElem?_eq_getElem (by omega)⟩
    have hxm := List.mem_of_getElem? hx
    have hxo := hg.ns.2 x hxm
    have hxn := hxo.nb
    have hxd := hxo.mb
    obtain ⟨b, o, hB, _, hrd⟩ := hg.ns.1 (by omega)
    have hc0 := hrd i x hx 0 _ rfl
    have hc1 := hrd i x hx 1 _ rfl
    rw [hB] at H
    by_cases h70 : x.n ≤ 70
    ·by_cases h200 : x.m ≤ 200
     ·refine k_seq ?_
      refine k_sg ?_
      refine s_run rfl rfl (rmi rfl) ?_
      refine s_run rfl rfl (r_fa0 rfl fo25_1) ?_
      refine s_run rfl rfl (r_lo H 0 rfl rfl rfl ag23) ?_
      refine s_run rfl rfl (r_len rfl Try.underlying23) ?_
      refine s_run rfl rfl (r_lssT rfl rfl (by omega)) ?_
      refine k_nc ?_
      refine k_t rfl ?_
      refine k_skip ?_
      refine c_norm ?_
      refine k_seq ?_
      refine k_b ?_
      refine k_sg ?_
      refine s_run rfl rfl (r_fa0 rfl fo25_1) ?_
      refine s_run rfl rfl (r_lo H 0 rfl rfl rfl ag23) ?_
      refine s_run rfl rfl (rmi rfl) ?_
      refine s_run rfl rfl (r_ix (i := i) rfl rfl (by omega) (by omega) Try.underlying23 sz39) ?_
      refine s_run rfl rfl (r_fa rfl fo39_0) ?_
      refine s_run rfl rfl (r_lr H rfl hc0 (by simp) ag22) ?_
      refine s_run rfl rfl (r_len rfl Try.underlying22) ?_
      refine s_run rfl rfl (r_gtrF rfl rfl (by omega)) ?_
      refine s_run rfl rfl (rmb rfl) ?_
      refine s_run rfl (g_on 29 (by kernel_rfl) rfl) (r_fa0 rfl fo25_1) ?_
      refine s_run rfl (g_on 29 (by kernel_rfl) rfl) (r_lo H 0 rfl rfl rfl ag23) ?_
      refine s_run rfl (g_on 29 (by kernel_rfl) rfl) (rmi rfl) ?_
      refine s_run rfl (g_on 29 (by kernel_rfl) rfl) (r_ix (i := i) rfl rfl (by omega) (by omega) Try.underlying23 sz39) ?_
      refine s_run rfl (g_on 29 (by kernel_rfl) rfl) (r_fa rfl fo39_1) ?_
      refine s_run rfl (g_on 29 (by kernel_rfl) rfl) (r_lr H rfl hc1 (by simp) ag37) ?_
      refine s_run rfl (g_on 29 (by kernel_rfl) rfl) (r_len rfl Try.underlying37) ?_
      refine s_run rfl (g_on 29 (by kernel_rfl) rfl) (r_gtrF rfl rfl (by omega)) ?_
      refine s_run rfl rfl (r_pkF (v := .bool _) rfl rfl) ?_
      refine k_nc ?_
      refine k_f rfl ?_
      refine k_skip ?_
      refine b_norm ?_
      refine c_norm ?_
      refine k_rg ?_
      refine s_run rfl rfl (rmi rfl) ?_
      refine s_run rfl rfl (r_add rfl rfl (wI (by omega))) ?_
      refine s_run rfl rfl (rai rfl) ?_
      refine k_nil ?_
      refine c_round ?_
      rw [← hB] at H
      refine ⟨_, _, ?_, rfl, i + 1, by omega, rfl, fun j y hj hy => ?_, rfl, rfl, H⟩
      ·omega
      ·by_cases e : j = i
       ·subst e; rw [hx] at hy; injection hy with hy; subst hy; exact ⟨h70, h200⟩
       ·exact hall j y (by omega) hy
     ·rw [hbad x hxm (fun h => h200 h.2)]
      refine k_seq ?_
      refine k_sg ?_
      refine s_run rfl rfl (rmi rfl) ?_
      refine s_run rfl rfl (r_fa0 rfl fo25_1) ?_
      refine s_run rfl rfl (r_lo H 0 rfl rfl rfl ag23) ?_
      refine s_run rfl rfl (r_len rfl Try.underlying23) ?_
      refine s_run rfl rfl (r_lssT rfl rfl (by omega)) ?_
      refine k_nc ?_
      refine k_t rfl ?_
      refine k_skip ?_
      refine c_norm ?_
      refine k_seq ?_
      refine k_b ?_
      refine k_sg ?_
      refine s_run rfl rfl (r_fa0 rfl fo25_1) ?_
      refine s_run rfl rfl (r_lo H 0 rfl rfl rfl ag23) ?_
      refine s_run rfl rfl (rmi rfl) ?_
      refine s_run rfl rfl (r_ix (i := i) rfl rfl (by omega) (by omega) Try.underlying23 sz39) ?_
      refine s_run rfl rfl (r_fa rfl fo39_0) ?_
      refine s_run rfl rfl (r_lr H rfl hc0 (by simp) ag22) ?_
      refine s_run rfl rfl (r_len rfl Try.underlying22) ?_
      refine s_run rfl rfl (r_gtrF rfl rfl (by omega)) ?_
      refine s_run rfl rfl (rmb rfl) ?_
      refine s_run rfl (g_on 29 (by kernel_rfl) rfl) (r_fa0 rfl fo25_1) ?_
      refine s_run rfl (g_on 29 (by kernel_rfl) rfl) (r_lo H 0 rfl rfl rfl ag23) ?_
      refine s_run rfl (g_on 29 (by kernel_rfl) rfl) (rmi rfl) ?_
      refine s_run rfl (g_on 29 (by kernel_rfl) rfl) (r_ix (i := i) rfl rfl (by omega) (by omega) Try.underlying23 sz39) ?_
      refine s_run rfl (g_on 29 (by kernel_rfl) rfl) (r_fa rfl fo39_1) ?_
      refine s_run rfl (g_on 29 (by kernel_rfl) rfl) (r_lr H rfl hc1 (by simp) ag37) ?_
      refine s_run rfl (g_on 29 (by kernel_rfl) rfl) (r_len rfl Try.underlying37) ?_
      refine s_run rfl (g_on 29 (by kernel_rfl) rfl) (r_gtrT rfl rfl (by omega)) ?_
      refine s_run rfl rfl (r_pkF (v := .bool _) rfl rfl) ?_
      refine k_nc ?_
      refine k_t rfl ?_
      refine k_sg ?_
      refine s_run rfl rfl (rab rfl) ?_
      refine k_nc ?_
      refine k_ret ?_
      refine b_ret ?_
      refine c_ret ?_
      refine c_ret ?_
      refine b_ret ?_
      refine c_ret ?_
      refine fin1r (v := .bool _) rfl rfl ?_
      exact ⟨rfl, H.only⟩
    ·rw [hbad x hxm (fun h => h70 h.1)]
     refine k_seq ?_
     refine k_sg ?_
     refine s_run rfl rfl (rmi rfl) ?_
     refine s_run rfl rfl (r_fa0 rfl fo25_1) ?_
     refine s_run rfl rfl (r_lo H 0 rfl rfl rfl ag23) ?_
     refine s_run rfl rfl (r_len rfl Try.underlying23) ?_
     refine s_run rfl rfl (r_lssT rfl rfl (by omega)) ?_
     refine k_nc ?_
     refine k_t rfl ?_
     refine k_skip ?_
     refine c_norm ?_
     refine k_seq ?_
     refine k_b ?_
     refine k_sg ?_
     refine s_run rfl rfl (r_fa0 rfl fo25_1) ?_
     refine s_run rfl rfl (r_lo H 0 rfl rfl rfl ag23) ?_
     refine s_run rfl rfl (rmi rfl) ?_
     refine s_run rfl rfl (r_ix (i := i) rfl rfl (by omega) (by omega) Try.underlying23 sz39) ?_
     refine s_run rfl rfl (r_fa rfl fo39_0) ?_
     refine s_run rfl rfl (r_lr H rfl hc0 (by simp) ag22) ?_
     refine s_run rfl rfl (r_len rfl Try.underlying22) ?_
     refine s_run rfl rfl (r_gtrT rfl rfl (by omega)) ?_
     refine s_run rfl rfl (rmb rfl) ?_
     refine s_off rfl (g_off 29 (by kernel_rfl) rfl rfl) ?_
     refine s_off rfl (g_off 29 (by kernel_rfl) rfl rfl) ?_
     refine s_off rfl (g_off 29 (by kernel_rfl) rfl rfl) ?_
     refine s_off rfl (g_off 29 (by kernel_rfl) rfl rfl) ?_
     refine s_off rfl (g_off 29 (by kernel_rfl) rfl rfl) ?_
     refine s_off rfl (g_off 29 (by kernel_rfl) rfl rfl) ?_
     refine s_off rfl (g_off 29 (by kernel_rfl) rfl rfl) ?_
     refine s_off rfl (g_off 29 (by kernel_rfl) rfl rfl) ?_
     refine s_run rfl rfl (r_pkT (v := .bool _) rfl rfl) ?_
     refine k_nc ?_
     refine k_t rfl ?_
     refine k_sg ?_
     refine s_run rfl rfl (rab rfl) ?_
     refine k_nc ?_
     refine k_ret ?_
     refine b_ret ?_
     refine c_ret ?_
     refine c_ret ?_
     refine b_ret ?_
     refine c_ret ?_
     refine fin1r (v := .bool _) rfl rfl ?_
     exact ⟨rfl, H.only⟩
   ·obtain rfl : i = g.m := by omega
    rw [show fewB g = true from decide_eq_true ⟨h1, h2, fun x hx => by
     obtain ⟨j, hj, rfl⟩ := List.mem_iff_getElem.1 hx
     exact hall j _ (by omega) (List.getElem?_eq_getElem hj)⟩]
    refine k_seq ?_
    refine k_sg ?_
    refine s_run rfl rfl (rmi rfl) ?_
    refine s_run rfl rfl (r_fa0 rfl fo25_1) ?_
    refine s_run rfl rfl (r_lo H 0 rfl rfl rfl ag23) ?_
    refine s_run rfl rfl (r_len rfl Try.underlying23) ?_
    refine s_run rfl rfl (r_lssF rfl rfl (by omega)) ?_
    refine k_nc ?_
    refine k_f rfl ?_
    refine k_exit ?_
    refine c_exit ?_
    refine c_exit ?_
    refine b_hit ?_
    refine c_norm ?_
    refine k_sg ?_
    refine s_run rfl rfl (rab rfl) ?_
    refine k_nc ?_
    refine k_ret ?_
    refine fin1r (v := .bool _) rfl rfl ?_
    exact ⟨rfl, H.only⟩
  ·rw [show fewB g = false from decide_eq_false fun h => h2 h.2.1]
   refine k_in (N := 39) Try.func14 rfl rfl rfl ?_
   refine k_sg ?_
   refine s_box H rfl rfl ?_
   intro p1 _ H'; clear H; have H := H'; clear H'
   refine s_run rfl rfl (rab rfl) ?_
   refine k_nc ?_
   refine k_seq ?_
   refine k_sg ?_
   refine s_run rfl rfl (r_fa0 rfl fo25_0) ?_
   refine s_run rfl rfl (r_lo H 0 rfl rfl rfl ag22) ?_
   refine s_run rfl rfl (r_len rfl Try.underlying22) ?_
   refine s_run rfl rfl (r_gtrF rfl rfl (by omega)) ?_
   refine s_run rfl rfl (rmb rfl) ?_
   refine s_run rfl (g_on 8 (by kernel_rfl) rfl) (r_fa0 rfl fo25_1) ?_
   refine s_run rfl (g_on 8 (by kernel_rfl) rfl) (r_lo H 0 rfl rfl rfl ag23) ?_
   refine s_run rfl (g_on 8 (by kernel_rfl) rfl) (r_len rfl Try.underlying23) ?_
   refine s_run rfl (g_on 8 (by kernel_rfl) rfl) (r_gtrT rfl rfl (by omega)) ?_
   refine s_run rfl rfl (r_pkF (v := .bool _) rfl rfl) ?_
   refine k_nc ?_
   refine k_t rfl ?_
   refine k_sg ?_
   refine s_run rfl rfl (rab rfl) ?_
   refine k_nc ?_
   refine k_ret ?_
   refine c_ret ?_
   refine fin1r (v := .bool _) rfl rfl ?_
   exact ⟨rfl, H.only⟩
 ·rw [show fewB g = false from decide_eq_false fun h => h1 h.1]
  refine k_in (N := 39) Try.func14 rfl rfl rfl ?_
  refine k_sg ?_
  refine s_box H rfl rfl ?_
  intro p1 _ H'; clear H; have H := H'; clear H'
  refine s_run rfl rfl (rab rfl) ?_
  refine k_nc ?_
  refine k_seq ?_
  refine k_sg ?_
  refine s_run rfl rfl (r_fa0 rfl fo25_0) ?_
  refine s_run rfl rfl (r_lo H 0 rfl rfl rfl ag22) ?_
  refine s_run rfl rfl (r_len rfl Try.underlying22) ?_
  refine s_run rfl rfl (r_gtrT rfl rfl (by omega)) ?_
  refine s_run rfl rfl (rmb rfl) ?_
  refine s_off rfl (g_off 8 (by kernel_rfl) rfl rfl) ?_
  refine s_off rfl (g_off 8 (by kernel_rfl) rfl rfl) ?_
  refine s_off rfl (g_off 8 (by kernel_rfl) rfl rfl) ?_
  refine s_off rfl (g_off 8 (by kernel_rfl) rfl rfl) ?_
  refine s_run rfl rfl (r_pkT (v := .bool _) rfl rfl) ?_
  refine k_nc ?_
  refine k_t rfl ?_
  refine k_sg ?_
  refine s_run rfl rfl (rab rfl) ?_
  refine k_nc ?_
  refine k_ret ?_
  refine c_ret ?_
  refine fin1r (v := .bool _) rfl rfl ?_
  exact ⟨rfl, H.only⟩
/-- the document's graph: the same rows, in a row of nodes of its own -/
def refG (g : GrS) (NA : Option Addr) (cN : Nat) : GrS := ⟨g.A, g.n, g.c, g.rs, NA, g.m, cN, g.ns⟩
theorem ref_ok {g : GrS} {w W : World} {F : List Nat} {L : List Ent} {NA : Option Addr} {cN : Nat} {T : TypeId} (hg2 : GrOk W [] g) (H : Heap w F L W) (j : Nat) (hj : L[j]? = some (ownN 2 (.slice NA g.m cN) g.m ((flatN g.ns).map C1.v) T)) : GrOk W [] (refG g NA cN) := by
 refine ⟨hg2.rs, hg2.rl, hg2.rb, ⟨fun h0 => ?_, hg2.ns.2⟩, hg2.nl, hg2.nb, hg2.mb⟩
 have h0' : g.ns.length ≠ 0 := h0
 obtain ⟨b, e, _, hr⟩ := H.own_seesN j hj (by rw [flatN_len]; omega)
 refine ⟨b, 0, e, by simp, fun i x hi j u hj => ?_⟩
 obtain ⟨g1, g2⟩ := flatN_get g.ns i x hi
 have hj2 : j < 2 := by have := (List.getElem?_eq_some_iff.1 hj).1; exact this
 rw [show 0 + i * 2 + j = 0 + (i * 2 + j) by omega]
 match j, hj2, hj with
 | 0, _, hj => exact (hr _ _ g1).trans (by simpa [NodeS.cells, C1.v] using hj)
 | 1, _, hj => exact (hr _ _ g2).trans (by simpa [NodeS.cells, C1.v] using hj)
theorem ref_sm {g : GrS} (h : Sm g) (NA : Option Addr) (cN : Nat) : Sm (refG g NA cN) := ⟨h.n, h.m, h.p⟩
theorem ref_right (g : GrS) (NA : Option Addr) (cN : Nat) : rightB (refG g NA cN) = rightB g := rfl
theorem ref_same (a b : GrS) (A B : Option Addr) (c d : Nat) : sameB (refG a A c) (refG b B d) = sameB a b := rfl
theorem lRefE (g : GrS) (w : World) (hg : GrOk w [] g) (hs : Sm g) :
  Calls Try.prog 15 [.agg g.cells.toArray].toArray w fun e w' => ∃ NA cN, e = .returned (.agg (refG g NA cN).cells.toArray) ∧ Heap w [] [ownN 2 (.slice NA g.m cN) g.m ((flatN g.ns).map C1.v) 40] w' := by
 have H := Heap.nil w
 have hnl := hg.nl
 have hm := hs.m
 unfold refG GrS.cells
 refine k_in (N := 34) Try.func15 rfl rfl rfl ?_
 refine k_sg ?_
 refine s_box H rfl rfl ?_
 intro p1 _ H'; clear H; have H := H'; clear H'
 refine s_al H rfl inf30 ?_
 intro p2 _ H'; clear H; have H := H'; clear H'
 refine k_nc ?_
 refine k_sg ?_
 refine s_run rfl rfl (r_fa0 rfl fo25_0) ?_
 refine s_run rfl rfl (r_lo H 1 rfl rfl rfl ag22) ?_
 refine s_run rfl rfl (r_bd (bd30_0 _ _ _) rfl) ?_
 refine s_al H rfl inf30 ?_
 intro p3 _ H'; clear H; have H := H'; clear H'
 refine s_sw H 0 rfl rfl rfl rfl rfl rfl rfl sz30 ?_
 clear H; intro _ H; simp only [jA, jB, jC, jD, jE, jF, jG, jH, jI, jJ, jK, Nat.reduceAdd] at H
 refine k_nc ?_
 refine k_seq ?_
 refine k_sg ?_
 refine s_run rfl rfl (rai rfl) ?_
 refine k_nc ?_
 refine k_b ?_
 replace H := H.own_nil 2 40
 replace H := H.order [1, 0, 2, 3] rfl rfl
 refine k_loop (fun z f W => ∃ (i : Nat) (NA : Option Addr) (cN : Nat), i ≤ g.m ∧ z = g.m - i ∧ f 1 = ptr p1 ∧ f 2 = ptr p2 ∧ f 3 = ptr p3 ∧ f 4 = .int .i64 i ∧ Heap w [] [blk p3 [.slice g.A g.n g.c, .slice NA i cN] 30, ownN 2 (.slice NA i cN) i ((flatN (g.ns.take i)).map C1.v) 40, blk p2 [.slice none 0 0, .slice none 0 0] 30, blk p1 [.slice g.A g.n g.c, .slice g.B g.m g.d] 25] W) g.m ⟨0, none, 0, by omega, rfl, rfl, rfl, rfl, rfl, H⟩ ?_
 clear H
 rintro z f W ⟨i, NA, cN, hi, rfl, f1, f2, f3, f4, H⟩
 obtain ⟨f, rfl⟩ := live4 f1 f2 f3 f4
 clear f1 f2 f3 f4
 by_cases hlt : i < g.m
 ·obtain ⟨x, hx⟩ : ∃ x, g.ns[i]? = some x := ⟨_, List.getElem?_eq_getElem (by omega)⟩
  have hxm := List.mem_of_getElem? hx
  obtain ⟨b, o, hB, _, hrd⟩ := hg.ns.1 (by omega)
  have hc0 := hrd i x hx 0 _ rfl
  have hc1 := hrd i x hx 1 _ rfl
  have hfl : flatN (g.ns.take (i + 1)) = flatN (g.ns.take i) ++ [C1.s x.A x.n x.c, C1.s x.B x.m x.d] := by
   rw [List.take_add_one, hx, Option.toList_some, flatN_snoc]
  rw [hB] at H
  refine k_seq ?_
  refine k_sg ?_
  refine s_run rfl rfl (rmi rfl) ?_
  refine s_run rfl rfl (r_fa0 rfl fo25_1) ?_
  refine s_run rfl rfl (r_lo H 3 rfl rfl rfl ag23) ?_
  refine s_run rfl rfl (r_len rfl Try.underlying23) ?_
  refine s_run rfl rfl (r_lssT rfl rfl (by omega)) ?_
  refine k_nc ?_
  refine k_t rfl ?_
  refine k_skip ?_
  refine c_norm ?_
  refine k_seq ?_
  refine k_b ?_
  refine k_trS (A := [_]) mixed H [3] rfl ?_; have H' := H.drew; clear H; have H := H'; clear H'
  refine tqh 0 rfl rfl rfl (fun _ hS => r_fa0 rfl fo30_1) (H.subl [3] rfl rfl) ?_
  refine tqh 2 rfl rfl rfl (fun _ hS => r_fa0 rfl fo25_1) (H.subl [3] rfl rfl) ?_
  refine tqh 3 rfl rfl rfl (fun _ hS => r_lo hS 0 rfl rfl rfl ag23) (H.subl [3] rfl rfl) ?_
  refine tqh 4 rfl rfl rfl (fun _ hS => r_mv (v := .int _ _) rfl) (H.subl [3] rfl rfl) ?_
  refine tqh 5 rfl rfl rfl (fun _ hS => r_ix (i := i) rfl rfl (by omega) (by omega) Try.underlying23 sz39) (H.subl [3] rfl rfl) ?_
  refine tqh 6 rfl rfl rfl (fun _ hS => r_fa rfl fo39_0) (H.subl [3] rfl rfl) ?_
  refine tqh 7 rfl rfl rfl (fun _ hS => r_lr hS rfl hc0 (by simp) ag22) (H.subl [3] rfl rfl) ?_
  refine tqh 8 rfl rfl rfl (fun _ hS => r_fa0 rfl fo25_1) (H.subl [3] rfl rfl) ?_
  refine tqh 9 rfl rfl rfl (fun _ hS => r_lo hS 0 rfl rfl rfl ag23) (H.subl [3] rfl rfl) ?_
  refine tqh 10 rfl rfl rfl (fun _ hS => r_mv (v := .int _ _) rfl) (H.subl [3] rfl rfl) ?_
  refine tqh 11 rfl rfl rfl (fun _ hS => r_ix (i := i) rfl rfl (by omega) (by omega) Try.underlying23 sz39) (H.subl [3] rfl rfl) ?_
  refine tqh 12 rfl rfl rfl (fun _ hS => r_fa rfl fo39_1) (H.subl [3] rfl rfl) ?_
  refine tqh 13 rfl rfl rfl (fun _ hS => r_lr hS rfl hc1 (by simp) ag37) (H.subl [3] rfl rfl) ?_
  refine tqh 14 rfl rfl rfl (fun _ hS => r_bd (bd40_0_1 _ _ _ _ _ _) rfl) (H.subl [3] rfl rfl) ?_
  refine t_up2 1 15 (by kernel_rfl) ?_ ?_
  ·refine up_mk rfl ?_
   refine s_run rfl rfl (r_lo H 0 rfl rfl rfl ag28) ?_
   refine k_nil ?_
   refine t_on (H.subl [3] rfl rfl) ?_
   refine t_up1 15 (by kernel_rfl) ?_
   refine up_mk rfl ?_
   refine s_bsN (enc := C1.v) (size := 2) (zs := [C1.s x.A x.n x.c, C1.s x.B x.m x.d]) H rfl rfl rfl (by omega) (by kernel_rfl) Try.underlying28 inf40 ?_
   intro _ _ H'; clear H; have H := H'; clear H'
   refine k_nil ?_
   refine t_on (H.subl [4] rfl rfl) ?_
   refine t_up1 16 (by kernel_rfl) ?_
   refine up_mk rfl ?_
   refine s_apB (enc := C1.v) (size := 2) H 1 rfl rfl rfl rfl C1.one (by omega) (by omega) Try.underlying28 inf40 rfl ?_
   intro NA' cN' _ H'; simp only [List.set_cons_zero, List.set_cons_succ, List.take_succ_cons, List.take_zero, List.drop_succ_cons, List.drop_zero, List.cons_append, List.nil_append, List.append_nil, List.length_cons, List.length_nil, Nat.reduceAdd] at H'; clear H; have H := H'; clear H'
   refine k_nil ?_
   refine t_on (H.subl [3] rfl rfl) ?_
   refine tqh 17 rfl rfl rfl (fun _ hS => r_fa0 rfl fo30_1) (H.subl [3] rfl rfl) ?_
   refine t_up1 18 (by kernel_rfl) ?_
   refine up_mk rfl ?_
   refine s_st (u := .slice _ _ _) H 0 rfl rfl rfl rfl rfl rfl sz28 ?_
   clear H; intro _ H; simp only [jA, jB, jC, jD, jE, jF, jG, jH, jI, jJ, jK, Nat.reduceAdd] at H
   refine k_nil ?_
   refine t_on (H.subl [3] rfl rfl) ?_
   refine t_done (by kernel_rfl) ?_
   refine b_norm ?_
   refine c_norm ?_
   refine k_rg ?_
   refine s_run rfl rfl (rmi rfl) ?_
   refine s_run rfl rfl (r_add rfl rfl (wI (by omega))) ?_
   refine s_run rfl rfl (rai rfl) ?_
   refine k_nil ?_
   refine c_round ?_
   refine ⟨_, _, ?_, rfl, i + 1, NA', cN', by omega, rfl, rfl, rfl, rfl, rfl, by rw [hfl, hB]; exact H⟩
   omega
  ·refine up_mk rfl ?_
   refine s_bsN (enc := C1.v) (size := 2) (zs := [C1.s x.A x.n x.c, C1.s x.B x.m x.d]) H rfl rfl rfl (by omega) (by kernel_rfl) Try.underlying28 inf40 ?_
   intro _ _ H'; clear H; have H := H'; clear H'
   refine k_nil ?_
   refine t_on (H.subl [4] rfl rfl) ?_
   refine t_up1 1 (by kernel_rfl) ?_
   refine up_mk rfl ?_
   refine s_run rfl rfl (r_lo H 1 rfl rfl rfl ag28) ?_
   refine k_nil ?_
   refine t_on (H.subl [4] rfl rfl) ?_
   refine t_up1 16 (by kernel_rfl) ?_
   refine up_mk rfl ?_
   refine s_apB (enc := C1.v) (size := 2) H 1 rfl rfl rfl rfl C1.one (by omega) (by omega) Try.underlying28 inf40 rfl ?_
   intro NA' cN' _ H'; simp only [List.set_cons_zero, List.set_cons_succ, List.take_succ_cons, List.take_zero, List.drop_succ_cons, List.drop_zero, List.cons_append, List.nil_append, List.append_nil, List.length_cons, List.length_nil, Nat.reduceAdd] at H'; clear H; have H := H'; clear H'
   refine k_nil ?_
   refine t_on (H.subl [3] rfl rfl) ?_
   refine tqh 17 rfl rfl rfl (fun _ hS => r_fa0 rfl fo30_1) (H.subl [3] rfl rfl) ?_
   refine t_up1 18 (by kernel_rfl) ?_
   refine up_mk rfl ?_
   refine s_st (u := .slice _ _ _) H 0 rfl rfl rfl rfl rfl rfl sz28 ?_
   clear H; intro _ H; simp only [jA, jB, jC, jD, jE, jF, jG, jH, jI, jJ, jK, Nat.reduceAdd] at H
   refine k_nil ?_
   refine t_on (H.subl [3] rfl rfl) ?_
   refine t_done (by kernel_rfl) ?_
   refine b_norm ?_
   refine c_norm ?_
   refine k_rg ?_
   refine s_run rfl rfl (rmi rfl) ?_
   refine s_run rfl rfl (r_add rfl rfl (wI (by omega))) ?_
   refine s_run rfl rfl (rai rfl) ?_
   refine k_nil ?_
   refine c_round ?_
   refine ⟨_, _, ?_, rfl, i + 1, NA', cN', by omega, rfl, rfl, rfl, rfl, rfl, by rw [hfl, hB]; exact H⟩
   omega
 ·obtain rfl : i = g.m := by omega
  have et : g.ns.take g.m = g.ns := by rw [← hnl]; exact List.take_length
  rw [et] at H
  refine k_seq ?_
  refine k_sg ?_
  refine s_run rfl rfl (rmi rfl) ?_
  refine s_run rfl rfl (r_fa0 rfl fo25_1) ?_
  refine s_run rfl rfl (r_lo H 3 rfl rfl rfl ag23) ?_
  refine s_run rfl rfl (r_len rfl Try.underlying23) ?_
  refine s_run rfl rfl (r_lssF rfl rfl (by omega)) ?_
  refine k_nc ?_
  refine k_f rfl ?_
  refine k_exit ?_
  refine c_exit ?_
  refine c_exit ?_
  refine b_hit ?_
  refine c_norm ?_
  refine k_sg ?_
  refine s_run rfl rfl (r_la H 0 rfl rfl rfl ag30 sz30) ?_
  refine s_sw H 2 rfl rfl rfl rfl rfl rfl rfl sz30 ?_
  clear H; intro _ H; simp only [jA, jB, jC, jD, jE, jF, jG, jH, jI, jJ, jK, Nat.reduceAdd] at H
  refine k_nc ?_
  refine k_ret ?_
  refine fx1r rfl (rv_a H 2 rfl rfl rfl ag30 sz30) ?_
  exact ⟨NA, cN, rfl, (H.order [1, 0, 2, 3] rfl rfl : Heap w [] ([_] ++ [_, _, _]) _).drops⟩
end Go.Proofs.Ytdgmlfpikgjnlaa
end

section
namespace Go.Proofs.Ytdgmlfpikgjnlaa
open Go.RowKit
set_option maxRecDepth 100000
set_option maxHeartbeats 2000000
def exG (b4 b6 b8 : Nat) : GrS := ⟨some ⟨b4, 0, none⟩, 1, 1, [1], some ⟨b8, 0, none⟩, 2, 2, [⟨none, 0, 0, [], none, 0, 0, []⟩, ⟨some ⟨b6, 0, none⟩, 1, 1, [0], none, 0, 0, []⟩]⟩
theorem exG_right (b4 b6 b8 : Nat) : rightB (exG b4 b6 b8) = true := by
 unfold rightB exG okN okP
 simp
theorem exG_ord (b4 b6 b8 : Nat) (out : List Int) (h : Gr.IsOrd (Gr.ptr (exG b4 b6 b8).nodes) (exG b4 b6 b8).rs out) : out = [1, 0] :=
 h.same ⟨2, rfl⟩
theorem awake38 (w : World) : Calls Try.prog 13 [].toArray w fun e w' => e = .returned (.bool true) ∧ Only [] w w' := by
 have H := Heap.nil w
 refine k_in (N := 55) Try.func13 rfl rfl rfl ?_
 refine k_sg ?_
 refine s_run rfl rfl (rab rfl) ?_
 refine k_nc ?_
 refine k_sg ?_
 refine s_bsO (enc := (Value.int .i64)) (zs := [1]) H rfl rfl rfl (by omega) (by kernel_rfl) Try.underlying22 inf3 ?_
 intro b4 _ H'; clear H; have H := H'; clear H'
 refine s_run rfl rfl (r_bd (bd39 ) rfl) ?_
 refine s_bsO (enc := (Value.int .i64)) (zs := [0]) H rfl rfl rfl (by omega) (by kernel_rfl) Try.underlying22 inf3 ?_
 intro b6 _ H'; clear H; have H := H'; clear H'
 refine s_run rfl rfl (r_bd (bd39_0 _ _ _) rfl) ?_
 refine s_bsM (enc := C1.v) (size := 2) (zs := [C1.s none 0 0, C1.s none 0 0, C1.s (some ⟨b6, 0, none⟩) 1 1, C1.s none 0 0]) H rfl rfl rfl (by omega) (by omega) (by kernel_rfl) Try.underlying23 inf39 ?_
 intro b8 W8 H'
 clear H; have H := H'; clear H'
 refine s_run rfl rfl (r_bd (bd25_0_1 _ _ _ _ _ _) rfl) ?_
 have hok : GrOk W8 [] (exG b4 b6 b8) := by
  refine ⟨H.own_sees 2 rfl, rfl, by simp [exG], ⟨fun _ => ?_, fun x hx => ?_⟩, rfl, by simp [exG], by simp [exG]⟩
  ·obtain ⟨b, e, _, hr⟩ := H.own_seesN 0 rfl (by simp)
   injection e with e
   injection e with e _ _
   subst e
   refine ⟨b8, 0, rfl, by simp, fun i x hi j u hj => ?_⟩
   match i, j, hi, hj with
   | 0, 0, hi, hj => simp [exG] at hi; subst hi; simp [NodeS.cells] at hj; subst hj; exact hr 0 (C1.s none 0 0) rfl
   | 0, 1, hi, hj => simp [exG] at hi; subst hi; simp [NodeS.cells] at hj; subst hj; exact hr 1 (C1.s none 0 0) rfl
   | 1, 0, hi, hj => simp [exG] at hi; subst hi; simp [NodeS.cells] at hj; subst hj; exact hr 2 (C1.s (some ⟨b6, 0, none⟩) 1 1) rfl
   | 1, 1, hi, hj => simp [exG] at hi; subst hi; simp [NodeS.cells] at hj; subst hj; exact hr 3 (C1.s none 0 0) rfl
   | 0, j + 2, hi, hj => simp [exG] at hi; subst hi; simp [NodeS.cells] at hj
   | 1, j + 2, hi, hj => simp [exG] at hi; subst hi; simp [NodeS.cells] at hj
   | i + 2, j, hi, hj => simp [exG] at hi
  ·simp [exG] at hx
   rcases hx with rfl | rfl
   ·exact ⟨Sees.nil, rfl, Sees.nil, rfl, by simp, by simp, by simp [exG], by simp [exG]⟩
   ·exact ⟨H.own_sees 1 rfl, rfl, Sees.nil, rfl, by simp, by simp, by simp [exG], by simp [exG]⟩
 have hsm : Sm (exG b4 b6 b8) := ⟨by simp [exG], by simp [exG], fun x hx => by
  simp [exG] at hx
  rcases hx with rfl | rfl
  ·exact ⟨by simp [exG], by simp [exG]⟩
  ·exact ⟨by simp [exG], by simp [exG]⟩⟩
 have hC := gCanon1 (exG b4 b6 b8) W8 hok (exG_right b4 b6 b8) hsm
 refine s_call rfl (hC) (ca28 rfl) ?_
 rintro e W1 ⟨⟨g', out, rfl, kg, ho, er, en, e3, e4, _, _⟩, H'⟩
 refine ⟨_, rfl, ?_⟩
 have H := H.same H'; clear H'; have HP := H; clear H; have H := Heap.nil W1; unfold GrS.cells
 refine s_run rfl rfl (rmt rfl) ?_
 refine s_run rfl rfl (r_ext (v := .agg _) rfl rfl) ?_
 refine s_run rfl rfl (r_ext (v := .int _ _) rfl rfl) ?_
 refine s_al H rfl inf25 ?_
 intro p1 _ H'; clear H; have H := H'; clear H'
 refine s_sw H 0 rfl rfl rfl rfl rfl rfl rfl sz25 ?_
 clear H; intro _ H; simp only [jA, jB, jC, jD, jE, jF, jG, jH, jI, jJ, jK, Nat.reduceAdd] at H
 refine s_run rfl rfl (rai rfl) ?_
 refine k_nc ?_
 refine k_sg ?_
 obtain rfl := exG_ord b4 b6 b8 out ho
 have er2 : g'.rs = [0] := er.trans rfl
 have en2 : g'.nodes = [([1], []), ([], [])] := en.trans rfl
 have e32 : g'.n = 1 := e3
 have e42 : g'.m = 2 := e4
 obtain ⟨x0, hx0, hx0p⟩ : ∃ x0, g'.ns[0]? = some x0 ∧ x0.ps = [1] := by
  have h1 : g'.nodes[0]? = some ([1], []) := by rw [en2]; rfl
  unfold GrS.nodes at h1
  rw [List.getElem?_map] at h1
  cases hq : g'.ns[0]? with
  | none => rw [hq] at h1; cases h1
  | some x => rw [hq] at h1; injection h1 with h1; injection h1 with h1 _; exact ⟨x, rfl, h1⟩
 have hxo := kg.ns.2 x0 (List.mem_of_getElem? hx0)
 have hx0n : x0.n = 1 := by rw [← hxo.pl, hx0p]; rfl
 obtain ⟨rb, ro, hRA, _, hrr⟩ := kg.rs (by rw [er2]; simp)
 have hc1 := hrr 0 0 (by rw [er2]; rfl)
 obtain ⟨nb, no, hNB, _, hrn⟩ := kg.ns.1 (by have := (List.getElem?_eq_some_iff.1 hx0).1; omega)
 have hc2 := hrn 0 x0 hx0 0 _ rfl
 obtain ⟨pb, po, hPA, _, hrp⟩ := hxo.ps (by rw [hx0p]; simp)
 have hc3 := hrp 0 1 (by rw [hx0p]; rfl)
 rw [hPA, hx0n] at hc2
 rw [hRA, hNB, e32, e42] at H
 refine s_run rfl rfl (rmi rfl) ?_
 refine s_run rfl rfl (r_eqlT rfl rfl (by omega)) ?_
 refine s_run rfl rfl (rmb rfl) ?_
 refine s_run rfl (g_on 15 (by kernel_rfl) rfl) (r_fa0 rfl fo25_0) ?_
 refine s_run rfl (g_on 15 (by kernel_rfl) rfl) (r_lo H 0 rfl rfl rfl ag22) ?_
 refine s_run rfl (g_on 15 (by kernel_rfl) rfl) (r_len rfl Try.underlying22) ?_
 refine s_run rfl (g_on 15 (by kernel_rfl) rfl) (r_eqlT rfl rfl (by omega)) ?_
 refine s_run rfl rfl (r_pkT (v := .bool _) rfl rfl) ?_
 refine s_run rfl rfl (rmb rfl) ?_
 refine s_run rfl (g_on 21 (by kernel_rfl) rfl) (r_fa0 rfl fo25_0) ?_
 refine s_run rfl (g_on 21 (by kernel_rfl) rfl) (r_lo H 0 rfl rfl rfl ag22) ?_
 refine s_run rfl (g_on 21 (by kernel_rfl) rfl) (r_ix1o (i := 0) rfl rfl (by omega) (by omega) Try.underlying22 sz3) ?_
 refine s_run rfl (g_on 21 (by kernel_rfl) rfl) (r_lr H rfl hc1 (by simp) ag3) ?_
 refine s_run rfl (g_on 21 (by kernel_rfl) rfl) (r_eqlT rfl rfl (by omega)) ?_
 refine s_run rfl rfl (r_pkT (v := .bool _) rfl rfl) ?_
 refine s_run rfl rfl (rmb rfl) ?_
 refine s_run rfl (g_on 28 (by kernel_rfl) rfl) (r_fa0 rfl fo25_1) ?_
 refine s_run rfl (g_on 28 (by kernel_rfl) rfl) (r_lo H 0 rfl rfl rfl ag23) ?_
 refine s_run rfl (g_on 28 (by kernel_rfl) rfl) (r_len rfl Try.underlying23) ?_
 refine s_run rfl (g_on 28 (by kernel_rfl) rfl) (r_eqlT rfl rfl (by omega)) ?_
 refine s_run rfl rfl (r_pkT (v := .bool _) rfl rfl) ?_
 refine s_run rfl rfl (rmb rfl) ?_
 refine s_run rfl (g_on 34 (by kernel_rfl) rfl) (r_fa0 rfl fo25_1) ?_
 refine s_run rfl (g_on 34 (by kernel_rfl) rfl) (r_lo H 0 rfl rfl rfl ag23) ?_
 refine s_run rfl (g_on 34 (by kernel_rfl) rfl) (r_ix (i := 0) rfl rfl (by omega) (by omega) Try.underlying23 sz39) ?_
 refine s_run rfl (g_on 34 (by kernel_rfl) rfl) (r_fa rfl fo39_0) ?_
 refine s_run rfl (g_on 34 (by kernel_rfl) rfl) (r_lr H rfl hc2 (by simp) ag22) ?_
 refine s_run rfl (g_on 34 (by kernel_rfl) rfl) (r_len rfl Try.underlying22) ?_
 refine s_run rfl (g_on 34 (by kernel_rfl) rfl) (r_eqlT rfl rfl (by omega)) ?_
 refine s_run rfl rfl (r_pkT (v := .bool _) rfl rfl) ?_
 refine s_run rfl rfl (rmb rfl) ?_
 refine s_run rfl (g_on 43 (by kernel_rfl) rfl) (r_fa0 rfl fo25_1) ?_
 refine s_run rfl (g_on 43 (by kernel_rfl) rfl) (r_lo H 0 rfl rfl rfl ag23) ?_
 refine s_run rfl (g_on 43 (by kernel_rfl) rfl) (r_ix (i := 0) rfl rfl (by omega) (by omega) Try.underlying23 sz39) ?_
 refine s_run rfl (g_on 43 (by kernel_rfl) rfl) (r_fa rfl fo39_0) ?_
 refine s_run rfl (g_on 43 (by kernel_rfl) rfl) (r_lr H rfl hc2 (by simp) ag22) ?_
 refine s_run rfl (g_on 43 (by kernel_rfl) rfl) (r_ix1o (i := 0) rfl rfl (by omega) (by omega) Try.underlying22 sz3) ?_
 refine s_run rfl (g_on 43 (by kernel_rfl) rfl) (r_lr H rfl hc3 (by simp) ag3) ?_
 refine s_run rfl (g_on 43 (by kernel_rfl) rfl) (r_eqlT rfl rfl (by omega)) ?_
 refine s_run rfl rfl (r_pkT (v := .bool _) rfl rfl) ?_
 refine s_run rfl rfl (rmb rfl) ?_
 refine s_run rfl rfl (r_pkT (v := .bool _) rfl rfl) ?_
 refine s_run rfl rfl (rab rfl) ?_
 refine k_nc ?_
 refine k_ret ?_
 refine fin1r (v := .bool _) rfl rfl ?_
 exact ⟨rfl, HP.only.trans H.only⟩
end Go.Proofs.Ytdgmlfpikgjnlaa
end

section
namespace Go.Proofs.Ytdgmlfpikgjnlaa
section
open Go.ChangeShapes Go.WideShapes Go.Deep
variable {H : Type} {enc : TypeId × Value → H} {w : World} {base : Nat} {spare : Nat → Bool} {held : Bool}
theorem o_add {b o i : Nat} : (⟨b, o, none⟩ : Addr).add i = ⟨b, o + i, none⟩ := by
 unfold Addr.add; split
 ·subst_vars; rfl
 ·rfl
theorem o_sees {k : IntKind} {t e : TypeId} {fuel : Nat} {v : Value} {y : DataW H × List MemPlace} (ht : Try.prog.underlying t = some (.slice e)) (he : Try.prog.underlying e = some (.int k)) (hc : Try.prog.cellsOf e = 1)
  (h : DataW.trod enc Try.prog w base spare held fuel t [v] = some y) :
  ∃ A n c xs, v = .slice A n c ∧ Sees (Value.int k) w [] A xs ∧ xs.length = n ∧ n ≤ c ∧ c ≤ maxLen ∧ ∀ z ∈ xs, (Lit.int k z).wf = true := by
 rcases open_ints ht he hc h with ⟨hcs, _⟩ | ⟨x, l, c, zs, hcs, _, hl, hm, hz, _, hcell, hwf⟩
 ·injection hcs with hv _
  exact ⟨none, 0, 0, [], hv, Sees.nil, rfl, by omega, by decide, by simp⟩
 ·injection hcs with hv _
  have hzl : l ≤ zs.length := by rw [hz]; split <;> omega
  refine ⟨some x, l, c, zs.take l, hv, fun h0 => ?_, by simp; omega, hl, hm, fun z hz => hwf z (List.mem_of_mem_take hz)⟩
  obtain ⟨b, off, spot⟩ := x
  have h0' : 0 < l := by simp at h0; omega
  have hc0 := hcell 0 (by omega)
  have hspot : spot = none := by simpa [Addr.add] using World.cell?_spot hc0
  subst hspot
  refine ⟨b, off, rfl, by simp, fun j z hj => ?_⟩
  have hjl : j < l := by have := (List.getElem?_eq_some_iff.1 hj).1; simp at this; omega
  rw [List.getElem?_take_of_lt hjl] at hj
  have hc2 := hcell j (by omega)
  rw [o_add] at hc2
  rw [hc2]
  simp [List.getD, hj]
theorem o_list {α : Type} {Q : Nat → α → Prop} : ∀ n : Nat, (∀ i, i < n → ∃ x, Q i x) → ∃ l : List α, l.length = n ∧ ∀ i x, l[i]? = some x → Q i x
 | 0, _ => ⟨[], rfl, by simp⟩
 | n + 1, h => by
  obtain ⟨l, hl, hq⟩ := o_list n (fun i hi => h i (by omega))
  obtain ⟨x, hx⟩ := h n (by omega)
  refine ⟨l ++ [x], by simp [hl], fun i y hy => ?_⟩
  by_cases hi : i < l.length
  ·rw [List.getElem?_append_left hi] at hy; exact hq i y hy
  ·have hi2 : i < n + 1 := by have := (List.getElem?_eq_some_iff.1 hy).1; simp at this; omega
   obtain rfl : i = n := by omega
   rw [List.getElem?_append_right (by omega)] at hy
   simp [hl] at hy
   subst hy; exact hx
set_option maxRecDepth 100000 in
theorem o_one {t : TypeId} {fs : Array Field} (h : Try.prog.underlying t = some (.struct fs)) (h2 : (match Try.prog.underlying t with | some (.struct fs) => oneCellFields Try.prog fs | _ => false) = true) : oneCellFields Try.prog fs = true := by
 rw [h] at h2; exact h2
end
end Go.Proofs.Ytdgmlfpikgjnlaa
end

section
namespace Go.Proofs.Ytdgmlfpikgjnlaa
open Go.RowKit
structure NodeO where
 A0 : Option Addr
 n0 : Nat
 c0 : Nat
 xs0 : List Int
 A1 : Option Addr
 n1 : Nat
 c1 : Nat
 xs1 : List Int
def NodeO.cells (u : NodeO) : List Value := [.slice u.A0 u.n0 u.c0, .slice u.A1 u.n1 u.c1]
structure NodeOOk (w : World) (u : NodeO) : Prop where
 s0 : Sees (Value.int .i64) w [] u.A0 u.xs0
 l0 : u.xs0.length = u.n0
 m0 : u.n0 ≤ u.c0 ∧ u.c0 ≤ maxLen
 b0 : ∀ z ∈ u.xs0, (Lit.int .i64 z).wf = true
 s1 : Sees (Value.int .u64) w [] u.A1 u.xs1
 l1 : u.xs1.length = u.n1
 m1 : u.n1 ≤ u.c1 ∧ u.c1 ≤ maxLen
 b1 : ∀ z ∈ u.xs1, (Lit.int .u64 z).wf = true
def ScriptNodeO (w : World) (A : Option Addr) (ops : List NodeO) : Prop := (ops.length ≠ 0 → ∃ b o, A = some ⟨b, o, none⟩ ∧ ∀ i op, ops[i]? = some op → Reads (fun v : Value => v) w b (o + i * 2) op.cells) ∧ ∀ op ∈ ops, NodeOOk w op
theorem NodeOOk.later {w W : World} {u : NodeO} (h : NodeOOk w u) (hO : Only [] w W) : NodeOOk W u := ⟨h.s0.later hO (by simp), h.l0, h.m0, h.b0, h.s1.later hO (by simp), h.l1, h.m1, h.b1⟩
theorem ScriptNodeO.later {w W : World} {A : Option Addr} {ops : List NodeO} (h : ScriptNodeO w A ops) (hO : Only [] w W) : ScriptNodeO W A ops :=
 ⟨fun h0 => by
  obtain ⟨b, o, e, hr⟩ := h.1 h0
  exact ⟨b, o, e, fun i op hi => (hr i op hi).later hO (by simp)⟩, fun op hop => (h.2 op hop).later hO⟩
section
open Go.ChangeShapes Go.WideShapes Go.Deep
variable {H : Type} {enc : TypeId × Value → H} {w : World} {base : Nat} {spare : Nat → Bool} {held : Bool}
set_option maxRecDepth 100000 in
theorem open_NodeO {fuel : Nat} {cs : List Value} {y : DataW H × List MemPlace} (h : DataW.trod enc Try.prog w base spare held fuel 39 cs = some y) : ∃ op : NodeO, cs = op.cells ∧ NodeOOk w op := by
 obtain ⟨xs, n, _, _, hl, hlen, hg⟩ := DataW.trod_struct Try.underlying39 h
 have hone := o_one Try.underlying39 (by kernel_rfl)
 have hcl : cs.length = 2 := hl.trans (by kernel_rfl)
 replace hlen : xs.length = 2 := hlen
 match cs, hcl, xs, hlen with
 | [c0, c1], _, [y0, y1], _ =>
  obtain ⟨o0, k0⟩ := hone_of hone 0 _ rfl
  obtain ⟨o1, k1⟩ := hone_of hone 1 _ rfl
  have g0 := hg 0 _ rfl
  have g1 := hg 1 _ rfl
  rw [o0, k0] at g0
  rw [o1, k1] at g1
  replace g0 := g0.trans (show _ = some y0 from rfl)
  replace g1 := g1.trans (show _ = some y1 from rfl)
  obtain ⟨A0, m0, q0, bs0, e0, hs0, hb0, hmc0, hcm0, hw0⟩ := o_sees Try.underlying22 Try.underlying3 (by kernel_rfl) (show DataW.trod enc Try.prog w base spare held n 22 [c0] = some y0 from g0)
  obtain ⟨A1, m1, q1, bs1, e1, hs1, hb1, hmc1, hcm1, hw1⟩ := o_sees Try.underlying37 Try.underlying78 (by kernel_rfl) (show DataW.trod enc Try.prog w base spare held n 37 [c1] = some y1 from g1)
  subst e0
  subst e1
  exact ⟨⟨A0, m0, q0, bs0, A1, m1, q1, bs1⟩, rfl, hs0, hb0, ⟨hmc0, hcm0⟩, hw0, hs1, hb1, ⟨hmc1, hcm1⟩, hw1⟩

def NodeO.s (u : NodeO) : NodeS := ⟨u.A0, u.n0, u.c0, u.xs0, u.A1, u.n1, u.c1, u.xs1⟩
theorem NodeO.ok {W : World} {u : NodeO} (h : NodeOOk W u) : NodeOk W [] u.s := by
 refine ⟨h.s0, h.l0, h.s1, h.l1, fun p hp => bounds_i64 (h.b0 p hp), fun p hp => bounds_u64 (h.b1 p hp), ?_, ?_⟩
 ·have := h.m0; simp only [maxLen] at this; show u.n0 ≤ _; omega
 ·have := h.m1; simp only [maxLen] at this; show u.n1 ≤ _; omega
set_option maxRecDepth 100000 in
theorem open_graph (W : World) {r : Reach} (b0 : Nat) (v : Value) (d : DataW H) (p : List MemPlace)
  (hv : Value.okWide Try.prog W r b0 25 v) (h : DataW.Trod enc Try.prog W base spare held 25 v d p) :
  ∃ g : GrS, v = .agg g.cells.toArray ∧ GrOk W [] g := by
 obtain ⟨cs, rfl, hsz⟩ := okWide_struct Try.underlying25 hv
 obtain ⟨fuel, hf⟩ := h
 obtain ⟨xs, n, _, _, hl, hlen, hg⟩ := DataW.trod_struct Try.underlying25 hf
 have hone := o_one Try.underlying25 (by kernel_rfl)
 have hl2 : cs.toList.length = 2 := hl.trans (by kernel_rfl)
 have hlen2 : xs.length = 2 := hlen
 obtain ⟨cl, rfl⟩ : ∃ cl, cs = List.toArray cl := ⟨cs.toList, by simp⟩
 simp only [List.toList_toArray] at hl2
 match cl, hl2, xs, hlen2 with
 | [c0, c1], _, [y0, y1], _ =>
  obtain ⟨o0, k0⟩ := hone_of hone 0 _ rfl
  obtain ⟨o1, k1⟩ := hone_of hone 1 _ rfl
  have g0 := hg 0 _ rfl
  have g1 := hg 1 _ rfl
  rw [o0, k0] at g0
  rw [o1, k1] at g1
  replace g0 := g0.trans (show _ = some y0 from rfl)
  replace g1 := g1.trans (show _ = some y1 from rfl)
  obtain ⟨A0, m0, q0, bs0, e0, hs0, hb0, hmc0, hcm0, hw0⟩ := o_sees Try.underlying22 Try.underlying3 (by kernel_rfl) (show DataW.trod enc Try.prog W base spare held n 22 [c0] = some y0 from g0)
  subst e0
  have g1' : DataW.trod enc Try.prog W base spare held n 23 [c1] = some y1 := g1
  have c2 : Try.prog.cellsOf 39 = 2 := by kernel_rfl
  have hm0 : m0 ≤ 9223372036854775807 := by simp only [maxLen] at hcm0; omega
  rcases open_slice Try.underlying23 g1' with ⟨hcs, _⟩ | ⟨x, len, cap, m, n2, D, Pl, hcs, _, hl3, hm, hmm, _, hx⟩
  ·injection hcs with hcs _
   subst hcs
   exact ⟨⟨A0, m0, q0, bs0, none, 0, 0, []⟩, rfl, ⟨hs0, hb0, fun p hp => bounds_i64 (hw0 p hp), ⟨fun h => absurd rfl h, by simp⟩, rfl, hm0, by show (0 : Nat) ≤ _; omega⟩⟩
  ·injection hcs with hcs _
   subst hcs
   rw [c2] at hx
   have hlm : len ≤ m := by rw [hmm]; split <;> omega
   obtain ⟨ops, hol, hq⟩ := o_list (Q := fun i (op : NodeO) => NodeOOk W op ∧ ∀ j u, op.cells[j]? = some u → W.cell? (x.add (i * 2 + j)) = some u) len (fun i hi => by
    obtain ⟨cs', hc, ht⟩ := hx i (by omega)
    obtain ⟨op, rfl, hok⟩ := open_NodeO ht
    obtain ⟨_, hcl, hat⟩ := World.cells?_some hc
    refine ⟨op, hok, fun j u hj => ?_⟩
    have hj5 : j < 2 := by have := (List.getElem?_eq_some_iff.1 hj).1; rw [hcl] at this; exact this
    rw [← Go.Deep.add_add, hat j hj5, hj])
   refine ⟨⟨A0, m0, q0, bs0, some x, len, cap, ops.map NodeO.s⟩, rfl, ⟨hs0, hb0, fun p hp => bounds_i64 (hw0 p hp), ⟨fun h0 => ?_, fun z hz => ?_⟩, by simp [hol], hm0, by simp only [maxLen] at hm; show len ≤ _; omega⟩⟩
   ·have h00 : ops.length ≠ 0 := by simpa using h0
    obtain ⟨op0, hop0⟩ : ∃ op, ops[0]? = some op := ⟨_, List.getElem?_eq_getElem (by omega)⟩
    obtain ⟨b, off, spot⟩ := x
    have hc0 := (hq 0 op0 hop0).2 0 _ rfl
    have hspot : spot = none := by simpa [Addr.add] using World.cell?_spot hc0
    subst hspot
    refine ⟨b, off, rfl, by simp, fun i z hz j u hj => ?_⟩
    have hz' : (ops.map NodeO.s)[i]? = some z := hz
    rw [List.getElem?_map] at hz'
    cases hoi : ops[i]? with
    | none => rw [hoi] at hz'; cases hz'
    | some op =>
     rw [hoi] at hz'
     injection hz' with hz'
     subst hz'
     have := (hq i op hoi).2 j u hj
     rw [o_add] at this
     rw [Nat.add_assoc]; exact this
   ·have hz' : z ∈ ops.map NodeO.s := hz
    obtain ⟨op, hop, rfl⟩ := List.mem_map.1 hz'
    obtain ⟨i, hi, rfl⟩ := List.mem_iff_getElem.1 hop
    exact NodeO.ok (hq i _ (List.getElem?_eq_getElem hi)).1
end
end Go.Proofs.Ytdgmlfpikgjnlaa
end

section
namespace Go.Proofs.Ytdgmlfpikgjnlaa
open Go.RowKit
open Classical in
/-- both are right, and numbered as one comes to their nodes they are one graph -/
noncomputable def alB (a b : GrS) : Bool := decide (rightB a = true ∧ rightB b = true ∧ ∃ oa ob, Gr.IsOrd (Gr.ptr a.nodes) a.rs oa ∧ Gr.IsOrd (Gr.ptr b.nodes) b.rs ob ∧ Gr.canonR a.rs oa = Gr.canonR b.rs ob ∧ Gr.canonN a.nodes oa = Gr.canonN b.nodes ob)
theorem alB_no {a b : GrS} (h : (rightB a && rightB b) = false) : alB a b = false := by
 classical
 unfold alB
 rw [decide_eq_false_iff_not]
 rintro ⟨h1, h2, _⟩; rw [h1, h2] at h; cases h
theorem alB_yes {a b : GrS} {oa ob : List Int} (ra : rightB a = true) (rb : rightB b = true) (ha : Gr.IsOrd (Gr.ptr a.nodes) a.rs oa) (hb : Gr.IsOrd (Gr.ptr b.nodes) b.rs ob) : alB a b = decide (Gr.canonR a.rs oa = Gr.canonR b.rs ob ∧ Gr.canonN a.nodes oa = Gr.canonN b.nodes ob) := by
 classical
 unfold alB
 apply decide_eq_decide.2
 constructor
 ·rintro ⟨_, _, oa', ob', h1, h2, h3⟩
  rw [h1.same ha, h2.same hb] at h3; exact h3
 ·intro h; exact ⟨ra, rb, oa, ob, ha, hb, h⟩
theorem alB_comm (a b : GrS) : alB b a = alB a b := by
 classical
 unfold alB
 apply decide_eq_decide.2
 constructor
 ·rintro ⟨h1, h2, oa, ob, h3, h4, h5, h6⟩; exact ⟨h2, h1, ob, oa, h4, h3, h5.symm, h6.symm⟩
 ·rintro ⟨h1, h2, oa, ob, h3, h4, h5, h6⟩; exact ⟨h2, h1, ob, oa, h4, h3, h5.symm, h6.symm⟩
theorem gAl (a b : GrS) (w : World) (ha : GrOk w [] a) (hb : GrOk w [] b) (sa : Sm a) (sb : Sm b) :
  Calls Try.prog 20 [.agg a.cells.toArray, .agg b.cells.toArray].toArray w fun e w' => e = .returned (.bool (alB a b)) ∧ Only [] w w' :=
 (gAlike a b w ha hb sa sb).mono fun e w' ⟨⟨r, he, h0, h1⟩, h⟩ => ⟨by
  rw [he]
  cases hc : rightB a && rightB b with
  | false => rw [h0 hc, alB_no hc]
  | true =>
   obtain ⟨oa, ob, hoa, hob, hr⟩ := h1 hc
   have hc' := Bool.and_eq_true_iff.1 hc
   rw [hr, alB_yes hc'.1 hc'.2 hoa hob], h⟩
end Go.Proofs.Ytdgmlfpikgjnlaa
end

section
namespace Go.Proofs.Ytdgmlfpikgjnlaa
open Go.RowKit
set_option maxRecDepth 100000
set_option maxHeartbeats 4000000
theorem walk_GraphSames (a b : GrS) (w : World) (ha : GrOk w [] a) (hb : GrOk w [] b) :
  Calls Try.prog 3 [.agg a.cells.toArray, .agg b.cells.toArray].toArray w fun e w' => e = .returned (.bool true) ∧ Below w.heap.size w w' := by
 have H := Heap.nil w
 have hFa := fun W (h : Only [] w W) => lFew a W (ha.later h (by simp))
 have hFb := fun W (h : Only [] w W) => lFew b W (hb.later h (by simp))
 cases fa : fewB a with
 | false =>
  rw [fa] at hFa
  unfold GrS.cells at hFa ⊢
  refine k_in (N := 54) Try.func3 rfl rfl rfl ?_
  refine k_sg ?_
  refine s_box H rfl rfl ?_
  intro p2 _ H'; clear H; have H := H'; clear H'
  refine s_box H rfl rfl ?_
  intro p3 _ H'; clear H; have H := H'; clear H'
  refine s_run rfl rfl (rab rfl) ?_
  refine k_nc ?_
  refine k_seq ?_
  refine k_sg ?_
  refine s_call rfl (awake38 _) (ca13 rfl) ?_
  rintro e W1 ⟨rfl, H'⟩
  refine ⟨_, rfl, ?_⟩
  have H := H.same H'; clear H'
  refine s_run rfl rfl (r_notT rfl) ?_
  refine k_nc ?_
  refine k_f rfl ?_
  refine k_skip ?_
  refine c_norm ?_
  refine k_seq ?_
  refine k_sg ?_
  refine s_run rfl rfl (r_la H 1 rfl rfl rfl ag25 sz25) ?_
  refine s_call rfl (hFa _ H.only) (ca14 rfl) ?_
  rintro e W1 ⟨rfl, H'⟩
  refine ⟨_, rfl, ?_⟩
  have H := H.same H'; clear H'
  refine s_run rfl rfl (r_notF rfl) ?_
  refine s_run rfl rfl (rmb rfl) ?_
  refine s_off rfl (g_off 13 (by kernel_rfl) rfl rfl) ?_
  refine s_off rfl (g_off 13 (by kernel_rfl) rfl rfl) ?_
  refine s_off rfl (g_off 13 (by kernel_rfl) rfl rfl) ?_
  refine s_run rfl rfl (r_pkT (v := .bool _) rfl rfl) ?_
  refine k_nc ?_
  refine k_t rfl ?_
  refine k_sg ?_
  refine s_run rfl rfl (rab rfl) ?_
  refine k_nc ?_
  refine k_ret ?_
  refine c_ret ?_
  refine fin1r (v := .bool _) rfl rfl ?_
  exact ⟨rfl, H.below⟩
 | true =>
  rw [fa] at hFa
  cases fb : fewB b with
  | false =>
   rw [fb] at hFb
   unfold GrS.cells at hFa hFb ⊢
   refine k_in (N := 54) Try.func3 rfl rfl rfl ?_
   refine k_sg ?_
   refine s_box H rfl rfl ?_
   intro p2 _ H'; clear H; have H := H'; clear H'
   refine s_box H rfl rfl ?_
   intro p3 _ H'; clear H; have H := H'; clear H'
   refine s_run rfl rfl (rab rfl) ?_
   refine k_nc ?_
   refine k_seq ?_
   refine k_sg ?_
   refine s_call rfl (awake38 _) (ca13 rfl) ?_
   rintro e W1 ⟨rfl, H'⟩
   refine ⟨_, rfl, ?_⟩
   have H := H.same H'; clear H'
   refine s_run rfl rfl (r_notT rfl) ?_
   refine k_nc ?_
   refine k_f rfl ?_
   refine k_skip ?_
   refine c_norm ?_
   refine k_seq ?_
   refine k_sg ?_
   refine s_run rfl rfl (r_la H 1 rfl rfl rfl ag25 sz25) ?_
   refine s_call rfl (hFa _ H.only) (ca14 rfl) ?_
   rintro e W1 ⟨rfl, H'⟩
   refine ⟨_, rfl, ?_⟩
   have H := H.same H'; clear H'
   refine s_run rfl rfl (r_notT rfl) ?_
   refine s_run rfl rfl (rmb rfl) ?_
   refine s_run rfl (g_on 13 (by kernel_rfl) rfl) (r_la H 0 rfl rfl rfl ag25 sz25) ?_
   refine s_call (g_on 13 (by kernel_rfl) rfl) (hFb _ H.only) (ca14 rfl) ?_
   rintro e W1 ⟨rfl, H'⟩
   refine ⟨_, rfl, ?_⟩
   have H := H.same H'; clear H'
   refine s_run rfl (g_on 13 (by kernel_rfl) rfl) (r_notF rfl) ?_
   refine s_run rfl rfl (r_pkF (v := .bool _) rfl rfl) ?_
   refine k_nc ?_
   refine k_t rfl ?_
   refine k_sg ?_
   refine s_run rfl rfl (rab rfl) ?_
   refine k_nc ?_
   refine k_ret ?_
   refine c_ret ?_
   refine fin1r (v := .bool _) rfl rfl ?_
   exact ⟨rfl, H.below⟩
  | true =>
   rw [fb] at hFb
   have sa := few_sm fa
   have sb := few_sm fb
   have hRa := fun W (h : Only [] w W) => lRefE a W (ha.later h (by simp)) sa
   have hRb := fun W (h : Only [] w W) => lRefE b W (hb.later h (by simp)) sb
   unfold GrS.cells at hFa hFb hRa hRb
   unfold refG at hRa hRb
   unfold GrS.cells
   refine k_in (N := 54) Try.func3 rfl rfl rfl ?_
   refine k_sg ?_
   refine s_box H rfl rfl ?_
   intro p2 _ H'; clear H; have H := H'; clear H'
   refine s_box H rfl rfl ?_
   intro p3 _ H'; clear H; have H := H'; clear H'
   refine s_run rfl rfl (rab rfl) ?_
   refine k_nc ?_
   refine k_seq ?_
   refine k_sg ?_
   refine s_call rfl (awake38 _) (ca13 rfl) ?_
   rintro e W1 ⟨rfl, H'⟩
   refine ⟨_, rfl, ?_⟩
   have H := H.same H'; clear H'
   refine s_run rfl rfl (r_notT rfl) ?_
   refine k_nc ?_
   refine k_f rfl ?_
   refine k_skip ?_
   refine c_norm ?_
   refine k_seq ?_
   refine k_sg ?_
   refine s_run rfl rfl (r_la H 1 rfl rfl rfl ag25 sz25) ?_
   refine s_call rfl (hFa _ H.only) (ca14 rfl) ?_
   rintro e W1 ⟨rfl, H'⟩
   refine ⟨_, rfl, ?_⟩
   have H := H.same H'; clear H'
   refine s_run rfl rfl (r_notT rfl) ?_
   refine s_run rfl rfl (rmb rfl) ?_
   refine s_run rfl (g_on 13 (by kernel_rfl) rfl) (r_la H 0 rfl rfl rfl ag25 sz25) ?_
   refine s_call (g_on 13 (by kernel_rfl) rfl) (hFb _ H.only) (ca14 rfl) ?_
   rintro e W1 ⟨rfl, H'⟩
   refine ⟨_, rfl, ?_⟩
   have H := H.same H'; clear H'
   refine s_run rfl (g_on 13 (by kernel_rfl) rfl) (r_notT rfl) ?_
   refine s_run rfl rfl (r_pkF (v := .bool _) rfl rfl) ?_
   refine k_nc ?_
   refine k_f rfl ?_
   refine k_skip ?_
   refine c_norm ?_
   refine k_seq ?_
   refine k_cut (fun f W => ∃ p5 p6 NA NB cA cB, f 2 = ptr p2 ∧ f 3 = ptr p3 ∧ f 5 = ptr p5 ∧ f 6 = ptr p6 ∧ Heap w [] [ownN 2 (.slice NA a.m cA) a.m ((flatN a.ns).map C1.v) 40, ownN 2 (.slice NB b.m cB) b.m ((flatN b.ns).map C1.v) 40, blk p5 [.slice a.A a.n a.c, .slice NA a.m cA] 30, blk p6 [.slice b.A b.n b.c, .slice NB b.m cB] 30, blk p3 [.slice b.A b.n b.c, .slice b.B b.m b.d] 25, blk p2 [.slice a.A a.n a.c, .slice a.B a.m a.d] 25] W) ?_ ?_
   ·have HR := H; clear H; have H := HR.tree; refine k_tr mixed ?_
    refine tqn 0 rfl rfl rfl (fun _ hS => r_la (HR.same hS) 1 rfl rfl rfl ag25 sz25) H.only ?_
    refine tqn 2 rfl rfl rfl (fun _ hS => r_la (HR.same hS) 0 rfl rfl rfl ag25 sz25) H.only ?_
    refine t_up3 1 4 5 (by kernel_rfl) ?_ ?_ ?_
    ·refine up_mk rfl ?_
     refine s_call rfl (hRa _ (HR.only.trans H.only)) (ca15 rfl) ?_
     rintro e W1 ⟨NA, cA, rfl, H'⟩
     refine ⟨_, rfl, ?_⟩
     have H := H.more H'; clear H'
     refine k_nil ?_
     refine t_on H.only ?_
     refine t_up3 3 4 5 (by kernel_rfl) ?_ ?_ ?_
     ·refine up_mk rfl ?_
      refine s_call rfl (hRb _ (HR.only.trans H.only)) (ca15 rfl) ?_
      rintro e W1 ⟨NB, cB, rfl, H'⟩
      refine ⟨_, rfl, ?_⟩
      have H := H.more H'; clear H'
      refine k_nil ?_
      refine t_on H.only ?_
      refine t_up2 4 5 (by kernel_rfl) ?_ ?_
      ·refine up_mk rfl ?_
       refine s_al H rfl inf30 ?_
       intro p5 _ H'; clear H; have H := H'; clear H'
       refine k_nil ?_
       refine t_on H.only ?_
       refine t_up1 5 (by kernel_rfl) ?_
       refine up_mk rfl ?_
       refine s_al H rfl inf30 ?_
       intro p6 _ H'; clear H; have H := H'; clear H'
       refine k_nil ?_
       refine t_on H.only ?_
       refine t_up1 6 (by kernel_rfl) ?_
       refine up_mk rfl ?_
       refine s_sw H 1 rfl rfl rfl rfl rfl rfl rfl sz30 ?_
       clear H; intro _ H; simp only [jA, jB, jC, jD, jE, jF, jG, jH, jI, jJ, jK, Nat.reduceAdd] at H
       refine k_nil ?_
       refine t_on H.only ?_
       refine t_up1 7 (by kernel_rfl) ?_
       refine up_mk rfl ?_
       refine s_sw H 0 rfl rfl rfl rfl rfl rfl rfl sz30 ?_
       clear H; intro _ H; simp only [jA, jB, jC, jD, jE, jF, jG, jH, jI, jJ, jK, Nat.reduceAdd] at H
       refine k_nil ?_
       refine t_on H.only ?_
       refine t_done (by kernel_rfl) ?_
       have H := HR.more H; clear HR; simp only [List.cons_append, List.nil_append] at H
       refine k_met ?_
       exact ⟨_, _, NA, NB, cA, cB, rfl, rfl, rfl, rfl, H.order [3, 2, 1, 0, 4, 5] rfl rfl⟩
      ·refine up_mk rfl ?_
       refine s_al H rfl inf30 ?_
       intro p6 _ H'; clear H; have H := H'; clear H'
       refine k_nil ?_
       refine t_on H.only ?_
       refine t_up1 4 (by kernel_rfl) ?_
       refine up_mk rfl ?_
       refine s_al H rfl inf30 ?_
       intro p5 _ H'; clear H; have H := H'; clear H'
       refine k_nil ?_
       refine t_on H.only ?_
       refine t_up1 6 (by kernel_rfl) ?_
       refine up_mk rfl ?_
       refine s_sw H 0 rfl rfl rfl rfl rfl rfl rfl sz30 ?_
       clear H; intro _ H; simp only [jA, jB, jC, jD, jE, jF, jG, jH, jI, jJ, jK, Nat.reduceAdd] at H
       refine k_nil ?_
       refine t_on H.only ?_
       refine t_up1 7 (by kernel_rfl) ?_
       refine up_mk rfl ?_
       refine s_sw H 1 rfl rfl rfl rfl rfl rfl rfl sz30 ?_
       clear H; intro _ H; simp only [jA, jB, jC, jD, jE, jF, jG, jH, jI, jJ, jK, Nat.reduceAdd] at H
       refine k_nil ?_
       refine t_on H.only ?_
       refine t_done (by kernel_rfl) ?_
       replace H := H.pick 3 rfl; simp only [jL, jM] at H
       replace H := H.pick 3 rfl; simp only [jL, jM] at H
       replace H := H.pick 2 rfl; simp only [jL, jM] at H
       replace H := H.pick 3 rfl; simp only [jL, jM] at H
       have H := HR.more H; clear HR; simp only [List.cons_append, List.nil_append] at H
       refine k_met ?_
       exact ⟨_, _, NA, NB, cA, cB, rfl, rfl, rfl, rfl, H.order [3, 2, 1, 0, 4, 5] rfl rfl⟩
     ·refine up_mk rfl ?_
      refine s_al H rfl inf30 ?_
      intro p5 _ H'; clear H; have H := H'; clear H'
      refine k_nil ?_
      refine t_on H.only ?_
      refine t_up2 3 5 (by kernel_rfl) ?_ ?_
      ·refine up_mk rfl ?_
       refine s_call rfl (hRb _ (HR.only.trans H.only)) (ca15 rfl) ?_
       rintro e W1 ⟨NB, cB, rfl, H'⟩
       refine ⟨_, rfl, ?_⟩
       have H := H.more H'; clear H'
       refine k_nil ?_
       refine t_on H.only ?_
       refine t_up1 5 (by kernel_rfl) ?_
       refine up_mk rfl ?_
       refine s_al H rfl inf30 ?_
       intro p6 _ H'; clear H; have H := H'; clear H'
       refine k_nil ?_
       refine t_on H.only ?_
       refine t_up1 6 (by kernel_rfl) ?_
       refine up_mk rfl ?_
       refine s_sw H 2 rfl rfl rfl rfl rfl rfl rfl sz30 ?_
       clear H; intro _ H; simp only [jA, jB, jC, jD, jE, jF, jG, jH, jI, jJ, jK, Nat.reduceAdd] at H
       refine k_nil ?_
       refine t_on H.only ?_
       refine t_up1 7 (by kernel_rfl) ?_
       refine up_mk rfl ?_
       refine s_sw H 0 rfl rfl rfl rfl rfl rfl rfl sz30 ?_
       clear H; intro _ H; simp only [jA, jB, jC, jD, jE, jF, jG, jH, jI, jJ, jK, Nat.reduceAdd] at H
       refine k_nil ?_
       refine t_on H.only ?_
       refine t_done (by kernel_rfl) ?_
       replace H := H.pick 3 rfl; simp only [jL, jM] at H
       replace H := H.pick 2 rfl; simp only [jL, jM] at H
       replace H := H.pick 3 rfl; simp only [jL, jM] at H
       replace H := H.pick 3 rfl; simp only [jL, jM] at H
       have H := HR.more H; clear HR; simp only [List.cons_append, List.nil_append] at H
       refine k_met ?_
       exact ⟨_, _, NA, NB, cA, cB, rfl, rfl, rfl, rfl, H.order [3, 2, 1, 0, 4, 5] rfl rfl⟩
      ·refine up_mk rfl ?_
       refine s_al H rfl inf30 ?_
       intro p6 _ H'; clear H; have H := H'; clear H'
       refine k_nil ?_
       refine t_on H.only ?_
       refine t_up1 3 (by kernel_rfl) ?_
       refine up_mk rfl ?_
       refine s_call rfl (hRb _ (HR.only.trans H.only)) (ca15 rfl) ?_
       rintro e W1 ⟨NB, cB, rfl, H'⟩
       refine ⟨_, rfl, ?_⟩
       have H := H.more H'; clear H'
       refine k_nil ?_
       refine t_on H.only ?_
       refine t_up1 6 (by kernel_rfl) ?_
       refine up_mk rfl ?_
       refine s_sw H 2 rfl rfl rfl rfl rfl rfl rfl sz30 ?_
       clear H; intro _ H; simp only [jA, jB, jC, jD, jE, jF, jG, jH, jI, jJ, jK, Nat.reduceAdd] at H
       refine k_nil ?_
       refine t_on H.only ?_
       refine t_up1 7 (by kernel_rfl) ?_
       refine up_mk rfl ?_
       refine s_sw H 1 rfl rfl rfl rfl rfl rfl rfl sz30 ?_
       clear H; intro _ H; simp only [jA, jB, jC, jD, jE, jF, jG, jH, jI, jJ, jK, Nat.reduceAdd] at H
       refine k_nil ?_
       refine t_on H.only ?_
       refine t_done (by kernel_rfl) ?_
       replace H := H.pick 3 rfl; simp only [jL, jM] at H
       replace H := H.pick 1 rfl; simp only [jL, jM] at H
       replace H := H.pick 3 rfl; simp only [jL, jM] at H
       replace H := H.pick 3 rfl; simp only [jL, jM] at H
       have H := HR.more H; clear HR; simp only [List.cons_append, List.nil_append] at H
       refine k_met ?_
       exact ⟨_, _, NA, NB, cA, cB, rfl, rfl, rfl, rfl, H.order [3, 2, 1, 0, 4, 5] rfl rfl⟩
     ·refine up_mk rfl ?_
      refine s_al H rfl inf30 ?_
      intro p6 _ H'; clear H; have H := H'; clear H'
      refine k_nil ?_
      refine t_on H.only ?_
      refine t_up2 3 4 (by kernel_rfl) ?_ ?_
      ·refine up_mk rfl ?_
       refine s_call rfl (hRb _ (HR.only.trans H.only)) (ca15 rfl) ?_
       rintro e W1 ⟨NB, cB, rfl, H'⟩
       refine ⟨_, rfl, ?_⟩
       have H := H.more H'; clear H'
       refine k_nil ?_
       refine t_on H.only ?_
       refine t_up1 4 (by kernel_rfl) ?_
       refine up_mk rfl ?_
       refine s_al H rfl inf30 ?_
       intro p5 _ H'; clear H; have H := H'; clear H'
       refine k_nil ?_
       refine t_on H.only ?_
       refine t_up1 6 (by kernel_rfl) ?_
       refine up_mk rfl ?_
       refine s_sw H 0 rfl rfl rfl rfl rfl rfl rfl sz30 ?_
       clear H; intro _ H; simp only [jA, jB, jC, jD, jE, jF, jG, jH, jI, jJ, jK, Nat.reduceAdd] at H
       refine k_nil ?_
       refine t_on H.only ?_
       refine t_up1 7 (by kernel_rfl) ?_
       refine up_mk rfl ?_
       refine s_sw H 2 rfl rfl rfl rfl rfl rfl rfl sz30 ?_
       clear H; intro _ H; simp only [jA, jB, jC, jD, jE, jF, jG, jH, jI, jJ, jK, Nat.reduceAdd] at H
       refine k_nil ?_
       refine t_on H.only ?_
       refine t_done (by kernel_rfl) ?_
       replace H := H.pick 3 rfl; simp only [jL, jM] at H
       replace H := H.pick 2 rfl; simp only [jL, jM] at H
       replace H := H.pick 2 rfl; simp only [jL, jM] at H
       replace H := H.pick 3 rfl; simp only [jL, jM] at H
       have H := HR.more H; clear HR; simp only [List.cons_append, List.nil_append] at H
       refine k_met ?_
       exact ⟨_, _, NA, NB, cA, cB, rfl, rfl, rfl, rfl, H.order [3, 2, 1, 0, 4, 5] rfl rfl⟩
      ·refine up_mk rfl ?_
       refine s_al H rfl inf30 ?_
       intro p5 _ H'; clear H; have H := H'; clear H'
       refine k_nil ?_
       refine t_on H.only ?_
       refine t_up1 3 (by kernel_rfl) ?_
       refine up_mk rfl ?_
       refine s_call rfl (hRb _ (HR.only.trans H.only)) (ca15 rfl) ?_
       rintro e W1 ⟨NB, cB, rfl, H'⟩
       refine ⟨_, rfl, ?_⟩
       have H := H.more H'; clear H'
       refine k_nil ?_
       refine t_on H.only ?_
       refine t_up1 6 (by kernel_rfl) ?_
       refine up_mk rfl ?_
       refine s_sw H 1 rfl rfl rfl rfl rfl rfl rfl sz30 ?_
       clear H; intro _ H; simp only [jA, jB, jC, jD, jE, jF, jG, jH, jI, jJ, jK, Nat.reduceAdd] at H
       refine k_nil ?_
       refine t_on H.only ?_
       refine t_up1 7 (by kernel_rfl) ?_
       refine up_mk rfl ?_
       refine s_sw H 2 rfl rfl rfl rfl rfl rfl rfl sz30 ?_
       clear H; intro _ H; simp only [jA, jB, jC, jD, jE, jF, jG, jH, jI, jJ, jK, Nat.reduceAdd] at H
       refine k_nil ?_
       refine t_on H.only ?_
       refine t_done (by kernel_rfl) ?_
       replace H := H.pick 3 rfl; simp only [jL, jM] at H
       replace H := H.pick 1 rfl; simp only [jL, jM] at H
       replace H := H.pick 2 rfl; simp only [jL, jM] at H
       replace H := H.pick 3 rfl; simp only [jL, jM] at H
       have H := HR.more H; clear HR; simp only [List.cons_append, List.nil_append] at H
       refine k_met ?_
       exact ⟨_, _, NA, NB, cA, cB, rfl, rfl, rfl, rfl, H.order [3, 2, 1, 0, 4, 5] rfl rfl⟩
    ·refine up_mk rfl ?_
     refine s_al H rfl inf30 ?_
     intro p5 _ H'; clear H; have H := H'; clear H'
     refine k_nil ?_
     refine t_on H.only ?_
     refine t_up2 1 5 (by kernel_rfl) ?_ ?_
     ·refine up_mk rfl ?_
      refine s_call rfl (hRa _ (HR.only.trans H.only)) (ca15 rfl) ?_
      rintro e W1 ⟨NA, cA, rfl, H'⟩
      refine ⟨_, rfl, ?_⟩
      have H := H.more H'; clear H'
      refine k_nil ?_
      refine t_on H.only ?_
      refine t_up2 3 5 (by kernel_rfl) ?_ ?_
      ·refine up_mk rfl ?_
       refine s_call rfl (hRb _ (HR.only.trans H.only)) (ca15 rfl) ?_
       rintro e W1 ⟨NB, cB, rfl, H'⟩
       refine ⟨_, rfl, ?_⟩
       have H := H.more H'; clear H'
       refine k_nil ?_
       refine t_on H.only ?_
       refine t_up1 5 (by kernel_rfl) ?_
       refine up_mk rfl ?_
       refine s_al H rfl inf30 ?_
       intro p6 _ H'; clear H; have H := H'; clear H'
       refine k_nil ?_
       refine t_on H.only ?_
       refine t_up1 6 (by kernel_rfl) ?_
       refine up_mk rfl ?_
       refine s_sw H 3 rfl rfl rfl rfl rfl rfl rfl sz30 ?_
       clear H; intro _ H; simp only [jA, jB, jC, jD, jE, jF, jG, jH, jI, jJ, jK, Nat.reduceAdd] at H
       refine k_nil ?_
       refine t_on H.only ?_
       refine t_up1 7 (by kernel_rfl) ?_
       refine up_mk rfl ?_
       refine s_sw H 0 rfl rfl rfl rfl rfl rfl rfl sz30 ?_
       clear H; intro _ H; simp only [jA, jB, jC, jD, jE, jF, jG, jH, jI, jJ, jK, Nat.reduceAdd] at H
       refine k_nil ?_
       refine t_on H.only ?_
       refine t_done (by kernel_rfl) ?_
       replace H := H.pick 2 rfl; simp only [jL, jM] at H
       replace H := H.pick 2 rfl; simp only [jL, jM] at H
       replace H := H.pick 3 rfl; simp only [jL, jM] at H
       replace H := H.pick 3 rfl; simp only [jL, jM] at H
       have H := HR.more H; clear HR; simp only [List.cons_append, List.nil_append] at H
       refine k_met ?_
       exact ⟨_, _, NA, NB, cA, cB, rfl, rfl, rfl, rfl, H.order [3, 2, 1, 0, 4, 5] rfl rfl⟩
      ·refine up_mk rfl ?_
       refine s_al H rfl inf30 ?_
       intro p6 _ H'; clear H; have H := H'; clear H'
       refine k_nil ?_
       refine t_on H.only ?_
       refine t_up1 3 (by kernel_rfl) ?_
       refine up_mk rfl ?_
       refine s_call rfl (hRb _ (HR.only.trans H.only)) (ca15 rfl) ?_
       rintro e W1 ⟨NB, cB, rfl, H'⟩
       refine ⟨_, rfl, ?_⟩
       have H := H.more H'; clear H'
       refine k_nil ?_
       refine t_on H.only ?_
       refine t_up1 6 (by kernel_rfl) ?_
       refine up_mk rfl ?_
       refine s_sw H 3 rfl rfl rfl rfl rfl rfl rfl sz30 ?_
       clear H; intro _ H; simp only [jA, jB, jC, jD, jE, jF, jG, jH, jI, jJ, jK, Nat.reduceAdd] at H
       refine k_nil ?_
       refine t_on H.only ?_
       refine t_up1 7 (by kernel_rfl) ?_
       refine up_mk rfl ?_
       refine s_sw H 1 rfl rfl rfl rfl rfl rfl rfl sz30 ?_
       clear H; intro _ H; simp only [jA, jB, jC, jD, jE, jF, jG, jH, jI, jJ, jK, Nat.reduceAdd] at H
       refine k_nil ?_
       refine t_on H.only ?_
       refine t_done (by kernel_rfl) ?_
       replace H := H.pick 2 rfl; simp only [jL, jM] at H
       replace H := H.pick 1 rfl; simp only [jL, jM] at H
       replace H := H.pick 3 rfl; simp only [jL, jM] at H
       replace H := H.pick 3 rfl; simp only [jL, jM] at H
       have H := HR.more H; clear HR; simp only [List.cons_append, List.nil_append] at H
       refine k_met ?_
       exact ⟨_, _, NA, NB, cA, cB, rfl, rfl, rfl, rfl, H.order [3, 2, 1, 0, 4, 5] rfl rfl⟩
     ·refine up_mk rfl ?_
      refine s_al H rfl inf30 ?_
      intro p6 _ H'; clear H; have H := H'; clear H'
      refine k_nil ?_
      refine t_on H.only ?_
      refine t_up1 1 (by kernel_rfl) ?_
      refine up_mk rfl ?_
      refine s_call rfl (hRa _ (HR.only.trans H.only)) (ca15 rfl) ?_
      rintro e W1 ⟨NA, cA, rfl, H'⟩
      refine ⟨_, rfl, ?_⟩
      have H := H.more H'; clear H'
      refine k_nil ?_
      refine t_on H.only ?_
      refine t_up1 3 (by kernel_rfl) ?_
      refine up_mk rfl ?_
      refine s_call rfl (hRb _ (HR.only.trans H.only)) (ca15 rfl) ?_
      rintro e W1 ⟨NB, cB, rfl, H'⟩
      refine ⟨_, rfl, ?_⟩
      have H := H.more H'; clear H'
      refine k_nil ?_
      refine t_on H.only ?_
      refine t_up1 6 (by kernel_rfl) ?_
      refine up_mk rfl ?_
      refine s_sw H 3 rfl rfl rfl rfl rfl rfl rfl sz30 ?_
      clear H; intro _ H; simp only [jA, jB, jC, jD, jE, jF, jG, jH, jI, jJ, jK, Nat.reduceAdd] at H
      refine k_nil ?_
      refine t_on H.only ?_
      refine t_up1 7 (by kernel_rfl) ?_
      refine up_mk rfl ?_
      refine s_sw H 2 rfl rfl rfl rfl rfl rfl rfl sz30 ?_
      clear H; intro _ H; simp only [jA, jB, jC, jD, jE, jF, jG, jH, jI, jJ, jK, Nat.reduceAdd] at H
      refine k_nil ?_
      refine t_on H.only ?_
      refine t_done (by kernel_rfl) ?_
      replace H := H.pick 1 rfl; simp only [jL, jM] at H
      replace H := H.pick 1 rfl; simp only [jL, jM] at H
      replace H := H.pick 3 rfl; simp only [jL, jM] at H
      replace H := H.pick 3 rfl; simp only [jL, jM] at H
      have H := HR.more H; clear HR; simp only [List.cons_append, List.nil_append] at H
      refine k_met ?_
      exact ⟨_, _, NA, NB, cA, cB, rfl, rfl, rfl, rfl, H.order [3, 2, 1, 0, 4, 5] rfl rfl⟩
    ·refine up_mk rfl ?_
     refine s_al H rfl inf30 ?_
     intro p6 _ H'; clear H; have H := H'; clear H'
     refine k_nil ?_
     refine t_on H.only ?_
     refine t_up2 1 4 (by kernel_rfl) ?_ ?_
     ·refine up_mk rfl ?_
      refine s_call rfl (hRa _ (HR.only.trans H.only)) (ca15 rfl) ?_
      rintro e W1 ⟨NA, cA, rfl, H'⟩
      refine ⟨_, rfl, ?_⟩
      have H := H.more H'; clear H'
      refine k_nil ?_
      refine t_on H.only ?_
      refine t_up2 3 4 (by kernel_rfl) ?_ ?_
      ·refine up_mk rfl ?_
       refine s_call rfl (hRb _ (HR.only.trans H.only)) (ca15 rfl) ?_
       rintro e W1 ⟨NB, cB, rfl, H'⟩
       refine ⟨_, rfl, ?_⟩
       have H := H.more H'; clear H'
       refine k_nil ?_
       refine t_on H.only ?_
       refine t_up1 4 (by kernel_rfl) ?_
       refine up_mk rfl ?_
       refine s_al H rfl inf30 ?_
       intro p5 _ H'; clear H; have H := H'; clear H'
       refine k_nil ?_
       refine t_on H.only ?_
       refine t_up1 6 (by kernel_rfl) ?_
       refine up_mk rfl ?_
       refine s_sw H 0 rfl rfl rfl rfl rfl rfl rfl sz30 ?_
       clear H; intro _ H; simp only [jA, jB, jC, jD, jE, jF, jG, jH, jI, jJ, jK, Nat.reduceAdd] at H
       refine k_nil ?_
       refine t_on H.only ?_
       refine t_up1 7 (by kernel_rfl) ?_
       refine up_mk rfl ?_
       refine s_sw H 3 rfl rfl rfl rfl rfl rfl rfl sz30 ?_
       clear H; intro _ H; simp only [jA, jB, jC, jD, jE, jF, jG, jH, jI, jJ, jK, Nat.reduceAdd] at H
       refine k_nil ?_
       refine t_on H.only ?_
       refine t_done (by kernel_rfl) ?_
       replace H := H.pick 2 rfl; simp only [jL, jM] at H
       replace H := H.pick 2 rfl; simp only [jL, jM] at H
       replace H := H.pick 2 rfl; simp only [jL, jM] at H
       replace H := H.pick 3 rfl; simp only [jL, jM] at H
       have H := HR.more H; clear HR; simp only [List.cons_append, List.nil_append] at H
       refine k_met ?_
       exact ⟨_, _, NA, NB, cA, cB, rfl, rfl, rfl, rfl, H.order [3, 2, 1, 0, 4, 5] rfl rfl⟩
      ·refine up_mk rfl ?_
       refine s_al H rfl inf30 ?_
       intro p5 _ H'; clear H; have H := H'; clear H'
       refine k_nil ?_
       refine t_on H.only ?_
       refine t_up1 3 (by kernel_rfl) ?_
       refine up_mk rfl ?_
       refine s_call rfl (hRb _ (HR.only.trans H.only)) (ca15 rfl) ?_
       rintro e W1 ⟨NB, cB, rfl, H'⟩
       refine ⟨_, rfl, ?_⟩
       have H := H.more H'; clear H'
       refine k_nil ?_
       refine t_on H.only ?_
       refine t_up1 6 (by kernel_rfl) ?_
       refine up_mk rfl ?_
       refine s_sw H 1 rfl rfl rfl rfl rfl rfl rfl sz30 ?_
       clear H; intro _ H; simp only [jA, jB, jC, jD, jE, jF, jG, jH, jI, jJ, jK, Nat.reduceAdd] at H
       refine k_nil ?_
       refine t_on H.only ?_
       refine t_up1 7 (by kernel_rfl) ?_
       refine up_mk rfl ?_
       refine s_sw H 3 rfl rfl rfl rfl rfl rfl rfl sz30 ?_
       clear H; intro _ H; simp only [jA, jB, jC, jD, jE, jF, jG, jH, jI, jJ, jK, Nat.reduceAdd] at H
       refine k_nil ?_
       refine t_on H.only ?_
       refine t_done (by kernel_rfl) ?_
       replace H := H.pick 2 rfl; simp only [jL, jM] at H
       replace H := H.pick 1 rfl; simp only [jL, jM] at H
       replace H := H.pick 2 rfl; simp only [jL, jM] at H
       replace H := H.pick 3 rfl; simp only [jL, jM] at H
       have H := HR.more H; clear HR; simp only [List.cons_append, List.nil_append] at H
       refine k_met ?_
       exact ⟨_, _, NA, NB, cA, cB, rfl, rfl, rfl, rfl, H.order [3, 2, 1, 0, 4, 5] rfl rfl⟩
     ·refine up_mk rfl ?_
      refine s_al H rfl inf30 ?_
      intro p5 _ H'; clear H; have H := H'; clear H'
      refine k_nil ?_
      refine t_on H.only ?_
      refine t_up1 1 (by kernel_rfl) ?_
      refine up_mk rfl ?_
      refine s_call rfl (hRa _ (HR.only.trans H.only)) (ca15 rfl) ?_
      rintro e W1 ⟨NA, cA, rfl, H'⟩
      refine ⟨_, rfl, ?_⟩
      have H := H.more H'; clear H'
      refine k_nil ?_
      refine t_on H.only ?_
      refine t_up1 3 (by kernel_rfl) ?_
      refine up_mk rfl ?_
      refine s_call rfl (hRb _ (HR.only.trans H.only)) (ca15 rfl) ?_
      rintro e W1 ⟨NB, cB, rfl, H'⟩
      refine ⟨_, rfl, ?_⟩
      have H := H.more H'; clear H'
      refine k_nil ?_
      refine t_on H.only ?_
      refine t_up1 6 (by kernel_rfl) ?_
      refine up_mk rfl ?_
      refine s_sw H 2 rfl rfl rfl rfl rfl rfl rfl sz30 ?_
      clear H; intro _ H; simp only [jA, jB, jC, jD, jE, jF, jG, jH, jI, jJ, jK, Nat.reduceAdd] at H
      refine k_nil ?_
      refine t_on H.only ?_
      refine t_up1 7 (by kernel_rfl) ?_
      refine up_mk rfl ?_
      refine s_sw H 3 rfl rfl rfl rfl rfl rfl rfl sz30 ?_
      clear H; intro _ H; simp only [jA, jB, jC, jD, jE, jF, jG, jH, jI, jJ, jK, Nat.reduceAdd] at H
      refine k_nil ?_
      refine t_on H.only ?_
      refine t_done (by kernel_rfl) ?_
      replace H := H.pick 1 rfl; simp only [jL, jM] at H
      replace H := H.pick 1 rfl; simp only [jL, jM] at H
      replace H := H.pick 2 rfl; simp only [jL, jM] at H
      replace H := H.pick 3 rfl; simp only [jL, jM] at H
      have H := HR.more H; clear HR; simp only [List.cons_append, List.nil_append] at H
      refine k_met ?_
      exact ⟨_, _, NA, NB, cA, cB, rfl, rfl, rfl, rfl, H.order [3, 2, 1, 0, 4, 5] rfl rfl⟩
   ·clear H
    rintro f W ⟨p5, p6, NA, NB, cA, cB, f2, f3, f5, f6, H⟩
    obtain ⟨f, rfl⟩ := live4 f2 f3 f5 f6
    clear f2 f3 f5 f6
    have ma := ref_sm sa NA cA
    have mb := ref_sm sb NB cB
    have hGS := fun W' (h : Only [] w W') => gSame a b W' (ha.later h (by simp)) (hb.later h (by simp)) sa sb
    have hDS := fun W' L (h : Heap w [] (ownN 2 (.slice NA a.m cA) a.m ((flatN a.ns).map C1.v) 40 :: ownN 2 (.slice NB b.m cB) b.m ((flatN b.ns).map C1.v) 40 :: L) W') => dSame (refG a NA cA) (refG b NB cB) W' (ref_ok (ha.later h.only (by simp)) h 0 rfl) (ref_ok (hb.later h.only (by simp)) h 1 rfl) ma mb
    have hRa := fun W' L (h : Heap w [] (ownN 2 (.slice NA a.m cA) a.m ((flatN a.ns).map C1.v) 40 :: L) W') => dRight (refG a NA cA) W' (ref_ok (ha.later h.only (by simp)) h 0 rfl)
    have hRb := fun W' E L (h : Heap w [] (E :: ownN 2 (.slice NB b.m cB) b.m ((flatN b.ns).map C1.v) 40 :: L) W') => dRight (refG b NB cB) W' (ref_ok (hb.later h.only (by simp)) h 1 rfl)
    have hAl := fun W' (h : Only [] w W') => gAl a b W' (ha.later h (by simp)) (hb.later h (by simp)) sa sb
    have hAm := fun W' (h : Only [] w W') => gAl b a W' (hb.later h (by simp)) (ha.later h (by simp)) sb sa
    rw [ref_same] at hDS
    rw [alB_comm a b] at hAm
    rw [ref_right] at hRa hRb
    generalize sameB a b = sv at hGS hDS
    cases ra : rightB a with
    | false =>
     have eal : alB a b = false := alB_no (by rw [ra]; rfl)
     rw [eal] at hAl hAm
     rw [ra] at hRa
     unfold GrS.cells at *
     unfold refG at hDS hRa
     refine c_norm ?_
     refine k_seq ?_
     refine k_seq ?_
     refine k_q mixed (by kernel_rfl) H ?_
     refine q_run rfl rfl (fun _ H => r_la H 5 rfl rfl rfl ag25 sz25) ?_
     refine q_run rfl rfl (fun _ H => r_la H 4 rfl rfl rfl ag25 sz25) ?_
     refine q_call rfl rfl (fun _ H => hGS _ H.only) (ca16 rfl) ?_
     refine q_run rfl rfl (fun _ H => r_la H 2 rfl rfl rfl ag30 sz30) ?_
     refine q_run rfl rfl (fun _ H => r_la H 3 rfl rfl rfl ag30 sz30) ?_
     refine q_call rfl rfl (fun _ H => hDS _ _ H) (ca17 rfl) ?_
     refine q_run rfl rfl (fun _ H => r_bneq rfl rfl rfl Try.underlying4) ?_
     refine q_nil ?_
     intro _ H'; clear H; have H := H'; clear H'
     refine c_norm ?_
     refine k_f rfl ?_
     refine k_skip ?_
     refine c_norm ?_
     refine k_seq ?_
     have HR := H; clear H; have H := HR.tree; refine k_tr mixed ?_
     refine tqh 0 rfl rfl rfl (fun _ hS => r_la (HR.same hS) 2 rfl rfl rfl ag30 sz30) H.only ?_
     refine t_up1 1 (by kernel_rfl) ?_
     refine up_mk rfl ?_
     refine s_call rfl (hRa _ _ (HR.same H.only)) (ca18 rfl) ?_
     rintro e W1 ⟨rfl, H'⟩
     refine ⟨_, rfl, ?_⟩
     have H := H.same H'; clear H'
     refine k_nil ?_
     refine t_on H.only ?_
     refine tqh 2 rfl rfl rfl (fun _ hS => r_mv (v := .bool _) rfl) H.only ?_
     refine toh 3 rfl rfl (g_off 31 (by kernel_rfl) rfl rfl) H.only ?_
     refine toh 4 rfl rfl (g_off 31 (by kernel_rfl) rfl rfl) H.only ?_
     refine tqh 5 rfl rfl rfl (fun _ hS => r_pkF (v := .bool _) rfl rfl) H.only ?_
     refine tqh 6 rfl rfl rfl (fun _ hS => r_mv (v := .bool _) rfl) H.only ?_
     refine toh 7 rfl rfl (g_off 35 (by kernel_rfl) rfl rfl) H.only ?_
     refine toh 8 rfl rfl (g_off 35 (by kernel_rfl) rfl rfl) H.only ?_
     refine toh 9 rfl rfl (g_off 35 (by kernel_rfl) rfl rfl) H.only ?_
     refine toh 10 rfl rfl (g_off 35 (by kernel_rfl) rfl rfl) H.only ?_
     refine toh 11 rfl rfl (g_off 35 (by kernel_rfl) rfl rfl) H.only ?_
     refine tqh 12 rfl rfl rfl (fun _ hS => r_pkF (v := .bool _) rfl rfl) H.only ?_
     refine tqh 13 rfl rfl rfl (fun _ hS => r_as (v := .bool _) rfl) H.only ?_
     refine t_done (by kernel_rfl) ?_
     have H := HR.more H; clear HR; simp only [List.cons_append, List.nil_append] at H
     refine c_norm ?_
     refine k_sg ?_
     refine s_run rfl rfl (r_la H 5 rfl rfl rfl ag25 sz25) ?_
     refine s_run rfl rfl (r_la H 4 rfl rfl rfl ag25 sz25) ?_
     refine s_call rfl (hAl _ H.only) (ca20 rfl) ?_
     rintro e W1 ⟨rfl, H'⟩
     refine ⟨_, rfl, ?_⟩
     have H := H.same H'; clear H'
     refine s_run rfl rfl (rmb rfl) ?_
     refine s_run rfl rfl (r_beqT rfl rfl rfl Try.underlying4) ?_
     refine s_run rfl rfl (rmb rfl) ?_
     refine s_run rfl (g_on 47 (by kernel_rfl) rfl) (r_la H 4 rfl rfl rfl ag25 sz25) ?_
     refine s_run rfl (g_on 47 (by kernel_rfl) rfl) (r_la H 5 rfl rfl rfl ag25 sz25) ?_
     refine s_call (g_on 47 (by kernel_rfl) rfl) (hAm _ H.only) (ca20 rfl) ?_
     rintro e W1 ⟨rfl, H'⟩
     refine ⟨_, rfl, ?_⟩
     have H := H.same H'; clear H'
     refine s_run rfl (g_on 47 (by kernel_rfl) rfl) (rmb rfl) ?_
     refine s_run rfl (g_on 47 (by kernel_rfl) rfl) (r_beqT rfl rfl rfl Try.underlying4) ?_
     refine s_run rfl rfl (r_pkT (v := .bool _) rfl rfl) ?_
     refine s_run rfl rfl (rab rfl) ?_
     refine k_nc ?_
     refine k_ret ?_
     refine fin1r (v := .bool _) rfl rfl ?_
     exact ⟨rfl, H.below⟩
    | true =>
     rw [ra] at hRa
     cases rb : rightB b with
     | false =>
      have eal : alB a b = false := alB_no (by rw [ra, rb]; rfl)
      rw [eal] at hAl hAm
      rw [rb] at hRb
      unfold GrS.cells at *
      unfold refG at hDS hRa hRb
      refine c_norm ?_
      refine k_seq ?_
      refine k_seq ?_
      refine k_q mixed (by kernel_rfl) H ?_
      refine q_run rfl rfl (fun _ H => r_la H 5 rfl rfl rfl ag25 sz25) ?_
      refine q_run rfl rfl (fun _ H => r_la H 4 rfl rfl rfl ag25 sz25) ?_
      refine q_call rfl rfl (fun _ H => hGS _ H.only) (ca16 rfl) ?_
      refine q_run rfl rfl (fun _ H => r_la H 2 rfl rfl rfl ag30 sz30) ?_
      refine q_run rfl rfl (fun _ H => r_la H 3 rfl rfl rfl ag30 sz30) ?_
      refine q_call rfl rfl (fun _ H => hDS _ _ H) (ca17 rfl) ?_
      refine q_run rfl rfl (fun _ H => r_bneq rfl rfl rfl Try.underlying4) ?_
      refine q_nil ?_
      intro _ H'; clear H; have H := H'; clear H'
      refine c_norm ?_
      refine k_f rfl ?_
      refine k_skip ?_
      refine c_norm ?_
      refine k_seq ?_
      have HR := H; clear H; have H := HR.tree; refine k_tr mixed ?_
      refine tqh 0 rfl rfl rfl (fun _ hS => r_la (HR.same hS) 2 rfl rfl rfl ag30 sz30) H.only ?_
      refine t_up1 1 (by kernel_rfl) ?_
      refine up_mk rfl ?_
      refine s_call rfl (hRa _ _ (HR.same H.only)) (ca18 rfl) ?_
      rintro e W1 ⟨rfl, H'⟩
      refine ⟨_, rfl, ?_⟩
      have H := H.same H'; clear H'
      refine k_nil ?_
      refine t_on H.only ?_
      refine tqh 2 rfl rfl rfl (fun _ hS => r_mv (v := .bool _) rfl) H.only ?_
      refine tqh 3 rfl rfl (g_on 31 (by kernel_rfl) rfl) (fun _ hS => r_la (HR.same hS) 3 rfl rfl rfl ag30 sz30) H.only ?_
      refine t_up1 4 (by kernel_rfl) ?_
      refine up_mk rfl ?_
      refine s_call (g_on 31 (by kernel_rfl) rfl) (hRb _ _ _ (HR.same H.only)) (ca18 rfl) ?_
      rintro e W1 ⟨rfl, H'⟩
      refine ⟨_, rfl, ?_⟩
      have H := H.same H'; clear H'
      refine k_nil ?_
      refine t_on H.only ?_
      refine tqh 5 rfl rfl rfl (fun _ hS => r_pkT (v := .bool _) rfl rfl) H.only ?_
      refine tqh 6 rfl rfl rfl (fun _ hS => r_mv (v := .bool _) rfl) H.only ?_
      refine toh 7 rfl rfl (g_off 35 (by kernel_rfl) rfl rfl) H.only ?_
      refine toh 8 rfl rfl (g_off 35 (by kernel_rfl) rfl rfl) H.only ?_
      refine toh 9 rfl rfl (g_off 35 (by kernel_rfl) rfl rfl) H.only ?_
      refine toh 10 rfl rfl (g_off 35 (by kernel_rfl) rfl rfl) H.only ?_
      refine toh 11 rfl rfl (g_off 35 (by kernel_rfl) rfl rfl) H.only ?_
      refine tqh 12 rfl rfl rfl (fun _ hS => r_pkF (v := .bool _) rfl rfl) H.only ?_
      refine tqh 13 rfl rfl rfl (fun _ hS => r_as (v := .bool _) rfl) H.only ?_
      refine t_done (by kernel_rfl) ?_
      have H := HR.more H; clear HR; simp only [List.cons_append, List.nil_append] at H
      refine c_norm ?_
      refine k_sg ?_
      refine s_run rfl rfl (r_la H 5 rfl rfl rfl ag25 sz25) ?_
      refine s_run rfl rfl (r_la H 4 rfl rfl rfl ag25 sz25) ?_
      refine s_call rfl (hAl _ H.only) (ca20 rfl) ?_
      rintro e W1 ⟨rfl, H'⟩
      refine ⟨_, rfl, ?_⟩
      have H := H.same H'; clear H'
      refine s_run rfl rfl (rmb rfl) ?_
      refine s_run rfl rfl (r_beqT rfl rfl rfl Try.underlying4) ?_
      refine s_run rfl rfl (rmb rfl) ?_
      refine s_run rfl (g_on 47 (by kernel_rfl) rfl) (r_la H 4 rfl rfl rfl ag25 sz25) ?_
      refine s_run rfl (g_on 47 (by kernel_rfl) rfl) (r_la H 5 rfl rfl rfl ag25 sz25) ?_
      refine s_call (g_on 47 (by kernel_rfl) rfl) (hAm _ H.only) (ca20 rfl) ?_
      rintro e W1 ⟨rfl, H'⟩
      refine ⟨_, rfl, ?_⟩
      have H := H.same H'; clear H'
      refine s_run rfl (g_on 47 (by kernel_rfl) rfl) (rmb rfl) ?_
      refine s_run rfl (g_on 47 (by kernel_rfl) rfl) (r_beqT rfl rfl rfl Try.underlying4) ?_
      refine s_run rfl rfl (r_pkT (v := .bool _) rfl rfl) ?_
      refine s_run rfl rfl (rab rfl) ?_
      refine k_nc ?_
      refine k_ret ?_
      refine fin1r (v := .bool _) rfl rfl ?_
      exact ⟨rfl, H.below⟩
     | true =>
      have hCa := fun W' L (h : Heap w [] (ownN 2 (.slice NA a.m cA) a.m ((flatN a.ns).map C1.v) 40 :: L) W') => dCanon (refG a NA cA) W' (ref_ok (ha.later h.only (by simp)) h 0 rfl) ra ma
      have hCb := fun W' E L (h : Heap w [] (E :: ownN 2 (.slice NB b.m cB) b.m ((flatN b.ns).map C1.v) 40 :: L) W') => dCanon (refG b NB cB) W' (ref_ok (hb.later h.only (by simp)) h 1 rfl) rb mb
      have hCS : ∀ {ga gb : GrS} {W' : World} {oa ob : List Int}, GrOk W' [] ga → Gr.IsOrd (Gr.ptr a.nodes) a.rs oa → ga.rs = Gr.canonR a.rs oa → ga.nodes = Gr.canonN a.nodes oa → ga.n = a.n → ga.m = oa.length → oa.length ≤ a.m → (∀ x ∈ ga.ns, x.n ≤ 1000 ∧ x.m ≤ 100000) → GrOk W' [] gb → Gr.IsOrd (Gr.ptr b.nodes) b.rs ob → gb.rs = Gr.canonR b.rs ob → gb.nodes = Gr.canonN b.nodes ob → gb.n = b.n → gb.m = ob.length → ob.length ≤ b.m → (∀ x ∈ gb.ns, x.n ≤ 1000 ∧ x.m ≤ 100000) → Calls Try.prog 17 [.agg ga.cells.toArray, .agg gb.cells.toArray].toArray W' fun e w' => e = .returned (.bool (alB a b)) ∧ Only [] W' w' := by
       intro ga gb W' oa ob k1 o1 r1 n1 q1 q2 q3 q4 k2 o2 r2 n2 t1 t2 t3 t4
       have h := dSame ga gb W' k1 k2 ⟨by have := sa.n; omega, by have := sa.m; omega, q4⟩ ⟨by have := sb.n; omega, by have := sb.m; omega, t4⟩
       have e : sameB ga gb = alB a b := by
        rw [alB_yes ra rb o1 o2]; unfold sameB; rw [r1, n1, r2, n2]
       rw [e] at h; exact h
      rw [rb] at hRb
      generalize alB a b = al at hAl hAm hCS
      unfold GrS.cells at *
      unfold refG at hDS hRa hRb hCa hCb
      refine c_norm ?_
      refine k_seq ?_
      refine k_seq ?_
      refine k_q mixed (by kernel_rfl) H ?_
      refine q_run rfl rfl (fun _ H => r_la H 5 rfl rfl rfl ag25 sz25) ?_
      refine q_run rfl rfl (fun _ H => r_la H 4 rfl rfl rfl ag25 sz25) ?_
      refine q_call rfl rfl (fun _ H => hGS _ H.only) (ca16 rfl) ?_
      refine q_run rfl rfl (fun _ H => r_la H 2 rfl rfl rfl ag30 sz30) ?_
      refine q_run rfl rfl (fun _ H => r_la H 3 rfl rfl rfl ag30 sz30) ?_
      refine q_call rfl rfl (fun _ H => hDS _ _ H) (ca17 rfl) ?_
      refine q_run rfl rfl (fun _ H => r_bneq rfl rfl rfl Try.underlying4) ?_
      refine q_nil ?_
      intro _ H'; clear H; have H := H'; clear H'
      refine c_norm ?_
      refine k_f rfl ?_
      refine k_skip ?_
      refine c_norm ?_
      refine k_seq ?_
      have HR := H; clear H; have H := HR.tree; refine k_tr mixed ?_
      refine tqh 0 rfl rfl rfl (fun _ hS => r_la (HR.same hS) 2 rfl rfl rfl ag30 sz30) H.only ?_
      refine t_up1 1 (by kernel_rfl) ?_
      refine up_mk rfl ?_
      refine s_call rfl (hRa _ _ (HR.same H.only)) (ca18 rfl) ?_
      rintro e W1 ⟨rfl, H'⟩
      refine ⟨_, rfl, ?_⟩
      have H := H.same H'; clear H'
      refine k_nil ?_
      refine t_on H.only ?_
      refine tqh 2 rfl rfl rfl (fun _ hS => r_mv (v := .bool _) rfl) H.only ?_
      refine tqh 3 rfl rfl (g_on 31 (by kernel_rfl) rfl) (fun _ hS => r_la (HR.same hS) 3 rfl rfl rfl ag30 sz30) H.only ?_
      refine t_up1 4 (by kernel_rfl) ?_
      refine up_mk rfl ?_
      refine s_call (g_on 31 (by kernel_rfl) rfl) (hRb _ _ _ (HR.same H.only)) (ca18 rfl) ?_
      rintro e W1 ⟨rfl, H'⟩
      refine ⟨_, rfl, ?_⟩
      have H := H.same H'; clear H'
      refine k_nil ?_
      refine t_on H.only ?_
      refine tqh 5 rfl rfl rfl (fun _ hS => r_pkT (v := .bool _) rfl rfl) H.only ?_
      refine tqh 6 rfl rfl rfl (fun _ hS => r_mv (v := .bool _) rfl) H.only ?_
      refine tqh 7 rfl rfl (g_on 35 (by kernel_rfl) rfl) (fun _ hS => r_la (HR.same hS) 2 rfl rfl rfl ag30 sz30) H.only ?_
      refine tqh 9 rfl rfl (g_on 35 (by kernel_rfl) rfl) (fun _ hS => r_la (HR.same hS) 3 rfl rfl rfl ag30 sz30) H.only ?_
      refine t_up1 8 (by kernel_rfl) ?_
      refine up_mk rfl ?_
      refine s_call (g_on 35 (by kernel_rfl) rfl) (hCa _ _ (HR.same H.only)) (ca19 rfl) ?_
      rintro e W1 ⟨⟨ga, oa, rfl, ka, o1, r1, n1, q1, q2, q3, q4⟩, H'⟩
      refine ⟨_, rfl, ?_⟩
      have H := H.same H'; (try replace kb := kb.later H' (by simp)); clear H'
      refine k_nil ?_
      refine t_on H.only ?_
      refine t_up1 10 (by kernel_rfl) ?_
      refine up_mk rfl ?_
      refine s_call (g_on 35 (by kernel_rfl) rfl) (hCb _ _ _ (HR.same H.only)) (ca19 rfl) ?_
      rintro e W1 ⟨⟨gb, ob, rfl, kb, o2, r2, n2, t1, t2, t3, t4⟩, H'⟩
      refine ⟨_, rfl, ?_⟩
      have H := H.same H'; (try replace ka := ka.later H' (by simp)); clear H'
      refine k_nil ?_
      refine t_on H.only ?_
      refine t_up1 11 (by kernel_rfl) ?_
      refine up_mk rfl ?_
      refine s_call (g_on 35 (by kernel_rfl) rfl) (hCS ka o1 r1 n1 q1 q2 q3 q4 kb o2 r2 n2 t1 t2 t3 t4) (ca17 rfl) ?_
      rintro e W1 ⟨rfl, H'⟩
      refine ⟨_, rfl, ?_⟩
      have H := H.same H'; clear H'
      refine k_nil ?_
      refine t_on H.only ?_
      refine tqh 12 rfl rfl rfl (fun _ hS => r_pkT (v := .bool _) rfl rfl) H.only ?_
      refine tqh 13 rfl rfl rfl (fun _ hS => r_as (v := .bool _) rfl) H.only ?_
      refine t_done (by kernel_rfl) ?_
      have H := HR.more H; clear HR; simp only [List.cons_append, List.nil_append] at H
      refine c_norm ?_
      refine k_sg ?_
      refine s_run rfl rfl (r_la H 5 rfl rfl rfl ag25 sz25) ?_
      refine s_run rfl rfl (r_la H 4 rfl rfl rfl ag25 sz25) ?_
      refine s_call rfl (hAl _ H.only) (ca20 rfl) ?_
      rintro e W1 ⟨rfl, H'⟩
      refine ⟨_, rfl, ?_⟩
      have H := H.same H'; clear H'
      refine s_run rfl rfl (rmb rfl) ?_
      refine s_run rfl rfl (r_beqT rfl rfl rfl Try.underlying4) ?_
      refine s_run rfl rfl (rmb rfl) ?_
      refine s_run rfl (g_on 47 (by kernel_rfl) rfl) (r_la H 4 rfl rfl rfl ag25 sz25) ?_
      refine s_run rfl (g_on 47 (by kernel_rfl) rfl) (r_la H 5 rfl rfl rfl ag25 sz25) ?_
      refine s_call (g_on 47 (by kernel_rfl) rfl) (hAm _ H.only) (ca20 rfl) ?_
      rintro e W1 ⟨rfl, H'⟩
      refine ⟨_, rfl, ?_⟩
      have H := H.same H'; clear H'
      refine s_run rfl (g_on 47 (by kernel_rfl) rfl) (rmb rfl) ?_
      refine s_run rfl (g_on 47 (by kernel_rfl) rfl) (r_beqT rfl rfl rfl Try.underlying4) ?_
      refine s_run rfl rfl (r_pkT (v := .bool _) rfl rfl) ?_
      refine s_run rfl rfl (rab rfl) ?_
      refine k_nc ?_
      refine k_ret ?_
      refine fin1r (v := .bool _) rfl rfl ?_
      exact ⟨rfl, H.below⟩
end Go.Proofs.Ytdgmlfpikgjnlaa
end

section
namespace Go.Proofs.Ytdgmlfpikgjnlaa.lGraphSames
open Go.ChangeShapes Go.WideShapes Go.ChangeAt Go.RowKit
theorem own : ownKnob Try.prog.godebug = none := by kernel_rfl
theorem laidOut : laidOutB Try.prog = true := by kernel_rfl
set_option maxRecDepth 100000 in
theorem lifted (os : Os) (started : os.Started) (H : Type) (enc : TypeId × Value → H) :
  ReturnsInHanded {} Try.checked os 3 .any (Rows.graphSamesSpec.pre6 enc Try.prog Try.f3 Rows.graphSamesRow.domain false) (Rows.graphSamesSpec.post enc Try.prog Try.f3 false true false false) := by
 refine returnsInHanded_of_change (C := Try.checked) own started (by kernel_rfl) Try.func3
  (ChangeSpec.witness6 (enc := enc) (C := Try.checked) false ⟨#[], #[.agg #[.slice none 0 0, .slice none 0 0], .agg #[.slice none 0 0, .slice none 0 0]], []⟩ 8 (by kernel_rfl) (by kernel_rfl) (by kernel_rfl) (by kernel_rfl)) ?_
 intro W base args ds gs before hval0 hW hcnd _
 have hval : ∀ (j : Nat) t v, Try.f3.params[j]? = some t → args[j]? = some v → Value.okWide Try.prog W .any base t v := hval0
 have hW' := hW
 obtain ⟨p, q, hA0, hV, rfl, hfz, hnd⟩ := hW
 have hA : DataW.TrodAll enc Try.prog W 0 (fun _ => true) true Try.f3.params.toList args.toList ds p := hA0
 rw [Try.params3] at hA hval
 obtain ⟨v0, vs0, d0, ds0, p0, q0, hargs, rfl, rfl, h0, r0⟩ := trodAll_cons hA
 obtain ⟨v1, vs1, d1, ds1, p1, q1, rfl, rfl, rfl, h1, r1⟩ := trodAll_cons r0
 obtain ⟨rfl, rfl, rfl⟩ := trodAll_nil r1
 obtain rfl : args = #[v0, v1] := by cases args; simp_all
 obtain ⟨rfl, rfl⟩ := trodVars_none hV
 have k0 := h0
 have lt0 : ∀ x ∈ p0, x.block < W.heap.size := by obtain ⟨m, hm⟩ := k0; exact DataW.trod_lt m _ _ _ hm
 have k1 := h1
 have lt1 : ∀ x ∈ p1, x.block < W.heap.size := by obtain ⟨m, hm⟩ := k1; exact DataW.trod_lt m _ _ _ hm
 obtain ⟨x0, rfl, w0⟩ := open_graph W base v0 d0 p0 (hval 0 25 v0 rfl rfl) h0
 obtain ⟨x1, rfl, w1⟩ := open_graph W base v1 d1 p1 (hval 1 25 v1 rfl rfl) h1
 clear hA0 hval0
 refine (walk_GraphSames x0 x1 W w0 w1).mono fun e W' ⟨he, bel⟩ => ?_
 subst he
 exact ⟨_, rfl, _, _, _, [], _, [], hW', trodAll_mk1 (shut_bool Try.underlying4 _), (trodAll_cons_mk (Below.trod laidOut (by kernel_rfl) (of_decide_eq_true (by kernel_rfl)) k0 bel lt0) (trodAll_cons_mk (Below.trod laidOut (by kernel_rfl) (of_decide_eq_true (by kernel_rfl)) k1 bel lt1) trodAll_mk0)), rfl, bel.frame _, fun h => by cases h⟩
theorem over : Rows.graphSamesRow.holds Try.pinned (OpenSpec.ofChange Rows.graphSamesSpec) :=
 OpenClaim.holds_of_wide 3 Try.f3 rfl rfl rfl rfl rfl rfl rfl ⟨rfl, rfl, rfl, rfl, rfl⟩ rfl rfl rfl rfl rfl (by kernel_rfl) Try.func3 (by kernel_rfl)
  (of_decide_eq_true (by kernel_rfl)) (by unfold Func.isWrapper; first | (rw [if_pos (by decide +kernel)]; kernel_rfl) | (rw [if_neg (by decide +kernel)]; exact ⟨rfl, rfl⟩))
  (fun os started H enc _ => lifted os started H enc)
theorem proved : Rows.GraphSamesSaid := over
#print axioms proved
end Go.Proofs.Ytdgmlfpikgjnlaa.lGraphSames
end
