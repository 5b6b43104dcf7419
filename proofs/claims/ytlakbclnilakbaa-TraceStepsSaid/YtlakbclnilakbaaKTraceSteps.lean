/-
  TraceSteps: for every input the Go function answers true, and its arguments read afterwards as they read before. No condition.
-/
import Derived.Deep.Slices
import Derived.Deep.Fields
import Derived.ChangeSame
import Derived.Test.YtlakbclnilakbaaKTraceStepsd
set_option linter.unusedSimpArgs false
set_option linter.unusedVariables false
set_option linter.unusedSectionVars false
section
namespace Go.Proofs.Ytlakbclnilakbaa
open Go.RowKit
end Go.Proofs.Ytlakbclnilakbaa
end

section
namespace Go.Proofs.Ytlakbclnilakbaa
open Go.RowKit
end Go.Proofs.Ytlakbclnilakbaa
end

section
namespace Go.Proofs.Ytlakbclnilakbaa
open Go.RowKit
end Go.Proofs.Ytlakbclnilakbaa
end

section
namespace Go.Proofs.Ytlakbclnilakbaa
open Go.RowKit
theorem RefOk.news {w : World} {F G : List Nat} {s : RefS} {d : Nv.D} {m : Nat} (h : RefOk w F s d m) (hG : ∀ i ∈ G, i ∈ F ∨ w.heap.size ≤ i) : RefOk w G s d m :=
 ⟨h.now.news hG, h.last.news hG, h.wait.news hG, h.dirty.news hG, h.pend.news hG, h.fuse, h.ok⟩
end Go.Proofs.Ytlakbclnilakbaa
end

section
namespace Go.Proofs.Ytlakbclnilakbaa
open Go.RowKit
end Go.Proofs.Ytlakbclnilakbaa
end

section
namespace Go.Proofs.Ytlakbclnilakbaa
open Go.RowKit
end Go.Proofs.Ytlakbclnilakbaa
end

section
namespace Go.Proofs.Ytlakbclnilakbaa
end Go.Proofs.Ytlakbclnilakbaa
end

section
namespace Go.Proofs.Ytlakbclnilakbaa
open Go.RowKit
set_option maxRecDepth 100000
set_option maxHeartbeats 4000000
section
variable {s : RefS} {d : Nv.D} {m : Nat} {w : World}
end
end Go.Proofs.Ytlakbclnilakbaa
end

section
namespace Go.Proofs.Ytlakbclnilakbaa
open Go.RowKit
set_option maxRecDepth 100000
set_option maxHeartbeats 4000000
end Go.Proofs.Ytlakbclnilakbaa
end

section
namespace Go.Proofs.Ytlakbclnilakbaa
section
open Go.ChangeShapes Go.WideShapes Go.Deep
variable {H : Type} {enc : TypeId × Value → H} {w : World} {base : Nat} {spare : Nat → Bool} {held : Bool}
theorem o_add {b o i : Nat} : (⟨b, o, none⟩ : Addr).add i = ⟨b, o + i, none⟩ := by
 unfold Addr.add; split
 ·subst_vars; rfl
 ·rfl
theorem o_sees {k : IntKind} {t e : TypeId} {fuel : Nat} {v : Value} {y : DataW H × List MemPlace} (ht : Try.prog.underlying t = some (.slice e)) (he : Try.prog.underlying e = some (.int k)) (hc : Try.prog.cellsOf e = 1)
  (h : DataW.trod enc Try.prog w base spare held fuel t [v] = some y) :
  ∃ A n c xs, v = .slice A n c ∧ Sees (Value.int k) w [] A xs ∧ xs.length = n ∧ n ≤ c ∧ c ≤ maxLen ∧ ∀ z ∈ xs, (Lit.int k z).wf = true := by
 rcases open_ints ht he hc h with ⟨hcs, _⟩ | ⟨x, l, c, zs, hcs, _, hl, hm, hz, _, hcell, hwf⟩
 ·injection hcs with hv _
  exact ⟨none, 0, 0, [], hv, Sees.nil, rfl, by omega, by decide, by simp⟩
 ·injection hcs with hv _
  have hzl : l ≤ zs.length := by rw [hz]; split <;> omega
  refine ⟨some x, l, c, zs.take l, hv, fun h0 => ?_, by simp; omega, hl, hm, fun z hz => hwf z (List.mem_of_mem_take hz)⟩
  obtain ⟨b, off, spot⟩ := x
  have h0' : 0 < l := by simp at h0; omega
  have hc0 := hcell 0 (by omega)
  have hspot : spot = none := by simpa [Addr.add] using World.cell?_spot hc0
  subst hspot
  refine ⟨b, off, rfl, by simp, fun j z hj => ?_⟩
  have hjl : j < l := by have := (List.getElem?_eq_some_iff.1 hj).1; simp at this; omega
  rw [List.getElem?_take_of_lt hjl] at hj
  have hc2 := hcell j (by omega)
  rw [o_add] at hc2
  rw [hc2]
  simp [List.getD, hj]
theorem o_list {α : Type} {Q : Nat → α → Prop} : ∀ n : Nat, (∀ i, i < n → ∃ x, Q i x) → ∃ l : List α, l.length = n ∧ ∀ i x, l[i]? = some x → Q i x
 | 0, _ => ⟨[], rfl, by simp⟩
 | n + 1, h => by
  obtain ⟨l, hl, hq⟩ := o_list n (fun i hi => h i (by omega))
  obtain ⟨x, hx⟩ := h n (by omega)
  refine ⟨l ++ [x], by simp [hl], fun i y hy => ?_⟩
  by_cases hi : i < l.length
  ·rw [List.getElem?_append_left hi] at hy; exact hq i y hy
  ·have hi2 : i < n + 1 := by have := (List.getElem?_eq_some_iff.1 hy).1; simp at this; omega
   obtain rfl : i = n := by omega
   rw [List.getElem?_append_right (by omega)] at hy
   simp [hl] at hy
   subst hy; exact hx
set_option maxRecDepth 100000 in
theorem o_one {t : TypeId} {fs : Array Field} (h : Try.prog.underlying t = some (.struct fs)) (h2 : (match Try.prog.underlying t with | some (.struct fs) => oneCellFields Try.prog fs | _ => false) = true) : oneCellFields Try.prog fs = true := by
 rw [h] at h2; exact h2
end
end Go.Proofs.Ytlakbclnilakbaa
end

section
namespace Go.Proofs.Ytlakbclnilakbaa
open Go.RowKit
structure TNode where
 f0 : Int
 A1 : Option Addr
 n1 : Nat
 c1 : Nat
 xs1 : List Int
def TNode.cells (u : TNode) : List Value := [.int .i64 u.f0, .slice u.A1 u.n1 u.c1]
structure TNodeOk (w : World) (u : TNode) : Prop where
 w0 : (Lit.int .i64 u.f0).wf = true
 s1 : Sees (Value.int .i64) w [] u.A1 u.xs1
 l1 : u.xs1.length = u.n1
 m1 : u.n1 ≤ u.c1 ∧ u.c1 ≤ maxLen
 b1 : ∀ z ∈ u.xs1, (Lit.int .i64 z).wf = true
def ScriptTNode (w : World) (A : Option Addr) (ops : List TNode) : Prop := (ops.length ≠ 0 → ∃ b o, A = some ⟨b, o, none⟩ ∧ ∀ i op, ops[i]? = some op → Reads (fun v : Value => v) w b (o + i * 2) op.cells) ∧ ∀ op ∈ ops, TNodeOk w op
theorem TNodeOk.later {w W : World} {u : TNode} (h : TNodeOk w u) (hO : Only [] w W) : TNodeOk W u := ⟨h.w0, h.s1.later hO (by simp), h.l1, h.m1, h.b1⟩
theorem ScriptTNode.later {w W : World} {A : Option Addr} {ops : List TNode} (h : ScriptTNode w A ops) (hO : Only [] w W) : ScriptTNode W A ops :=
 ⟨fun h0 => by
  obtain ⟨b, o, e, hr⟩ := h.1 h0
  exact ⟨b, o, e, fun i op hi => (hr i op hi).later hO (by simp)⟩, fun op hop => (h.2 op hop).later hO⟩
section
open Go.ChangeShapes Go.WideShapes Go.Deep
variable {H : Type} {enc : TypeId × Value → H} {w : World} {base : Nat} {spare : Nat → Bool} {held : Bool}
set_option maxRecDepth 100000 in
theorem open_TNode {fuel : Nat} {cs : List Value} {y : DataW H × List MemPlace} (h : DataW.trod enc Try.prog w base spare held fuel 100 cs = some y) : ∃ op : TNode, cs = op.cells ∧ TNodeOk w op := by
 obtain ⟨xs, n, _, _, hl, hlen, hg⟩ := DataW.trod_struct Try.underlying100 h
 have hone := o_one Try.underlying100 (by kernel_rfl)
 have hcl : cs.length = 2 := hl.trans (by kernel_rfl)
 replace hlen : xs.length = 2 := hlen
 match cs, hcl, xs, hlen with
 | [c0, c1], _, [y0, y1], _ =>
  obtain ⟨o0, k0⟩ := hone_of hone 0 _ rfl
  obtain ⟨o1, k1⟩ := hone_of hone 1 _ rfl
  have g0 := hg 0 _ rfl
  have g1 := hg 1 _ rfl
  rw [o0, k0] at g0
  rw [o1, k1] at g1
  replace g0 := g0.trans (show _ = some y0 from rfl)
  replace g1 := g1.trans (show _ = some y1 from rfl)
  obtain ⟨z0, e0, _, w0⟩ := DataW.trod_int Try.underlying3 g0
  obtain ⟨A1, m1, q1, bs1, e1, hs1, hb1, hmc1, hcm1, hw1⟩ := o_sees Try.underlying25 Try.underlying3 (by kernel_rfl) (show DataW.trod enc Try.prog w base spare held n 25 [c1] = some y1 from g1)
  obtain rfl : c0 = .int .i64 z0 := by simpa using e0
  subst e1
  exact ⟨⟨z0, A1, m1, q1, bs1⟩, rfl, w0, hs1, hb1, ⟨hmc1, hcm1⟩, hw1⟩
set_option maxRecDepth 100000 in
theorem opens_TNode (W : World) {r : Reach} (b0 : Nat) (v : Value) (d : DataW H) (p : List MemPlace)
  (hv : Value.okWide Try.prog W r b0 44 v) (h : DataW.Trod enc Try.prog W base spare held 44 v d p) :
  ∃ x : Option Addr × Nat × Nat × List TNode, v = .slice x.1 x.2.1 x.2.2.1 ∧ (ScriptTNode W x.1 x.2.2.2 ∧ x.2.2.2.length = x.2.1 ∧ x.2.1 ≤ 9223372036854775807 ∧ x.2.1 ≤ x.2.2.1) := by
 obtain ⟨a, len, cap, rfl⟩ := okWide_slice Try.underlying44 hv
 obtain ⟨fuel, hf⟩ := h
 have c5 : Try.prog.cellsOf 100 = 2 := by kernel_rfl
 rcases open_slice Try.underlying44 hf with ⟨hcs, _⟩ | ⟨x, l, c, m, n, D, Pl, hcs, _, hl, hm, hmm, _, hx⟩
 ·simp [Value.cells] at hcs
  obtain ⟨rfl, rfl, rfl⟩ := hcs
  exact ⟨(none, 0, 0, []), rfl, ⟨fun h => absurd rfl h, by simp⟩, rfl, by show (0 : Nat) ≤ _; omega, by show (0 : Nat) ≤ _; omega⟩
 ·simp [Value.cells] at hcs
  obtain ⟨rfl, rfl, rfl⟩ := hcs
  rw [c5] at hx
  have hlm : len ≤ m := by rw [hmm]; split <;> omega
  obtain ⟨ops, hol, hq⟩ := o_list (Q := fun i (op : TNode) => TNodeOk W op ∧ ∀ j u, op.cells[j]? = some u → W.cell? (x.add (i * 2 + j)) = some u) len (fun i hi => by
   obtain ⟨cs', hc, ht⟩ := hx i (by omega)
   obtain ⟨op, rfl, hok⟩ := open_TNode ht
   obtain ⟨_, hcl, hat⟩ := World.cells?_some hc
   refine ⟨op, hok, fun j u hj => ?_⟩
   have hj5 : j < 2 := by have := (List.getElem?_eq_some_iff.1 hj).1; rw [hcl] at this; exact this
   rw [← Go.Deep.add_add, hat j hj5, hj])
  refine ⟨(some x, len, cap, ops), rfl, ⟨fun h0 => ?_, fun op hop => ?_⟩, hol, by simp only [maxLen] at hm; show len ≤ _; omega, by show len ≤ cap; omega⟩
  ·have h00 : ops.length ≠ 0 := h0
   obtain ⟨op0, hop0⟩ : ∃ op, ops[0]? = some op := ⟨_, List.getElem?_eq_getElem (by omega)⟩
   obtain ⟨b, off, spot⟩ := x
   have hc0 := (hq 0 op0 hop0).2 0 _ rfl
   have hspot : spot = none := by simpa [Addr.add] using World.cell?_spot hc0
   subst hspot
   refine ⟨b, off, rfl, fun i op hi j u hu => ?_⟩
   have := (hq i op hi).2 j u hu
   rw [o_add] at this
   rw [Nat.add_assoc]; exact this
  ·obtain ⟨i, hi, rfl⟩ := List.mem_iff_getElem.1 hop
   exact (hq i _ (List.getElem?_eq_getElem hi)).1
end
end Go.Proofs.Ytlakbclnilakbaa
end

section
namespace Go.Proofs.Ytlakbclnilakbaa.Md
def adr (n : Int) : Int := if n < 0 then -(n + 1) else 512 + 512 * (n / 64) + 8 * (n % 64)
theorem adr_bd {n : Int} (h : -5000 ≤ n ∧ n ≤ 5000) : 0 ≤ adr n ∧ adr n ≤ 60000 := by unfold adr; split <;> omega
theorem adr_cell {n : Int} {B : Nat} (h : 0 ≤ n ∧ n < 64 * ((B : Int) - 1)) : 512 ≤ adr n ∧ adr n + 8 ≤ 512 * (B : Int) ∧ adr n % 8 = 0 := by unfold adr; rw [if_neg (by omega)]; omega
def setPs (ws : List Int) (at_ : Nat) (ps : List Int) : Nat → List Int
 | 0 => ws
 | k + 1 => (setPs ws at_ ps k).set (at_ + 1 + k) (adr (ps.getD k 0))
def putNode (B : Nat) (ws : List Int) (c : Int) (ps : List Int) : List Int :=
 if c < 0 ∨ 64 * ((B : Int) - 1) ≤ c ∨ 6 < ps.length then ws else setPs (ws.set (adr c).toNat (Oh.enc (ps.length : Int) (7 - (ps.length : Int)) (adr c))) (adr c).toNat ps ps.length
def mkW (B : Nat) (us : List (Int × List Int)) : Nat → List Int
 | 0 => List.replicate (512 * B) 0
 | k + 1 => putNode B (mkW B us k) (us.getD k (-1, [])).1 (us.getD k (-1, [])).2
theorem setPs_len (ws : List Int) (a : Nat) (ps : List Int) : ∀ k, (setPs ws a ps k).length = ws.length
 | 0 => rfl
 | k + 1 => by rw [setPs, List.length_set]; exact setPs_len ws a ps k
theorem putNode_len (B : Nat) (ws : List Int) (c : Int) (ps : List Int) : (putNode B ws c ps).length = ws.length := by
 unfold putNode; split
 ·rfl
 ·rw [setPs_len, List.length_set]
theorem mkW_len (B : Nat) (us : List (Int × List Int)) : ∀ k, (mkW B us k).length = 512 * B
 | 0 => by simp [mkW]
 | k + 1 => by rw [mkW, putNode_len]; exact mkW_len B us k
theorem W64.set {ws : List Int} (h : Ob.W64 ws) (i : Nat) {v : Int} (hv : 0 ≤ v ∧ v ≤ 18446744073709551615) : Ob.W64 (ws.set i v) := fun x hx => by
 rcases List.mem_or_eq_of_mem_set hx with h1 | h1
 ·exact h x h1
 ·subst h1; exact hv
theorem setPs_w64 {ws : List Int} (h : Ob.W64 ws) (a : Nat) (ps : List Int) (hp : ∀ x ∈ ps, -5000 ≤ x ∧ x ≤ 5000) : ∀ k, k ≤ ps.length → Ob.W64 (setPs ws a ps k)
 | 0, _ => h
 | k + 1, hk => by
  rw [setPs]
  refine W64.set (setPs_w64 h a ps hp k (by omega)) _ ?_
  have hm : ps.getD k 0 ∈ ps := by
   rw [List.getD_eq_getElem?_getD, List.getElem?_eq_getElem (by omega)]; exact List.getElem_mem _
  have := adr_bd (hp _ hm)
  omega
theorem mkW_w64 (B : Nat) (us : List (Int × List Int)) (h : ∀ u ∈ us, ∀ x ∈ u.2, -5000 ≤ x ∧ x ≤ 5000) : ∀ k, k ≤ us.length → Ob.W64 (mkW B us k)
 | 0, _ => fun x hx => by rw [List.eq_of_mem_replicate hx]; omega
 | k + 1, hk => by
  rw [mkW]
  unfold putNode
  have ih := mkW_w64 B us h k (by omega)
  split
  ·exact ih
  ·have hm : us.getD k (-1, []) ∈ us := by
    rw [List.getD_eq_getElem?_getD, List.getElem?_eq_getElem (by omega)]; exact List.getElem_mem _
   exact setPs_w64 (W64.set ih _ (Oh.enc_bd _ _ _)) _ _ (h _ hm) _ (Nat.le_refl _)
/-- the headers: none, then small ones -/
def mkH (B : Nat) : List Ob.H3 := (List.range B).map fun i => if i = 0 then (0, 0, 0) else (1, 6, 0)
theorem mkH_len (B : Nat) : (mkH B).length = B := by simp [mkH]
def hfl : Nat → List C1
 | 0 => []
 | i + 1 => hfl i ++ if i = 0 then [C1.i .i64 0, C1.i .i64 0, C1.i .i64 0] else [C1.i .i64 1, C1.i .i64 6, C1.i .i64 0]
theorem hfl_len : ∀ i, (hfl i).length = i * 3
 | 0 => rfl
 | i + 1 => by rw [hfl, List.length_append, hfl_len i]; split <;> simp <;> omega
theorem hfl_get : ∀ (B i : Nat), i < B → ∃ a b c, (mkH B)[i]? = some (a, b, c) ∧ (hfl B)[i * 3]? = some (C1.i .i64 a) ∧ (hfl B)[i * 3 + 1]? = some (C1.i .i64 b) ∧ (hfl B)[i * 3 + 2]? = some (C1.i .i64 c)
 | 0, i, h => by omega
 | B + 1, i, h => by
  have hl := hfl_len B
  by_cases e : i = B
  ·subst e
   rw [hfl]
   unfold mkH
   rw [List.getElem?_map, List.getElem?_range (by omega), List.getElem?_append_right (by omega), List.getElem?_append_right (by omega), List.getElem?_append_right (by omega), hl]
   rw [show i * 3 - i * 3 = 0 by omega, show i * 3 + 1 - i * 3 = 1 by omega, show i * 3 + 2 - i * 3 = 2 by omega]
   by_cases h0 : i = 0
   ·exact ⟨0, 0, 0, by simp [h0], by simp [h0], by simp [h0], by simp [h0]⟩
   ·exact ⟨1, 6, 0, by simp [h0], by simp [h0], by simp [h0], by simp [h0]⟩
  ·obtain ⟨a, b, c, h1, h2, h3, h4⟩ := hfl_get B i (by omega)
   refine ⟨a, b, c, ?_, ?_, ?_, ?_⟩
   ·unfold mkH at h1 ⊢
    rw [List.getElem?_map, List.getElem?_range (by omega)] at h1 ⊢
    exact h1
   ·rw [hfl, List.getElem?_append_left (by omega)]; exact h2
   ·rw [hfl, List.getElem?_append_left (by omega)]; exact h3
   ·rw [hfl, List.getElem?_append_left (by omega)]; exact h4
end Go.Proofs.Ytlakbclnilakbaa.Md
end

section
namespace Go.Proofs.Ytlakbclnilakbaa
open Go.RowKit
set_option maxRecDepth 100000
set_option maxHeartbeats 4000000
theorem lAddr (n : Int) (w : World) (hn : -1000000000 ≤ n ∧ n ≤ 1000000000) :
  Calls Try.prog 23 [.int .i64 n].toArray w fun e w' => e = .returned (.int .i64 (Md.adr n)) ∧ Only [] w w' := by
 have H := Heap.nil w
 unfold Md.adr
 by_cases h : n < 0
 ·rw [if_pos h, show -(n + 1) = 0 - (n + 1) by omega]
  refine k_in (N := 16) Try.func23 rfl rfl rfl ?_
  refine k_sg ?_
  refine s_run rfl rfl (rai rfl) ?_
  refine k_nc ?_
  refine k_seq ?_
  refine k_sg ?_
  refine s_run rfl rfl (rmi rfl) ?_
  refine s_run rfl rfl (r_lssT rfl rfl (by omega)) ?_
  refine k_nc ?_
  refine k_t rfl ?_
  refine k_sg ?_
  refine s_run rfl rfl (rmi rfl) ?_
  refine s_run rfl rfl (r_add rfl rfl (wI (by omega))) ?_
  refine s_run rfl rfl (r_neg rfl (wI (by omega))) ?_
  refine s_run rfl rfl (rai rfl) ?_
  refine k_nc ?_
  refine k_ret ?_
  refine c_ret ?_
  refine fin1r (v := .int _ _) rfl rfl ?_
  exact ⟨rfl, H.only⟩
 ·rw [if_neg h]
  refine k_in (N := 16) Try.func23 rfl rfl rfl ?_
  refine k_sg ?_
  refine s_run rfl rfl (rai rfl) ?_
  refine k_nc ?_
  refine k_seq ?_
  refine k_sg ?_
  refine s_run rfl rfl (rmi rfl) ?_
  refine s_run rfl rfl (r_lssF rfl rfl (by omega)) ?_
  refine k_nc ?_
  refine k_f rfl ?_
  refine k_skip ?_
  refine c_norm ?_
  refine k_sg ?_
  refine s_run rfl rfl (rmi rfl) ?_
  refine s_run rfl rfl (r_quo rfl rfl (by omega) (wI (by omega))) ?_
  refine s_run rfl rfl (r_mul rfl rfl (wI (by omega))) ?_
  refine s_run rfl rfl (r_add rfl rfl (wI (by omega))) ?_
  refine s_run rfl rfl (rmi rfl) ?_
  refine s_run rfl rfl (r_rem rfl rfl (by omega)) ?_
  refine s_run rfl rfl (r_mul rfl rfl (wI (by omega))) ?_
  refine s_run rfl rfl (r_add rfl rfl (wI (by omega))) ?_
  refine s_run rfl rfl (rai rfl) ?_
  refine k_nc ?_
  refine k_ret ?_
  refine fin1r (v := .int _ _) rfl rfl ?_
  exact ⟨rfl, H.only⟩
def FewT (us : List TNode) (l : List Int) : Prop := us.length ≤ 60 ∧ l.length ≤ 20 ∧ (∀ u ∈ us, u.n1 ≤ 10 ∧ ∀ x ∈ u.xs1, -5000 ≤ x ∧ x ≤ 5000) ∧ ∀ x ∈ l, -5000 ≤ x ∧ x ≤ 5000
theorem lFewT (A : Option Addr) (n c : Nat) (us : List TNode) (B : Option Addr) (m d : Nat) (l : List Int) (w : World) (hU : ScriptTNode w A us) (hn : us.length = n) (hS : Sees (Value.int .i64) w [] B l) (hl : l.length = m) (hn2 : n ≤ 9223372036854775807) (hm2 : m ≤ 9223372036854775807) :
  Calls Try.prog 19 [.slice A n c, .slice B m d].toArray w fun e w' => ∃ b, e = .returned (.bool b) ∧ (b = true → FewT us l) ∧ Only [] w w' := by
 have H := Heap.nil w
 by_cases h1 : n > 60
 ·refine k_in (N := 77) Try.func19 rfl rfl rfl ?_
  refine k_sg ?_
  refine s_run rfl rfl (rab rfl) ?_
  refine k_nc ?_
  refine k_seq ?_
  refine k_sg ?_
  refine s_run rfl rfl (rms rfl) ?_
  refine s_run rfl rfl (r_len rfl Try.underlying44) ?_
  refine s_run rfl rfl (r_gtrT rfl rfl (by omega)) ?_
  refine s_run rfl rfl (rmb rfl) ?_
  refine s_off rfl (g_off 11 (by kernel_rfl) rfl rfl) ?_
  refine s_off rfl (g_off 11 (by kernel_rfl) rfl rfl) ?_
  refine s_off rfl (g_off 11 (by kernel_rfl) rfl rfl) ?_
  refine s_run rfl rfl (r_pkT (v := .bool _) rfl rfl) ?_
  refine k_nc ?_
  refine k_t rfl ?_
  refine k_sg ?_
  refine s_run rfl rfl (rab rfl) ?_
  refine k_nc ?_
  refine k_ret ?_
  refine c_ret ?_
  refine fin1r (v := .bool _) rfl rfl ?_
  exact ⟨false, rfl, (fun h => by cases h), H.only⟩
 by_cases h2 : m > 20
 ·refine k_in (N := 77) Try.func19 rfl rfl rfl ?_
  refine k_sg ?_
  refine s_run rfl rfl (rab rfl) ?_
  refine k_nc ?_
  refine k_seq ?_
  refine k_sg ?_
  refine s_run rfl rfl (rms rfl) ?_
  refine s_run rfl rfl (r_len rfl Try.underlying44) ?_
  refine s_run rfl rfl (r_gtrF rfl rfl (by omega)) ?_
  refine s_run rfl rfl (rmb rfl) ?_
  refine s_run rfl (g_on 11 (by kernel_rfl) rfl) (rms rfl) ?_
  refine s_run rfl (g_on 11 (by kernel_rfl) rfl) (r_len rfl Try.underlying25) ?_
  refine s_run rfl (g_on 11 (by kernel_rfl) rfl) (r_gtrT rfl rfl (by omega)) ?_
  refine s_run rfl rfl (r_pkF (v := .bool _) rfl rfl) ?_
  refine k_nc ?_
  refine k_t rfl ?_
  refine k_sg ?_
  refine s_run rfl rfl (rab rfl) ?_
  refine k_nc ?_
  refine k_ret ?_
  refine c_ret ?_
  refine fin1r (v := .bool _) rfl rfl ?_
  exact ⟨false, rfl, (fun h => by cases h), H.only⟩
 refine k_in (N := 77) Try.func19 rfl rfl rfl ?_
 refine k_sg ?_
 refine s_run rfl rfl (rab rfl) ?_
 refine k_nc ?_
 refine k_seq ?_
 refine k_sg ?_
 refine s_run rfl rfl (rms rfl) ?_
 refine s_run rfl rfl (r_len rfl Try.underlying44) ?_
 refine s_run rfl rfl (r_gtrF rfl rfl (by omega)) ?_
 refine s_run rfl rfl (rmb rfl) ?_
 refine s_run rfl (g_on 11 (by kernel_rfl) rfl) (rms rfl) ?_
 refine s_run rfl (g_on 11 (by kernel_rfl) rfl) (r_len rfl Try.underlying25) ?_
 refine s_run rfl (g_on 11 (by kernel_rfl) rfl) (r_gtrF rfl rfl (by omega)) ?_
 refine s_run rfl rfl (r_pkF (v := .bool _) rfl rfl) ?_
 refine k_nc ?_
 refine k_f rfl ?_
 refine k_skip ?_
 refine c_norm ?_
 refine k_seq ?_
 refine k_sg ?_
 refine s_run rfl rfl (rai rfl) ?_
 refine k_nc ?_
 refine k_b ?_
 refine k_loop (fun z f W => ∃ (i : Nat), i ≤ n ∧ z = n - i ∧ (∀ u ∈ us.take i, u.n1 ≤ 10 ∧ ∀ x ∈ u.xs1, -5000 ≤ x ∧ x ≤ 5000) ∧ f 0 = .slice A n c ∧ f 1 = .slice B m d ∧ f 5 = .int .i64 i ∧ Heap w [] [] W) n ⟨0, by omega, rfl, by simp, rfl, rfl, rfl, H⟩ ?_
 clear H
 rintro z f W ⟨i, hi, rfl, hpre, f0, f1, f5, H⟩
 obtain ⟨f, rfl⟩ := live3 f0 f1 f5
 clear f0 f1 f5
 by_cases hlt : i < n
 ·obtain ⟨u, hu⟩ : ∃ u, us[i]? = some u := ⟨_, List.getElem?_eq_getElem (by omega)⟩
  have hok := hU.2 u (List.mem_of_getElem? hu)
  obtain ⟨b, o, rfl, hrd⟩ := hU.1 (by omega)
  have hre := hrd i u hu
  have c1 : w.cell? ⟨b, o + i * 2 + 1, none⟩ = some (.slice u.A1 u.n1 u.c1) := hre 1 _ rfl
  have hn1 : u.n1 ≤ 9223372036854775807 := by have := hok.m1; unfold maxLen at this; omega
  by_cases h10 : u.n1 > 10
  ·refine k_seq ?_
   refine k_sg ?_
   refine s_run rfl rfl (rmi rfl) ?_
   refine s_run rfl rfl (rms rfl) ?_
   refine s_run rfl rfl (r_len rfl Try.underlying44) ?_
   refine s_run rfl rfl (r_lssT rfl rfl (by omega)) ?_
   refine k_nc ?_
   refine k_t rfl ?_
   refine k_skip ?_
   refine c_norm ?_
   refine k_seq ?_
   refine k_b ?_
   refine k_seq ?_
   refine k_sg ?_
   refine s_run rfl rfl (rms rfl) ?_
   refine s_run rfl rfl (rmi rfl) ?_
   refine s_run rfl rfl (r_ix (i := i) rfl rfl (by omega) (by omega) Try.underlying44 sz100) ?_
   refine s_run rfl rfl (r_fa rfl fo100_1) ?_
   refine s_run rfl rfl (r_lr H rfl c1 (by simp) ag25) ?_
   refine s_run rfl rfl (r_len rfl Try.underlying25) ?_
   refine s_run rfl rfl (r_gtrT rfl rfl (by omega)) ?_
   refine k_nc ?_
   refine k_t rfl ?_
   refine k_sg ?_
   refine s_run rfl rfl (rab rfl) ?_
   refine k_nc ?_
   refine k_ret ?_
   refine c_ret ?_
   refine b_ret ?_
   refine c_ret ?_
   refine c_ret ?_
   refine b_ret ?_
   refine c_ret ?_
   refine fin1r (v := .bool _) rfl rfl ?_
   exact ⟨false, rfl, (fun h => by cases h), H.only⟩
  ·refine k_seq ?_
   refine k_sg ?_
   refine s_run rfl rfl (rmi rfl) ?_
   refine s_run rfl rfl (rms rfl) ?_
   refine s_run rfl rfl (r_len rfl Try.underlying44) ?_
   refine s_run rfl rfl (r_lssT rfl rfl (by omega)) ?_
   refine k_nc ?_
   refine k_t rfl ?_
   refine k_skip ?_
   refine c_norm ?_
   refine k_seq ?_
   refine k_b ?_
   refine k_seq ?_
   refine k_sg ?_
   refine s_run rfl rfl (rms rfl) ?_
   refine s_run rfl rfl (rmi rfl) ?_
   refine s_run rfl rfl (r_ix (i := i) rfl rfl (by omega) (by omega) Try.underlying44 sz100) ?_
   refine s_run rfl rfl (r_fa rfl fo100_1) ?_
   refine s_run rfl rfl (r_lr H rfl c1 (by simp) ag25) ?_
   refine s_run rfl rfl (r_len rfl Try.underlying25) ?_
   refine s_run rfl rfl (r_gtrF rfl rfl (by omega)) ?_
   refine k_nc ?_
   refine k_f rfl ?_
   refine k_skip ?_
   refine c_norm ?_
   refine k_sg ?_
   refine s_run rfl rfl (rai rfl) ?_
   refine k_nc ?_
   refine k_b ?_
   refine k_loop (fun z f W => ∃ (k : Nat), k ≤ u.n1 ∧ z = u.n1 - k ∧ (∀ x ∈ u.xs1.take k, -5000 ≤ x ∧ x ≤ 5000) ∧ f 0 = .slice (some ⟨b, o, none⟩) n c ∧ f 1 = .slice B m d ∧ f 5 = .int .i64 i ∧ f 6 = .int .i64 k ∧ Heap w [] [] W) u.n1 ⟨0, by omega, rfl, by simp, rfl, rfl, rfl, rfl, H⟩ ?_
   clear H
   rintro z f W ⟨k, hk, rfl, hpk, f0, f1, f5, f6, H⟩
   obtain ⟨f, rfl⟩ := live4 f0 f1 f5 f6
   clear f0 f1 f5 f6
   by_cases hkl : k < u.n1
   ·obtain ⟨x, hx⟩ : ∃ x, u.xs1[k]? = some x := ⟨_, List.getElem?_eq_getElem (by have := hok.l1; omega)⟩
    obtain ⟨b2, o2, hA1, _, hr2⟩ := hok.s1 (by have := hok.l1; omega)
    have cx := hr2 k x hx
    rw [hA1] at c1
    by_cases hx1 : x < -5000
    ·refine k_seq ?_
     refine k_sg ?_
     refine s_run rfl rfl (rmi rfl) ?_
     refine s_run rfl rfl (rms rfl) ?_
     refine s_run rfl rfl (rmi rfl) ?_
     refine s_run rfl rfl (r_ix (i := i) rfl rfl (by omega) (by omega) Try.underlying44 sz100) ?_
     refine s_run rfl rfl (r_fa rfl fo100_1) ?_
     refine s_run rfl rfl (r_lr H rfl c1 (by simp) ag25) ?_
     refine s_run rfl rfl (r_len rfl Try.underlying25) ?_
     refine s_run rfl rfl (r_lssT rfl rfl (by omega)) ?_
     refine k_nc ?_
     refine k_t rfl ?_
     refine k_skip ?_
     refine c_norm ?_
     refine k_seq ?_
     refine k_b ?_
     refine k_sg ?_
     refine s_run rfl rfl (rms rfl) ?_
     refine s_run rfl rfl (rmi rfl) ?_
     refine s_run rfl rfl (r_ix (i := i) rfl rfl (by omega) (by omega) Try.underlying44 sz100) ?_
     refine s_run rfl rfl (r_fa rfl fo100_1) ?_
     refine s_run rfl rfl (r_lr H rfl c1 (by simp) ag25) ?_
     refine s_run rfl rfl (rmi rfl) ?_
     refine s_run rfl rfl (r_ix1o (i := k) rfl rfl (by omega) (by omega) Try.underlying25 sz3) ?_
     refine s_run rfl rfl (r_lr H rfl cx (by simp) ag3) ?_
     refine s_run rfl rfl (r_lssT rfl rfl (by omega)) ?_
     refine s_run rfl rfl (rmb rfl) ?_
     refine s_off rfl (g_off 48 (by kernel_rfl) rfl rfl) ?_
     refine s_off rfl (g_off 48 (by kernel_rfl) rfl rfl) ?_
     refine s_off rfl (g_off 48 (by kernel_rfl) rfl rfl) ?_
     refine s_off rfl (g_off 48 (by kernel_rfl) rfl rfl) ?_
     refine s_off rfl (g_off 48 (by kernel_rfl) rfl rfl) ?_
     refine s_off rfl (g_off 48 (by kernel_rfl) rfl rfl) ?_
     refine s_off rfl (g_off 48 (by kernel_rfl) rfl rfl) ?_
     refine s_off rfl (g_off 48 (by kernel_rfl) rfl rfl) ?_
     refine s_off rfl (g_off 48 (by kernel_rfl) rfl rfl) ?_
     refine s_run rfl rfl (r_pkT (v := .bool _) rfl rfl) ?_
     refine k_nc ?_
     refine k_t rfl ?_
     refine k_sg ?_
     refine s_run rfl rfl (rab rfl) ?_
     refine k_nc ?_
     refine k_ret ?_
     refine b_ret ?_
     refine c_ret ?_
     refine c_ret ?_
     refine b_ret ?_
     refine b_ret ?_
     refine c_ret ?_
     refine c_ret ?_
     refine b_ret ?_
     refine c_ret ?_
     refine fin1r (v := .bool _) rfl rfl ?_
     exact ⟨false, rfl, (fun h => by cases h), H.only⟩
    ·by_cases hx2 : x > 5000
     ·refine k_seq ?_
      refine k_sg ?_
      refine s_run rfl rfl (rmi rfl) ?_
      refine s_run rfl rfl (rms rfl) ?_
      refine s_run rfl rfl (rmi rfl) ?_
      refine s_run rfl rfl (r_ix (i := i) rfl rfl (by omega) (by omega) Try.underlying44 sz100) ?_
      refine s_run rfl rfl (r_fa rfl fo100_1) ?_
      refine s_run rfl rfl (r_lr H rfl c1 (by simp) ag25) ?_
      refine s_run rfl rfl (r_len rfl Try.underlying25) ?_
      refine s_run rfl rfl (r_lssT rfl rfl (by omega)) ?_
      refine k_nc ?_
      refine k_t rfl ?_
      refine k_skip ?_
      refine c_norm ?_
      refine k_seq ?_
      refine k_b ?_
      refine k_sg ?_
      refine s_run rfl rfl (rms rfl) ?_
      refine s_run rfl rfl (rmi rfl) ?_
      refine s_run rfl rfl (r_ix (i := i) rfl rfl (by omega) (by omega) Try.underlying44 sz100) ?_
      refine s_run rfl rfl (r_fa rfl fo100_1) ?_
      refine s_run rfl rfl (r_lr H rfl c1 (by simp) ag25) ?_
      refine s_run rfl rfl (rmi rfl) ?_
      refine s_run rfl rfl (r_ix1o (i := k) rfl rfl (by omega) (by omega) Try.underlying25 sz3) ?_
      refine s_run rfl rfl (r_lr H rfl cx (by simp) ag3) ?_
      refine s_run rfl rfl (r_lssF rfl rfl (by omega)) ?_
      refine s_run rfl rfl (rmb rfl) ?_
      refine s_run rfl (g_on 48 (by kernel_rfl) rfl) (rms rfl) ?_
      refine s_run rfl (g_on 48 (by kernel_rfl) rfl) (rmi rfl) ?_
      refine s_run rfl (g_on 48 (by kernel_rfl) rfl) (r_ix (i := i) rfl rfl (by omega) (by omega) Try.underlying44 sz100) ?_
      refine s_run rfl (g_on 48 (by kernel_rfl) rfl) (r_fa rfl fo100_1) ?_
      refine s_run rfl (g_on 48 (by kernel_rfl) rfl) (r_lr H rfl c1 (by simp) ag25) ?_
      refine s_run rfl (g_on 48 (by kernel_rfl) rfl) (rmi rfl) ?_
      refine s_run rfl (g_on 48 (by kernel_rfl) rfl) (r_ix1o (i := k) rfl rfl (by omega) (by omega) Try.underlying25 sz3) ?_
      refine s_run rfl (g_on 48 (by kernel_rfl) rfl) (r_lr H rfl cx (by simp) ag3) ?_
      refine s_run rfl (g_on 48 (by kernel_rfl) rfl) (r_gtrT rfl rfl (by omega)) ?_
      refine s_run rfl rfl (r_pkF (v := .bool _) rfl rfl) ?_
      refine k_nc ?_
      refine k_t rfl ?_
      refine k_sg ?_
      refine s_run rfl rfl (rab rfl) ?_
      refine k_nc ?_
      refine k_ret ?_
      refine b_ret ?_
      refine c_ret ?_
      refine c_ret ?_
      refine b_ret ?_
      refine b_ret ?_
      refine c_ret ?_
      refine c_ret ?_
      refine b_ret ?_
      refine c_ret ?_
      refine fin1r (v := .bool _) rfl rfl ?_
      exact ⟨false, rfl, (fun h => by cases h), H.only⟩
     ·refine k_seq ?_
      refine k_sg ?_
      refine s_run rfl rfl (rmi rfl) ?_
      refine s_run rfl rfl (rms rfl) ?_
      refine s_run rfl rfl (rmi rfl) ?_
      refine s_run rfl rfl (r_ix (i := i) rfl rfl (by omega) (by omega) Try.underlying44 sz100) ?_
      refine s_run rfl rfl (r_fa rfl fo100_1) ?_
      refine s_run rfl rfl (r_lr H rfl c1 (by simp) ag25) ?_
      refine s_run rfl rfl (r_len rfl Try.underlying25) ?_
      refine s_run rfl rfl (r_lssT rfl rfl (by omega)) ?_
      refine k_nc ?_
      refine k_t rfl ?_
      refine k_skip ?_
      refine c_norm ?_
      refine k_seq ?_
      refine k_b ?_
      refine k_sg ?_
      refine s_run rfl rfl (rms rfl) ?_
      refine s_run rfl rfl (rmi rfl) ?_
      refine s_run rfl rfl (r_ix (i := i) rfl rfl (by omega) (by omega) Try.underlying44 sz100) ?_
      refine s_run rfl rfl (r_fa rfl fo100_1) ?_
      refine s_run rfl rfl (r_lr H rfl c1 (by simp) ag25) ?_
      refine s_run rfl rfl (rmi rfl) ?_
      refine s_run rfl rfl (r_ix1o (i := k) rfl rfl (by omega) (by omega) Try.underlying25 sz3) ?_
      refine s_run rfl rfl (r_lr H rfl cx (by simp) ag3) ?_
      refine s_run rfl rfl (r_lssF rfl rfl (by omega)) ?_
      refine s_run rfl rfl (rmb rfl) ?_
      refine s_run rfl (g_on 48 (by kernel_rfl) rfl) (rms rfl) ?_
      refine s_run rfl (g_on 48 (by kernel_rfl) rfl) (rmi rfl) ?_
      refine s_run rfl (g_on 48 (by kernel_rfl) rfl) (r_ix (i := i) rfl rfl (by omega) (by omega) Try.underlying44 sz100) ?_
      refine s_run rfl (g_on 48 (by kernel_rfl) rfl) (r_fa rfl fo100_1) ?_
      refine s_run rfl (g_on 48 (by kernel_rfl) rfl) (r_lr H rfl c1 (by simp) ag25) ?_
      refine s_run rfl (g_on 48 (by kernel_rfl) rfl) (rmi rfl) ?_
      refine s_run rfl (g_on 48 (by kernel_rfl) rfl) (r_ix1o (i := k) rfl rfl (by omega) (by omega) Try.underlying25 sz3) ?_
      refine s_run rfl (g_on 48 (by kernel_rfl) rfl) (r_lr H rfl cx (by simp) ag3) ?_
      refine s_run rfl (g_on 48 (by kernel_rfl) rfl) (r_gtrF rfl rfl (by omega)) ?_
      refine s_run rfl rfl (r_pkF (v := .bool _) rfl rfl) ?_
      refine k_nc ?_
      refine k_f rfl ?_
      refine k_skip ?_
      refine b_norm ?_
      refine c_norm ?_
      refine k_rg ?_
      refine s_run rfl rfl (rmi rfl) ?_
      refine s_run rfl rfl (r_add rfl rfl (wI (by omega))) ?_
      refine s_run rfl rfl (rai rfl) ?_
      refine k_nil ?_
      refine c_round ?_
      refine ⟨_, _, ?_, rfl, k + 1, by omega, rfl, fun y hy => ?_, rfl, rfl, rfl, rfl, H⟩
      ·omega
      ·rw [← tk_snoc hx] at hy
       rcases List.mem_append.1 hy with h | h
       ·exact hpk y h
       ·rw [List.mem_singleton.1 h]; omega
   ·obtain rfl : k = u.n1 := by omega
    rw [show u.xs1.take u.n1 = u.xs1 by rw [← hok.l1]; exact List.take_length] at hpk
    refine k_seq ?_
    refine k_sg ?_
    refine s_run rfl rfl (rmi rfl) ?_
    refine s_run rfl rfl (rms rfl) ?_
    refine s_run rfl rfl (rmi rfl) ?_
    refine s_run rfl rfl (r_ix (i := i) rfl rfl (by omega) (by omega) Try.underlying44 sz100) ?_
    refine s_run rfl rfl (r_fa rfl fo100_1) ?_
    refine s_run rfl rfl (r_lr H rfl c1 (by simp) ag25) ?_
    refine s_run rfl rfl (r_len rfl Try.underlying25) ?_
    refine s_run rfl rfl (r_lssF rfl rfl (by omega)) ?_
    refine k_nc ?_
    refine k_f rfl ?_
    refine k_exit ?_
    refine c_exit ?_
    refine c_exit ?_
    refine b_hit ?_
    refine b_norm ?_
    refine c_norm ?_
    refine k_rg ?_
    refine s_run rfl rfl (rmi rfl) ?_
    refine s_run rfl rfl (r_add rfl rfl (wI (by omega))) ?_
    refine s_run rfl rfl (rai rfl) ?_
    refine k_nil ?_
    refine c_round ?_
    refine ⟨_, _, ?_, rfl, i + 1, by omega, rfl, fun v hv => ?_, rfl, rfl, rfl, H⟩
    ·omega
    ·rw [← tk_snoc hu] at hv
     rcases List.mem_append.1 hv with h | h
     ·exact hpre v h
     ·rw [List.mem_singleton.1 h]; exact ⟨by omega, hpk⟩
 ·obtain rfl : i = n := by omega
  rw [show us.take i = us by rw [← hn]; exact List.take_length] at hpre
  refine k_seq ?_
  refine k_sg ?_
  refine s_run rfl rfl (rmi rfl) ?_
  refine s_run rfl rfl (rms rfl) ?_
  refine s_run rfl rfl (r_len rfl Try.underlying44) ?_
  refine s_run rfl rfl (r_lssF rfl rfl (by omega)) ?_
  refine k_nc ?_
  refine k_f rfl ?_
  refine k_exit ?_
  refine c_exit ?_
  refine c_exit ?_
  refine b_hit ?_
  refine c_norm ?_
  refine k_seq ?_
  refine k_sg ?_
  refine s_run rfl rfl (rai rfl) ?_
  refine k_nc ?_
  refine k_b ?_
  refine k_loop (fun z f W => ∃ (i : Nat), i ≤ m ∧ z = m - i ∧ (∀ x ∈ l.take i, -5000 ≤ x ∧ x ≤ 5000) ∧ f 1 = .slice B m d ∧ f 7 = .int .i64 i ∧ Heap w [] [] W) m ⟨0, by omega, rfl, by simp, rfl, rfl, H⟩ ?_
  clear H
  rintro z f W ⟨j, hj, rfl, hpj, f1, f7, H⟩
  obtain ⟨f, rfl⟩ := live2 f1 f7
  clear f1 f7
  by_cases hjl : j < m
  ·obtain ⟨x, hx⟩ : ∃ x, l[j]? = some x := ⟨_, List.getElem?_eq_getElem (by omega)⟩
   obtain ⟨b2, o2, rfl, _, hr2⟩ := hS (by omega)
   have cx := hr2 j x hx
   by_cases hx1 : x < -5000
   ·refine k_seq ?_
    refine k_sg ?_
    refine s_run rfl rfl (rmi rfl) ?_
    refine s_run rfl rfl (rms rfl) ?_
    refine s_run rfl rfl (r_len rfl Try.underlying25) ?_
    refine s_run rfl rfl (r_lssT rfl rfl (by omega)) ?_
    refine k_nc ?_
    refine k_t rfl ?_
    refine k_skip ?_
    refine c_norm ?_
    refine k_seq ?_
    refine k_b ?_
    refine k_sg ?_
    refine s_run rfl rfl (rms rfl) ?_
    refine s_run rfl rfl (rmi rfl) ?_
    refine s_run rfl rfl (r_ix1o (i := j) rfl rfl (by omega) (by omega) Try.underlying25 sz3) ?_
    refine s_run rfl rfl (r_lr H rfl cx (by simp) ag3) ?_
    refine s_run rfl rfl (r_lssT rfl rfl (by omega)) ?_
    refine s_run rfl rfl (rmb rfl) ?_
    refine s_off rfl (g_off 70 (by kernel_rfl) rfl rfl) ?_
    refine s_off rfl (g_off 70 (by kernel_rfl) rfl rfl) ?_
    refine s_off rfl (g_off 70 (by kernel_rfl) rfl rfl) ?_
    refine s_off rfl (g_off 70 (by kernel_rfl) rfl rfl) ?_
    refine s_off rfl (g_off 70 (by kernel_rfl) rfl rfl) ?_
    refine s_run rfl rfl (r_pkT (v := .bool _) rfl rfl) ?_
    refine k_nc ?_
    refine k_t rfl ?_
    refine k_sg ?_
    refine s_run rfl rfl (rab rfl) ?_
    refine k_nc ?_
    refine k_ret ?_
    refine b_ret ?_
    refine c_ret ?_
    refine c_ret ?_
    refine b_ret ?_
    refine c_ret ?_
    refine fin1r (v := .bool _) rfl rfl ?_
    exact ⟨false, rfl, (fun h => by cases h), H.only⟩
   ·by_cases hx2 : x > 5000
    ·refine k_seq ?_
     refine k_sg ?_
     refine s_run rfl rfl (rmi rfl) ?_
     refine s_run rfl rfl (rms rfl) ?_
     refine s_run rfl rfl (r_len rfl Try.underlying25) ?_
     refine s_run rfl rfl (r_lssT rfl rfl (by omega)) ?_
     refine k_nc ?_
     refine k_t rfl ?_
     refine k_skip ?_
     refine c_norm ?_
     refine k_seq ?_
     refine k_b ?_
     refine k_sg ?_
     refine s_run rfl rfl (rms rfl) ?_
     refine s_run rfl rfl (rmi rfl) ?_
     refine s_run rfl rfl (r_ix1o (i := j) rfl rfl (by omega) (by omega) Try.underlying25 sz3) ?_
     refine s_run rfl rfl (r_lr H rfl cx (by simp) ag3) ?_
     refine s_run rfl rfl (r_lssF rfl rfl (by omega)) ?_
     refine s_run rfl rfl (rmb rfl) ?_
     refine s_run rfl (g_on 70 (by kernel_rfl) rfl) (rms rfl) ?_
     refine s_run rfl (g_on 70 (by kernel_rfl) rfl) (rmi rfl) ?_
     refine s_run rfl (g_on 70 (by kernel_rfl) rfl) (r_ix1o (i := j) rfl rfl (by omega) (by omega) Try.underlying25 sz3) ?_
     refine s_run rfl (g_on 70 (by kernel_rfl) rfl) (r_lr H rfl cx (by simp) ag3) ?_
     refine s_run rfl (g_on 70 (by kernel_rfl) rfl) (r_gtrT rfl rfl (by omega)) ?_
     refine s_run rfl rfl (r_pkF (v := .bool _) rfl rfl) ?_
     refine k_nc ?_
     refine k_t rfl ?_
     refine k_sg ?_
     refine s_run rfl rfl (rab rfl) ?_
     refine k_nc ?_
     refine k_ret ?_
     refine b_ret ?_
     refine c_ret ?_
     refine c_ret ?_
     refine b_ret ?_
     refine c_ret ?_
     refine fin1r (v := .bool _) rfl rfl ?_
     exact ⟨false, rfl, (fun h => by cases h), H.only⟩
    ·refine k_seq ?_
     refine k_sg ?_
     refine s_run rfl rfl (rmi rfl) ?_
     refine s_run rfl rfl (rms rfl) ?_
     refine s_run rfl rfl (r_len rfl Try.underlying25) ?_
     refine s_run rfl rfl (r_lssT rfl rfl (by omega)) ?_
     refine k_nc ?_
     refine k_t rfl ?_
     refine k_skip ?_
     refine c_norm ?_
     refine k_seq ?_
     refine k_b ?_
     refine k_sg ?_
     refine s_run rfl rfl (rms rfl) ?_
     refine s_run rfl rfl (rmi rfl) ?_
     refine s_run rfl rfl (r_ix1o (i := j) rfl rfl (by omega) (by omega) Try.underlying25 sz3) ?_
     refine s_run rfl rfl (r_lr H rfl cx (by simp) ag3) ?_
     refine s_run rfl rfl (r_lssF rfl rfl (by omega)) ?_
     refine s_run rfl rfl (rmb rfl) ?_
     refine s_run rfl (g_on 70 (by kernel_rfl) rfl) (rms rfl) ?_
     refine s_run rfl (g_on 70 (by kernel_rfl) rfl) (rmi rfl) ?_
     refine s_run rfl (g_on 70 (by kernel_rfl) rfl) (r_ix1o (i := j) rfl rfl (by omega) (by omega) Try.underlying25 sz3) ?_
     refine s_run rfl (g_on 70 (by kernel_rfl) rfl) (r_lr H rfl cx (by simp) ag3) ?_
     refine s_run rfl (g_on 70 (by kernel_rfl) rfl) (r_gtrF rfl rfl (by omega)) ?_
     refine s_run rfl rfl (r_pkF (v := .bool _) rfl rfl) ?_
     refine k_nc ?_
     refine k_f rfl ?_
     refine k_skip ?_
     refine b_norm ?_
     refine c_norm ?_
     refine k_rg ?_
     refine s_run rfl rfl (rmi rfl) ?_
     refine s_run rfl rfl (r_add rfl rfl (wI (by omega))) ?_
     refine s_run rfl rfl (rai rfl) ?_
     refine k_nil ?_
     refine c_round ?_
     refine ⟨_, _, ?_, rfl, j + 1, by omega, rfl, fun y hy => ?_, rfl, rfl, H⟩
     ·omega
     ·rw [← tk_snoc hx] at hy
      rcases List.mem_append.1 hy with h | h
      ·exact hpj y h
      ·rw [List.mem_singleton.1 h]; omega
  ·obtain rfl : j = m := by omega
   rw [show l.take j = l by rw [← hl]; exact List.take_length] at hpj
   refine k_seq ?_
   refine k_sg ?_
   refine s_run rfl rfl (rmi rfl) ?_
   refine s_run rfl rfl (rms rfl) ?_
   refine s_run rfl rfl (r_len rfl Try.underlying25) ?_
   refine s_run rfl rfl (r_lssF rfl rfl (by omega)) ?_
   refine k_nc ?_
   refine k_f rfl ?_
   refine k_exit ?_
   refine c_exit ?_
   refine c_exit ?_
   refine b_hit ?_
   refine c_norm ?_
   refine k_sg ?_
   refine s_run rfl rfl (rab rfl) ?_
   refine k_nc ?_
   refine k_ret ?_
   refine fin1r (v := .bool _) rfl rfl ?_
   exact ⟨true, rfl, fun _ => ⟨by omega, by omega, hpre, hpj⟩, H.only⟩
end Go.Proofs.Ytlakbclnilakbaa
end

section
namespace Go.Proofs.Ytlakbclnilakbaa
open Go.RowKit
set_option maxRecDepth 100000
set_option maxHeartbeats 8000000
theorem live9 {f : Nat → Value} {k1 k2 k3 k4 k5 k6 k7 k8 k9 : Nat} {v1 v2 v3 v4 v5 v6 v7 v8 v9 : Value} (h1 : f k1 = v1) (h2 : f k2 = v2) (h3 : f k3 = v3) (h4 : f k4 = v4) (h5 : f k5 = v5) (h6 : f k6 = v6) (h7 : f k7 = v7) (h8 : f k8 = v8) (h9 : f k9 = v9) : ∃ g, f = upd (upd (upd (upd (upd (upd (upd (upd (upd g k1 v1) k2 v2) k3 v3) k4 v4) k5 v5) k6 v6) k7 v7) k8 v8) k9 v9 := ⟨f, by rw [upd_same h1, upd_same h2, upd_same h3, upd_same h4, upd_same h5, upd_same h6, upd_same h7, upd_same h8, upd_same h9]⟩
def usOf (us : List TNode) : List (Int × List Int) := us.map fun u => (u.f0, u.xs1)
theorem usOf_getD {us : List TNode} {i : Nat} {u : TNode} (h : us[i]? = some u) : (usOf us).getD i (-1, []) = (u.f0, u.xs1) := by
 unfold usOf; rw [List.getD_eq_getElem?_getD, List.getElem?_map, h]; rfl
theorem rOEnc' (p d a : Int) (w : World) (hp : 0 ≤ p ∧ p ≤ 1000) (hd : 0 ≤ d ∧ d ≤ 1000) (ha : 0 ≤ a ∧ a ≤ 1000000000) :
  Calls Try.prog 59 [.agg [.int .i64 p, .int .i64 d].toArray, .int .i64 a].toArray w fun e w' => e = .returned (.int .u64 (Oh.enc p d a)) ∧ Only [] w w' :=
 (rOEnc_any p d a w (by omega) (by omega) (by omega) (by omega) (by omega) (by omega)).mono fun e w' h => ⟨h.1, Only.of_below h.2 _⟩
theorem hdrSees {w0 W : World} {F : List Nat} {L : List Ent} {A : Option Addr} {B c : Nat} {T : TypeId} (H : Heap w0 F L W) (j : Nat) (hj : L[j]? = some (ownN 3 (.slice A B c) B ((Md.hfl B).map C1.v) T)) : HSees W [] A (Md.mkH B) := fun h0 => by
 rw [Md.mkH_len] at h0
 obtain ⟨b, e, hb, hr⟩ := H.own_seesN j hj (by rw [Md.hfl_len]; omega)
 refine ⟨b, 0, e, by simp, fun i h hi k u hk => ?_⟩
 have hiB : i < B := by have := (List.getElem?_eq_some_iff.1 hi).1; rwa [Md.mkH_len] at this
 obtain ⟨x, y, z, h1, h2, h3, h4⟩ := Md.hfl_get B i hiB
 rw [hi] at h1
 injection h1 with h1
 subst h1
 match k, hk with
 | 0, hk => injection hk with hk; subst hk; exact hr _ _ h2
 | 1, hk => injection hk with hk; subst hk; have := hr _ _ h3; rwa [← Nat.add_assoc] at this
 | 2, hk => injection hk with hk; subst hk; have := hr _ _ h4; rwa [← Nat.add_assoc] at this
 | k + 3, hk => cases hk
theorem lMade (bl : Int) (hbl : 0 ≤ bl ∧ bl ≤ 255) (A : Option Addr) (n c : Nat) (us : List TNode) (w : World) (hU : ScriptTNode w A us) (hn : us.length = n) (hn2 : n ≤ 60) (hF : ∀ u ∈ us, u.n1 ≤ 10 ∧ ∀ x ∈ u.xs1, -5000 ≤ x ∧ x ≤ 5000) (B : Nat) (hB : (B : Int) = 2 + bl % 4) :
  Calls Try.prog 20 [.int .u8 bl, .slice A n c].toArray w fun e w' => ∃ g LA lc, e = .returned (.tuple [ptr g.p, .agg [.int .i64 B].toArray, .slice LA B lc].toArray) ∧ Heap w [] [grp (devL g (Nv.load (Md.mkW B (usOf us) n) (64 * B))), ownN 3 (.slice LA B lc) B ((Md.hfl B).map C1.v) 102] w' := by
 have H := Heap.nil w
 have hB5 : B ≤ 5 ∧ 2 ≤ B := by omega
 have hB' : 2 + bl % 4 = (B : Int) := hB.symm
 refine k_in (N := 104) Try.func20 rfl rfl rfl ?_
 refine k_sg ?_
 refine s_run rfl rfl (rap rfl) ?_
 refine s_al H rfl inf48 ?_
 intro p5 _ H'; clear H; have H := H'; clear H'
 refine s_run rfl rfl (ras rfl) ?_
 refine k_nc ?_
 refine k_sg ?_
 refine s_run rfl rfl (rmi rfl) ?_
 refine s_run rfl rfl (r_rem rfl rfl (by omega)) ?_
 refine s_run rfl rfl (r_cv rfl (by kernel_rfl) Try.underlying3 (wI (by omega))) ?_
 refine s_run rfl rfl (r_add rfl rfl (wI (by omega))) ?_
 refine s_run rfl rfl (r_bd (bd48_0 _) rfl) ?_
 refine s_al H rfl inf48 ?_
 intro p7 _ H'; clear H; have H := H'; clear H'
 refine s_sw H 0 rfl rfl rfl rfl rfl rfl rfl sz48 ?_
 clear H; intro _ H; simp only [jA, jB, jC, jD, jE, jF, jG, jH, jI, jJ, jK, Nat.reduceAdd] at H
 refine k_nc ?_
 refine k_sg ?_
 refine s_run rfl rfl (r_fa0 rfl fo48_0) ?_
 refine s_run rfl rfl (r_lo H 0 rfl rfl rfl ag3) ?_
 refine s_run rfl rfl (r_mul rfl rfl (wI (by omega))) ?_
 refine s_mk (Value.int .u64) 0 (m := (512 * B)) H rfl rfl rfl (by omega) (by omega) (by omega) Try.underlying66 inf78 rfl ?_
 intro b _ H'; clear H; have H := H'; clear H'
 refine s_run rfl rfl (ras rfl) ?_
 refine k_nc ?_
 refine k_sg ?_
 refine s_run rfl rfl (r_bd (bd102 ) rfl) ?_
 refine s_bsN (enc := C1.v) (size := 3) (zs := [C1.i .i64 0, C1.i .i64 0, C1.i .i64 0]) H rfl rfl rfl (by omega) (by kernel_rfl) Try.underlying49 inf102 ?_
 intro q1 _ H'; clear H; have H := H'; clear H'
 refine s_run rfl rfl (ras rfl) ?_
 refine k_nc ?_
 refine k_seq ?_
 refine k_sg ?_
 refine s_run rfl rfl (rai rfl) ?_
 refine k_nc ?_
 refine k_b ?_
 rw [hB'] at H
 refine k_loop (fun z f W => ∃ (i : Nat) (LA : Option Addr) (lc : Nat), 1 ≤ i ∧ i ≤ B ∧ z = B - i ∧ f 1 = .slice A n c ∧ f 5 = ptr p5 ∧ f 7 = ptr p7 ∧ f 8 = .slice (some ⟨b, 0, none⟩) (512 * B) (512 * B) ∧ f 9 = .slice LA i lc ∧ f 10 = .int .i64 i ∧ Heap w [] [ownN 3 (.slice LA i lc) i ((Md.hfl i).map C1.v) 102, vec (Value.int .u64) b (List.replicate (512 * B) 0) 78, blk p7 [.int .i64 B] 48, blk p5 [.int .i64 0] 48] W) (B - 1) ⟨1, _, _, by omega, by omega, rfl, rfl, rfl, rfl, rfl, rfl, rfl, H⟩ ?_
 clear H
 rintro z f W ⟨i, LA, lc, hi1, hi, rfl, f1, f5, f7, f8, f9, f10, H⟩
 obtain ⟨f, rfl⟩ := live6 f1 f5 f7 f8 f9 f10
 clear f1 f5 f7 f8 f9 f10
 by_cases hlt : i < B
 ·refine k_seq ?_
  refine k_sg ?_
  refine s_run rfl rfl (rmi rfl) ?_
  refine s_run rfl rfl (r_fa0 rfl fo48_0) ?_
  refine s_run rfl rfl (r_lo H 2 rfl rfl rfl ag3) ?_
  refine s_run rfl rfl (r_lssT rfl rfl (by omega)) ?_
  refine k_nc ?_
  refine k_t rfl ?_
  refine k_skip ?_
  refine c_norm ?_
  refine k_seq ?_
  refine k_b ?_
  refine k_rg ?_
  refine s_run rfl rfl (rms rfl) ?_
  refine s_run rfl rfl (r_bd (bd102_0_1 _ _) rfl) ?_
  refine s_appN (enc := C1.v) (zs := [C1.i .i64 1, C1.i .i64 6, C1.i .i64 0]) H 0 rfl rfl rfl rfl C1.one (by omega) (by kernel_rfl) rfl rfl rfl (by omega) Try.underlying49 inf102 rfl ?_
  intro _ LA2 lc2 _ H'; simp only [List.set_cons_zero, List.set_cons_succ, List.take_succ_cons, List.take_zero, List.drop_succ_cons, List.drop_zero, List.cons_append, List.nil_append, List.append_nil, List.length_cons, List.length_nil, Nat.reduceAdd] at H'; clear H; have H := H'; clear H'
  refine s_run rfl rfl (ras rfl) ?_
  refine k_nil ?_
  refine b_norm ?_
  refine c_norm ?_
  refine k_rg ?_
  refine s_run rfl rfl (rmi rfl) ?_
  refine s_run rfl rfl (r_add rfl rfl (wI (by omega))) ?_
  refine s_run rfl rfl (rai rfl) ?_
  refine k_nil ?_
  refine c_round ?_
  have hh : Md.hfl i ++ [C1.i .i64 1, C1.i .i64 6, C1.i .i64 0] = Md.hfl (i + 1) := by rw [Md.hfl, if_neg (by omega)]
  rw [hh] at H
  exact ⟨_, _, by omega, rfl, i + 1, _, _, by omega, by omega, rfl, rfl, rfl, rfl, rfl, rfl, rfl, H⟩
 obtain rfl : i = B := by omega
 refine k_seq ?_
 refine k_sg ?_
 refine s_run rfl rfl (rmi rfl) ?_
 refine s_run rfl rfl (r_fa0 rfl fo48_0) ?_
 refine s_run rfl rfl (r_lo H 2 rfl rfl rfl ag3) ?_
 refine s_run rfl rfl (r_lssF rfl rfl (by omega)) ?_
 refine k_nc ?_
 refine k_f rfl ?_
 refine k_exit ?_
 refine c_exit ?_
 refine c_exit ?_
 refine b_hit ?_
 refine c_norm ?_
 refine k_seq ?_
 refine k_sg ?_
 refine s_run rfl rfl (rai rfl) ?_
 refine k_nc ?_
 refine k_b ?_
 have hrep : List.replicate (512 * i) (0 : Int) = Md.mkW i (usOf us) 0 := rfl
 rw [hrep] at H
 refine k_loop (fun z f W => ∃ (k : Nat), k ≤ n ∧ z = n - k ∧ f 1 = .slice A n c ∧ f 5 = ptr p5 ∧ f 7 = ptr p7 ∧ f 8 = .slice (some ⟨b, 0, none⟩) (512 * i) (512 * i) ∧ f 9 = .slice LA i lc ∧ f 11 = .int .i64 k ∧ Heap w [] [ownN 3 (.slice LA i lc) i ((Md.hfl i).map C1.v) 102, vec (Value.int .u64) b (Md.mkW i (usOf us) k) 78, blk p7 [.int .i64 i] 48, blk p5 [.int .i64 0] 48] W) n ⟨0, by omega, rfl, rfl, rfl, rfl, rfl, rfl, rfl, H⟩ ?_
 clear H
 rintro z f W ⟨k, hk, rfl, f1, f5, f7, f8, f9, f11, H⟩
 obtain ⟨f, rfl⟩ := live6 f1 f5 f7 f8 f9 f11
 clear f1 f5 f7 f8 f9 f11
 have hwl := Md.mkW_len i (usOf us) k
 by_cases hkn : k < n
 ·obtain ⟨u, hu⟩ : ∃ u, us[k]? = some u := ⟨_, List.getElem?_eq_getElem (by omega)⟩
  have huf := hF u (List.mem_of_getElem? hu)
  have hok := hU.2 u (List.mem_of_getElem? hu)
  obtain ⟨bo, oo, rfl, hrd⟩ := hU.1 (by omega)
  have hre : Reads (fun v : Value => v) w bo (oo + k * 2) [.int .i64 u.f0, .slice u.A1 u.n1 u.c1] := hrd k u hu
  have hmk : Md.mkW i (usOf us) (k + 1) = Md.putNode i (Md.mkW i (usOf us) k) u.f0 u.xs1 := by rw [Md.mkW, usOf_getD hu]
  have hxl := hok.l1
  generalize Md.mkW i (usOf us) k = ws at *
  unfold Md.putNode at hmk
  by_cases hc1 : u.f0 < 0
  ·rw [if_pos (.inl hc1)] at hmk
   refine k_seq ?_
   refine k_sg ?_
   refine s_run rfl rfl (rmi rfl) ?_
   refine s_run rfl rfl (rms rfl) ?_
   refine s_run rfl rfl (r_len rfl Try.underlying44) ?_
   refine s_run rfl rfl (r_lssT rfl rfl (by omega)) ?_
   refine k_nc ?_
   refine k_t rfl ?_
   refine k_skip ?_
   refine c_norm ?_
   refine k_seq ?_
   refine k_b ?_
   refine k_sg ?_
   refine s_run rfl rfl (rms rfl) ?_
   refine s_run rfl rfl (rmi rfl) ?_
   refine s_run rfl rfl (r_ix (i := k) rfl rfl (by omega) (by omega) Try.underlying44 sz100) ?_
   refine s_run rfl rfl (r_lA (enc := fun v : Value => v) (zs := [.int .i64 u.f0, .slice u.A1 u.n1 u.c1]) (hre.later H.only (by simp)) rfl rfl ag100 sz100) ?_
   refine s_al H rfl inf100 ?_
   intro p12 _ H'; clear H; have H := H'; clear H'
   refine s_sw H 0 rfl rfl rfl rfl rfl rfl rfl sz100 ?_
   clear H; intro _ H; simp only [jA, jB, jC, jD, jE, jF, jG, jH, jI, jJ, jK, Nat.reduceAdd] at H
   refine k_nc ?_
   refine k_seq ?_
   refine k_sg ?_
   refine s_run rfl rfl (r_fa0 rfl fo100_0) ?_
   refine s_run rfl rfl (r_lo H 0 rfl rfl rfl ag3) ?_
   refine s_run rfl rfl (r_lssT rfl rfl (by omega)) ?_
   refine s_run rfl rfl (rmb rfl) ?_
   refine s_off rfl (g_off 49 (by kernel_rfl) rfl rfl) ?_
   refine s_off rfl (g_off 49 (by kernel_rfl) rfl rfl) ?_
   refine s_off rfl (g_off 49 (by kernel_rfl) rfl rfl) ?_
   refine s_off rfl (g_off 49 (by kernel_rfl) rfl rfl) ?_
   refine s_off rfl (g_off 49 (by kernel_rfl) rfl rfl) ?_
   refine s_off rfl (g_off 49 (by kernel_rfl) rfl rfl) ?_
   refine s_off rfl (g_off 49 (by kernel_rfl) rfl rfl) ?_
   refine s_run rfl rfl (r_pkT (v := .bool _) rfl rfl) ?_
   refine s_run rfl rfl (rmb rfl) ?_
   refine s_off rfl (g_off 58 (by kernel_rfl) rfl rfl) ?_
   refine s_off rfl (g_off 58 (by kernel_rfl) rfl rfl) ?_
   refine s_off rfl (g_off 58 (by kernel_rfl) rfl rfl) ?_
   refine s_off rfl (g_off 58 (by kernel_rfl) rfl rfl) ?_
   refine s_run rfl rfl (r_pkT (v := .bool _) rfl rfl) ?_
   refine k_nc ?_
   refine k_t rfl ?_
   refine k_exit ?_
   refine c_exit ?_
   refine b_hit ?_
   refine c_norm ?_
   refine k_rg ?_
   refine s_run rfl rfl (rmi rfl) ?_
   refine s_run rfl rfl (r_add rfl rfl (wI (by omega))) ?_
   refine s_run rfl rfl (rai rfl) ?_
   refine k_nil ?_
   refine c_round ?_
   rw [← hmk] at H
   exact ⟨_, _, by omega, rfl, k + 1, by omega, rfl, rfl, rfl, rfl, rfl, rfl, rfl, H.drop⟩
  by_cases hc2 : 64 * ((i : Int) - 1) ≤ u.f0
  ·rw [if_pos (.inr (.inl hc2))] at hmk
   refine k_seq ?_
   refine k_sg ?_
   refine s_run rfl rfl (rmi rfl) ?_
   refine s_run rfl rfl (rms rfl) ?_
   refine s_run rfl rfl (r_len rfl Try.underlying44) ?_
   refine s_run rfl rfl (r_lssT rfl rfl (by omega)) ?_
   refine k_nc ?_
   refine k_t rfl ?_
   refine k_skip ?_
   refine c_norm ?_
   refine k_seq ?_
   refine k_b ?_
   refine k_sg ?_
   refine s_run rfl rfl (rms rfl) ?_
   refine s_run rfl rfl (rmi rfl) ?_
   refine s_run rfl rfl (r_ix (i := k) rfl rfl (by omega) (by omega) Try.underlying44 sz100) ?_
   refine s_run rfl rfl (r_lA (enc := fun v : Value => v) (zs := [.int .i64 u.f0, .slice u.A1 u.n1 u.c1]) (hre.later H.only (by simp)) rfl rfl ag100 sz100) ?_
   refine s_al H rfl inf100 ?_
   intro p12 _ H'; clear H; have H := H'; clear H'
   refine s_sw H 0 rfl rfl rfl rfl rfl rfl rfl sz100 ?_
   clear H; intro _ H; simp only [jA, jB, jC, jD, jE, jF, jG, jH, jI, jJ, jK, Nat.reduceAdd] at H
   refine k_nc ?_
   refine k_seq ?_
   refine k_sg ?_
   refine s_run rfl rfl (r_fa0 rfl fo100_0) ?_
   refine s_run rfl rfl (r_lo H 0 rfl rfl rfl ag3) ?_
   refine s_run rfl rfl (r_lssF rfl rfl (by omega)) ?_
   refine s_run rfl rfl (rmb rfl) ?_
   refine s_run rfl (g_on 49 (by kernel_rfl) rfl) (r_fa0 rfl fo100_0) ?_
   refine s_run rfl (g_on 49 (by kernel_rfl) rfl) (r_lo H 0 rfl rfl rfl ag3) ?_
   refine s_run rfl (g_on 49 (by kernel_rfl) rfl) (r_fa0 rfl fo48_0) ?_
   refine s_run rfl (g_on 49 (by kernel_rfl) rfl) (r_lo H 3 rfl rfl rfl ag3) ?_
   refine s_run rfl (g_on 49 (by kernel_rfl) rfl) (r_sub rfl rfl (wI (by omega))) ?_
   refine s_run rfl (g_on 49 (by kernel_rfl) rfl) (r_mul rfl rfl (wI (by omega))) ?_
   refine s_run rfl (g_on 49 (by kernel_rfl) rfl) (r_geqT rfl rfl (by omega)) ?_
   refine s_run rfl rfl (r_pkF (v := .bool _) rfl rfl) ?_
   refine s_run rfl rfl (rmb rfl) ?_
   refine s_off rfl (g_off 58 (by kernel_rfl) rfl rfl) ?_
   refine s_off rfl (g_off 58 (by kernel_rfl) rfl rfl) ?_
   refine s_off rfl (g_off 58 (by kernel_rfl) rfl rfl) ?_
   refine s_off rfl (g_off 58 (by kernel_rfl) rfl rfl) ?_
   refine s_run rfl rfl (r_pkT (v := .bool _) rfl rfl) ?_
   refine k_nc ?_
   refine k_t rfl ?_
   refine k_exit ?_
   refine c_exit ?_
   refine b_hit ?_
   refine c_norm ?_
   refine k_rg ?_
   refine s_run rfl rfl (rmi rfl) ?_
   refine s_run rfl rfl (r_add rfl rfl (wI (by omega))) ?_
   refine s_run rfl rfl (rai rfl) ?_
   refine k_nil ?_
   refine c_round ?_
   rw [← hmk] at H
   exact ⟨_, _, by omega, rfl, k + 1, by omega, rfl, rfl, rfl, rfl, rfl, rfl, rfl, H.drop⟩
  by_cases hc3 : 6 < u.n1
  ·rw [if_pos (.inr (.inr (by omega)))] at hmk
   refine k_seq ?_
   refine k_sg ?_
   refine s_run rfl rfl (rmi rfl) ?_
   refine s_run rfl rfl (rms rfl) ?_
   refine s_run rfl rfl (r_len rfl Try.underlying44) ?_
   refine s_run rfl rfl (r_lssT rfl rfl (by omega)) ?_
   refine k_nc ?_
   refine k_t rfl ?_
   refine k_skip ?_
   refine c_norm ?_
   refine k_seq ?_
   refine k_b ?_
   refine k_sg ?_
   refine s_run rfl rfl (rms rfl) ?_
   refine s_run rfl rfl (rmi rfl) ?_
   refine s_run rfl rfl (r_ix (i := k) rfl rfl (by omega) (by omega) Try.underlying44 sz100) ?_
   refine s_run rfl rfl (r_lA (enc := fun v : Value => v) (zs := [.int .i64 u.f0, .slice u.A1 u.n1 u.c1]) (hre.later H.only (by simp)) rfl rfl ag100 sz100) ?_
   refine s_al H rfl inf100 ?_
   intro p12 _ H'; clear H; have H := H'; clear H'
   refine s_sw H 0 rfl rfl rfl rfl rfl rfl rfl sz100 ?_
   clear H; intro _ H; simp only [jA, jB, jC, jD, jE, jF, jG, jH, jI, jJ, jK, Nat.reduceAdd] at H
   refine k_nc ?_
   refine k_seq ?_
   refine k_sg ?_
   refine s_run rfl rfl (r_fa0 rfl fo100_0) ?_
   refine s_run rfl rfl (r_lo H 0 rfl rfl rfl ag3) ?_
   refine s_run rfl rfl (r_lssF rfl rfl (by omega)) ?_
   refine s_run rfl rfl (rmb rfl) ?_
   refine s_run rfl (g_on 49 (by kernel_rfl) rfl) (r_fa0 rfl fo100_0) ?_
   refine s_run rfl (g_on 49 (by kernel_rfl) rfl) (r_lo H 0 rfl rfl rfl ag3) ?_
   refine s_run rfl (g_on 49 (by kernel_rfl) rfl) (r_fa0 rfl fo48_0) ?_
   refine s_run rfl (g_on 49 (by kernel_rfl) rfl) (r_lo H 3 rfl rfl rfl ag3) ?_
   refine s_run rfl (g_on 49 (by kernel_rfl) rfl) (r_sub rfl rfl (wI (by omega))) ?_
   refine s_run rfl (g_on 49 (by kernel_rfl) rfl) (r_mul rfl rfl (wI (by omega))) ?_
   refine s_run rfl (g_on 49 (by kernel_rfl) rfl) (r_geqF rfl rfl (by omega)) ?_
   refine s_run rfl rfl (r_pkF (v := .bool _) rfl rfl) ?_
   refine s_run rfl rfl (rmb rfl) ?_
   refine s_run rfl (g_on 58 (by kernel_rfl) rfl) (r_fa0 rfl fo100_1) ?_
   refine s_run rfl (g_on 58 (by kernel_rfl) rfl) (r_lo H 0 rfl rfl rfl ag25) ?_
   refine s_run rfl (g_on 58 (by kernel_rfl) rfl) (r_len rfl Try.underlying25) ?_
   refine s_run rfl (g_on 58 (by kernel_rfl) rfl) (r_gtrT rfl rfl (by omega)) ?_
   refine s_run rfl rfl (r_pkF (v := .bool _) rfl rfl) ?_
   refine k_nc ?_
   refine k_t rfl ?_
   refine k_exit ?_
   refine c_exit ?_
   refine b_hit ?_
   refine c_norm ?_
   refine k_rg ?_
   refine s_run rfl rfl (rmi rfl) ?_
   refine s_run rfl rfl (r_add rfl rfl (wI (by omega))) ?_
   refine s_run rfl rfl (rai rfl) ?_
   refine k_nil ?_
   refine c_round ?_
   rw [← hmk] at H
   exact ⟨_, _, by omega, rfl, k + 1, by omega, rfl, rfl, rfl, rfl, rfl, rfl, rfl, H.drop⟩
  rw [if_neg (fun h => h.elim hc1 (fun h => h.elim hc2 (fun h => hc3 (by omega)))), hxl] at hmk
  have had := Md.adr_cell (n := u.f0) (B := i) ⟨by omega, by omega⟩
  have hA := fun (W : World) => lAddr u.f0 W (by omega)
  obtain ⟨a, ha⟩ : ∃ a : Nat, Md.adr u.f0 = a := ⟨(Md.adr u.f0).toNat, by omega⟩
  rw [ha] at hA had hmk
  rw [Int.toNat_natCast] at hmk
  have hE := fun (W : World) => rOEnc' u.n1 (7 - u.n1) a W (by omega) (by omega) (by omega)
  have heb := Oh.enc_bd (u.n1 : Int) (7 - u.n1) a
  generalize Oh.enc (u.n1 : Int) (7 - u.n1) a = ev0 at *
  refine k_seq ?_
  refine k_sg ?_
  refine s_run rfl rfl (rmi rfl) ?_
  refine s_run rfl rfl (rms rfl) ?_
  refine s_run rfl rfl (r_len rfl Try.underlying44) ?_
  refine s_run rfl rfl (r_lssT rfl rfl (by omega)) ?_
  refine k_nc ?_
  refine k_t rfl ?_
  refine k_skip ?_
  refine c_norm ?_
  refine k_seq ?_
  refine k_b ?_
  refine k_sg ?_
  refine s_run rfl rfl (rms rfl) ?_
  refine s_run rfl rfl (rmi rfl) ?_
  refine s_run rfl rfl (r_ix (i := k) rfl rfl (by omega) (by omega) Try.underlying44 sz100) ?_
  refine s_run rfl rfl (r_lA (enc := fun v : Value => v) (zs := [.int .i64 u.f0, .slice u.A1 u.n1 u.c1]) (hre.later H.only (by simp)) rfl rfl ag100 sz100) ?_
  refine s_al H rfl inf100 ?_
  intro p12 _ H'; clear H; have H := H'; clear H'
  refine s_sw H 0 rfl rfl rfl rfl rfl rfl rfl sz100 ?_
  clear H; intro _ H; simp only [jA, jB, jC, jD, jE, jF, jG, jH, jI, jJ, jK, Nat.reduceAdd] at H
  refine k_nc ?_
  refine k_seq ?_
  refine k_sg ?_
  refine s_run rfl rfl (r_fa0 rfl fo100_0) ?_
  refine s_run rfl rfl (r_lo H 0 rfl rfl rfl ag3) ?_
  refine s_run rfl rfl (r_lssF rfl rfl (by omega)) ?_
  refine s_run rfl rfl (rmb rfl) ?_
  refine s_run rfl (g_on 49 (by kernel_rfl) rfl) (r_fa0 rfl fo100_0) ?_
  refine s_run rfl (g_on 49 (by kernel_rfl) rfl) (r_lo H 0 rfl rfl rfl ag3) ?_
  refine s_run rfl (g_on 49 (by kernel_rfl) rfl) (r_fa0 rfl fo48_0) ?_
  refine s_run rfl (g_on 49 (by kernel_rfl) rfl) (r_lo H 3 rfl rfl rfl ag3) ?_
  refine s_run rfl (g_on 49 (by kernel_rfl) rfl) (r_sub rfl rfl (wI (by omega))) ?_
  refine s_run rfl (g_on 49 (by kernel_rfl) rfl) (r_mul rfl rfl (wI (by omega))) ?_
  refine s_run rfl (g_on 49 (by kernel_rfl) rfl) (r_geqF rfl rfl (by omega)) ?_
  refine s_run rfl rfl (r_pkF (v := .bool _) rfl rfl) ?_
  refine s_run rfl rfl (rmb rfl) ?_
  refine s_run rfl (g_on 58 (by kernel_rfl) rfl) (r_fa0 rfl fo100_1) ?_
  refine s_run rfl (g_on 58 (by kernel_rfl) rfl) (r_lo H 0 rfl rfl rfl ag25) ?_
  refine s_run rfl (g_on 58 (by kernel_rfl) rfl) (r_len rfl Try.underlying25) ?_
  refine s_run rfl (g_on 58 (by kernel_rfl) rfl) (r_gtrF rfl rfl (by omega)) ?_
  refine s_run rfl rfl (r_pkF (v := .bool _) rfl rfl) ?_
  refine k_nc ?_
  refine k_f rfl ?_
  refine k_skip ?_
  refine c_norm ?_
  refine k_sg ?_
  refine s_run rfl rfl (r_fa0 rfl fo100_0) ?_
  refine s_run rfl rfl (r_lo H 0 rfl rfl rfl ag3) ?_
  refine s_call rfl (hA _) (ca23 rfl) ?_
  rintro e W1 ⟨rfl, H'⟩
  refine ⟨_, rfl, ?_⟩
  have H := H.same H'; clear H'
  refine s_run rfl rfl (rai rfl) ?_
  refine k_nc ?_
  refine k_sg ?_
  refine s_run rfl rfl (rms rfl) ?_
  refine s_run rfl rfl (rmi rfl) ?_
  refine s_run rfl rfl (r_fa0 rfl fo100_1) ?_
  refine s_run rfl rfl (r_lo H 0 rfl rfl rfl ag25) ?_
  refine s_run rfl rfl (r_len rfl Try.underlying25) ?_
  refine s_run rfl rfl (r_fa0 rfl fo100_1) ?_
  refine s_run rfl rfl (r_lo H 0 rfl rfl rfl ag25) ?_
  refine s_run rfl rfl (r_len rfl Try.underlying25) ?_
  refine s_run rfl rfl (r_sub rfl rfl (wI (by omega))) ?_
  refine s_run rfl rfl (r_bd (bd105_0_1 _ _) rfl) ?_
  refine s_run rfl rfl (rmi rfl) ?_
  refine s_call rfl (hE _) (ca59 rfl) ?_
  rintro e W1 ⟨rfl, H'⟩
  refine ⟨_, rfl, ?_⟩
  have H := H.same H'; clear H'
  refine s_run rfl rfl (r_ix1 (i := a) rfl rfl (by omega) (by omega) Try.underlying66 sz78) ?_
  refine s_sv (u := .int _ _) H 2 rfl rfl rfl rfl rfl (by omega) (fun _ => rfl) sz78 ?_
  clear H; intro _ H; simp only [jA, jB, jC, jD, jE, jF, jG, jH, jI, jJ, jK, Nat.reduceAdd] at H
  refine k_nc ?_
  refine k_sg ?_
  refine s_run rfl rfl (rai rfl) ?_
  refine k_nc ?_
  refine k_b ?_
  refine k_loop (fun z f W => ∃ (q : Nat), q ≤ u.n1 ∧ z = u.n1 - q ∧ f 1 = .slice (some ⟨bo, oo, none⟩) n c ∧ f 5 = ptr p5 ∧ f 7 = ptr p7 ∧ f 8 = .slice (some ⟨b, 0, none⟩) (512 * i) (512 * i) ∧ f 9 = .slice LA i lc ∧ f 11 = .int .i64 k ∧ f 12 = ptr p12 ∧ f 13 = .int .i64 a ∧ f 14 = .int .i64 q ∧ Heap w [] [blk p12 [.int .i64 u.f0, .slice u.A1 u.n1 u.c1] 100, ownN 3 (.slice LA i lc) i ((Md.hfl i).map C1.v) 102, vec (Value.int .u64) b (Md.setPs (ws.set a ev0) a u.xs1 q) 78, blk p7 [.int .i64 i] 48, blk p5 [.int .i64 0] 48] W) u.n1 ⟨0, by omega, rfl, rfl, rfl, rfl, rfl, rfl, rfl, rfl, rfl, rfl, H⟩ ?_
  clear H
  rintro z f W ⟨q, hq, rfl, f1, f5, f7, f8, f9, f11, f12, f13, f14, H⟩
  obtain ⟨f, rfl⟩ := live9 f1 f5 f7 f8 f9 f11 f12 f13 f14
  clear f1 f5 f7 f8 f9 f11 f12 f13 f14
  have hsl : (Md.setPs (ws.set a ev0) a u.xs1 q).length = 512 * i := by rw [Md.setPs_len, List.length_set]; exact hwl
  by_cases hqn : q < u.n1
  ·obtain ⟨x, hx⟩ : ∃ x, u.xs1[q]? = some x := ⟨_, List.getElem?_eq_getElem (by omega)⟩
   have hxb := huf.2 x (List.mem_of_getElem? hx)
   obtain ⟨b2, o2, hA1, _, hr2⟩ := hok.s1 (by omega)
   have cx := hr2 q x hx
   have hAx := fun (W : World) => lAddr x W (by omega)
   have hab := Md.adr_bd hxb
   have hst : (Md.setPs (ws.set a ev0) a u.xs1 q).set (a + 1 + q) (Md.adr x) = Md.setPs (ws.set a ev0) a u.xs1 (q + 1) := by
    rw [Md.setPs, List.getD_eq_getElem?_getD, hx]; rfl
   rw [hA1] at H
   refine k_seq ?_
   refine k_sg ?_
   refine s_run rfl rfl (rmi rfl) ?_
   refine s_run rfl rfl (r_fa0 rfl fo100_1) ?_
   refine s_run rfl rfl (r_lo H 0 rfl rfl rfl ag25) ?_
   refine s_run rfl rfl (r_len rfl Try.underlying25) ?_
   refine s_run rfl rfl (r_lssT rfl rfl (by omega)) ?_
   refine k_nc ?_
   refine k_t rfl ?_
   refine k_skip ?_
   refine c_norm ?_
   refine k_seq ?_
   refine k_b ?_
   refine k_rg ?_
   refine s_run rfl rfl (rms rfl) ?_
   refine s_run rfl rfl (rmi rfl) ?_
   refine s_run rfl rfl (r_add rfl rfl (wI (by omega))) ?_
   refine s_run rfl rfl (rmi rfl) ?_
   refine s_run rfl rfl (r_add rfl rfl (wI (by omega))) ?_
   refine s_run rfl rfl (r_fa0 rfl fo100_1) ?_
   refine s_run rfl rfl (r_lo H 0 rfl rfl rfl ag25) ?_
   refine s_run rfl rfl (rmi rfl) ?_
   refine s_run rfl rfl (r_ix1o (i := q) rfl rfl (by omega) (by omega) Try.underlying25 sz3) ?_
   refine s_run rfl rfl (r_lr H rfl cx (by simp) ag3) ?_
   refine s_call rfl (hAx _) (ca23 rfl) ?_
   rintro e W1 ⟨rfl, H'⟩
   refine ⟨_, rfl, ?_⟩
   have H := H.same H'; clear H'
   refine s_run rfl rfl (r_cv rfl (by kernel_rfl) Try.underlying78 (wU (by omega))) ?_
   refine s_run rfl rfl (r_ix1 (i := (a + 1 + q)) rfl rfl (by omega) (by omega) Try.underlying66 sz78) ?_
   refine s_sv (u := .int _ _) H 2 rfl rfl rfl rfl rfl (by omega) (fun _ => rfl) sz78 ?_
   clear H; intro _ H; simp only [jA, jB, jC, jD, jE, jF, jG, jH, jI, jJ, jK, Nat.reduceAdd] at H
   refine k_nil ?_
   refine b_norm ?_
   refine c_norm ?_
   refine k_rg ?_
   refine s_run rfl rfl (rmi rfl) ?_
   refine s_run rfl rfl (r_add rfl rfl (wI (by omega))) ?_
   refine s_run rfl rfl (rai rfl) ?_
   refine k_nil ?_
   refine c_round ?_
   rw [hst, ← hA1] at H
   exact ⟨_, _, by omega, rfl, q + 1, by omega, rfl, rfl, rfl, rfl, rfl, rfl, rfl, rfl, rfl, rfl, H⟩
  ·obtain rfl : q = u.n1 := by omega
   rw [← hmk] at H
   refine k_seq ?_
   refine k_sg ?_
   refine s_run rfl rfl (rmi rfl) ?_
   refine s_run rfl rfl (r_fa0 rfl fo100_1) ?_
   refine s_run rfl rfl (r_lo H 0 rfl rfl rfl ag25) ?_
   refine s_run rfl rfl (r_len rfl Try.underlying25) ?_
   refine s_run rfl rfl (r_lssF rfl rfl (by omega)) ?_
   refine k_nc ?_
   refine k_f rfl ?_
   refine k_exit ?_
   refine c_exit ?_
   refine c_exit ?_
   refine b_hit ?_
   refine b_norm ?_
   refine c_norm ?_
   refine k_rg ?_
   refine s_run rfl rfl (rmi rfl) ?_
   refine s_run rfl rfl (r_add rfl rfl (wI (by omega))) ?_
   refine s_run rfl rfl (rai rfl) ?_
   refine k_nil ?_
   refine c_round ?_
   exact ⟨_, _, by omega, rfl, k + 1, by omega, rfl, rfl, rfl, rfl, rfl, rfl, rfl, H.drop⟩
 ·obtain rfl : k = n := by omega
  have hLd := fun {W : World} (hz : Sees (Value.int .u64) W [] (some ⟨b, 0, none⟩) (Md.mkW i (usOf us) k)) => nLoad (some ⟨b, 0, none⟩) (512 * i) (512 * i) (Md.mkW i (usOf us) k) W hz hwl (by omega)
  have e1 : 8 * ((512 * i + 7) / 8) - 512 * i = 0 := by omega
  have e2 : (512 * i + 7) / 8 = 64 * i := by omega
  rw [e1, e2, List.replicate_zero, List.append_nil] at hLd
  refine k_seq ?_
  refine k_sg ?_
  refine s_run rfl rfl (rmi rfl) ?_
  refine s_run rfl rfl (rms rfl) ?_
  refine s_run rfl rfl (r_len rfl Try.underlying44) ?_
  refine s_run rfl rfl (r_lssF rfl rfl (by omega)) ?_
  refine k_nc ?_
  refine k_f rfl ?_
  refine k_exit ?_
  refine c_exit ?_
  refine c_exit ?_
  refine b_hit ?_
  refine c_norm ?_
  refine k_seq ?_
  refine k_trF mixed ?_; have H' := H.drew; clear H; have H := H'; clear H'
  refine tqh 0 rfl rfl rfl (fun _ hS => r_mv (v := .slice _ _ _) rfl) trivial ?_
  refine tqh 3 rfl rfl rfl (fun _ hS => r_mv (v := .slice _ _ _) rfl) trivial ?_
  refine t_up2 1 2 (by kernel_rfl) ?_ ?_
  ·refine up_mk rfl ?_
   refine s_call rfl (hLd (H.sees 1 rfl (by simp) (m := 1) (fun _ => rfl) (fun _ => by omega))) (ca60 rfl) ?_
   rintro e W1 ⟨g, rfl, hg, H'⟩
   refine ⟨_, rfl, ?_⟩
   have H := H.more (A := [grp _]) (grp_heap H'); clear H'; simp only [List.cons_append, List.nil_append] at H
   refine k_nil ?_
   refine t_on trivial ?_
   refine tqh 4 rfl rfl rfl (fun _ hS => r_as (v := .pointer _) rfl) trivial ?_
   refine t_up1 2 (by kernel_rfl) ?_
   refine up_mk rfl ?_
   refine s_run rfl rfl (r_la H 3 rfl rfl rfl ag48 sz48) ?_
   refine k_nil ?_
   refine t_on trivial ?_
   refine t_up1 5 (by kernel_rfl) ?_
   refine up_mk rfl ?_
   refine s_sw H 4 rfl rfl rfl rfl rfl rfl rfl sz48 ?_
   clear H; intro _ H; simp only [jA, jB, jC, jD, jE, jF, jG, jH, jI, jJ, jK, Nat.reduceAdd] at H
   refine k_nil ?_
   refine t_on trivial ?_
   refine tqh 6 rfl rfl rfl (fun _ hS => r_as (v := .slice _ _ _) rfl) trivial ?_
   refine t_done (by kernel_rfl) ?_
   refine c_norm ?_
   refine k_ret ?_
   refine fx3r rfl (rv_t (v := .pointer _) rfl) (rv_a H 4 rfl rfl rfl ag48 sz48) (rv_t (v := .slice _ _ _) rfl) ?_
   exact ⟨g, LA, lc, rfl, Heap.subl H [0, 1] rfl rfl⟩
  ·refine up_mk rfl ?_
   refine s_run rfl rfl (r_la H 2 rfl rfl rfl ag48 sz48) ?_
   refine k_nil ?_
   refine t_on trivial ?_
   refine t_up1 1 (by kernel_rfl) ?_
   refine up_mk rfl ?_
   refine s_call rfl (hLd (H.sees 1 rfl (by simp) (m := 1) (fun _ => rfl) (fun _ => by omega))) (ca60 rfl) ?_
   rintro e W1 ⟨g, rfl, hg, H'⟩
   refine ⟨_, rfl, ?_⟩
   have H := H.more (A := [grp _]) (grp_heap H'); clear H'; simp only [List.cons_append, List.nil_append] at H
   refine k_nil ?_
   refine t_on trivial ?_
   refine tqh 4 rfl rfl rfl (fun _ hS => r_as (v := .pointer _) rfl) trivial ?_
   refine t_up1 5 (by kernel_rfl) ?_
   refine up_mk rfl ?_
   refine s_sw H 4 rfl rfl rfl rfl rfl rfl rfl sz48 ?_
   clear H; intro _ H; simp only [jA, jB, jC, jD, jE, jF, jG, jH, jI, jJ, jK, Nat.reduceAdd] at H
   refine k_nil ?_
   refine t_on trivial ?_
   refine tqh 6 rfl rfl rfl (fun _ hS => r_as (v := .slice _ _ _) rfl) trivial ?_
   refine t_done (by kernel_rfl) ?_
   refine c_norm ?_
   refine k_ret ?_
   refine fx3r rfl (rv_t (v := .pointer _) rfl) (rv_a H 4 rfl rfl rfl ag48 sz48) (rv_t (v := .slice _ _ _) rfl) ?_
   exact ⟨g, LA, lc, rfl, Heap.subl H [0, 1] rfl rfl⟩
end Go.Proofs.Ytlakbclnilakbaa
end

section
namespace Go.Proofs.Ytlakbclnilakbaa
open Go.RowKit
set_option maxRecDepth 100000
set_option maxHeartbeats 8000000
def exW : List Int := (List.replicate 1024 (0 : Int)).set 536 (Oh.enc 0 7 536)
theorem exW_mk : Md.mkW 2 [(3, [])] 1 = exW := by
 have h1 : Md.adr 3 = 536 := by decide
 rw [Md.mkW]
 show Md.putNode 2 (Md.mkW 2 [(3, [])] 0) 3 [] = exW
 unfold Md.putNode
 rw [if_neg (by simp), h1]
 rfl
theorem exW_len : exW.length = 1024 := by unfold exW; rw [List.length_set, List.length_replicate]
theorem exW_get : Nv.get exW 536 = Oh.enc 0 7 536 := by
 unfold Nv.get
 rw [exW_len, if_pos (by omega)]
 unfold exW
 show ((List.replicate 1024 (0 : Int)).set 536 (Oh.enc 0 7 536)).getD 536 0 = _
 rw [List.getD_eq_getElem?_getD, List.getElem?_set_self (by rw [List.length_replicate]; omega)]
 rfl
theorem exW_hd : Ob.hd exW 536 = true ∧ Ob.hp exW 536 = 0 ∧ Ob.hq exW 536 = 7 := by
 obtain ⟨h1, h2, h3⟩ := Oh.dec_enc 0 7 536 (by omega) (by omega) (by omega) (by omega)
 have hh : Ob.hd exW 536 = true := Ob.hd_mk (by rw [exW_len]; omega) (by rw [exW_get]; exact h1) (by rw [exW_get, h2, h3, exW_len, (Cl.size_good 0 7 (by omega) (by omega) (by omega) (by omega)).1]; omega)
 refine ⟨hh, ?_, ?_⟩
 ·unfold Ob.hp; rw [if_pos hh, exW_get]; exact h2
 ·unfold Ob.hq; rw [if_pos hh, exW_get]; exact h3
theorem exW_pl : Ob.pl 2 exW (Md.mkH 2) 536 = true := by
 obtain ⟨h1, h2, h3⟩ := exW_hd
 unfold Ob.pl
 rw [h1, decide_eq_true (by omega)]
 show Ob.plAt 2 exW (Md.mkH 2) 536 (1, 6, 0) = true
 unfold Ob.plAt
 rw [h2, h3]
 have e1 : Cl.size 0 7 = 8 := rfl
 have e2 : Cl.ofB 8 = true := rfl
 have e3 : Cl.ofK 8 = 6 := by decide +kernel
 rw [e1, if_pos e2, e3]
 decide +kernel
theorem exW_ptrs : Ob.ptrs exW 536 = [] := by unfold Ob.ptrs; rw [exW_hd.2.1]; rfl
theorem exW_w64 : Ob.W64 exW := Md.W64.set (fun x hx => by rw [List.eq_of_mem_replicate hx]; omega) 536 (Oh.enc_bd _ _ _)
theorem mkH_w (B : Nat) : hsW (Md.mkH B) := fun h hh => by
 unfold Md.mkH at hh
 obtain ⟨i, _, rfl⟩ := List.mem_map.1 hh
 split <;> exact ⟨by decide, by decide⟩
theorem exCl {g : Geo} {k c : Nat} {A : Option Addr} {w : World} (hE : Ents (devL g (Nv.load exW 128)) w) (hS : HSees w [] A (Md.mkH 2)) (FA : Option Addr) (fc : Nat) (hF : Sees (Value.int .i64) w [] FA [0, 536]) (hk : k = 2) :
  Calls Try.prog 27 [ptr g.p, .agg [.int .i64 (2 : Nat)].toArray, .slice A k c, .slice FA 2 fc].toArray w fun e w' => ∃ A' c', e = .returned (.tuple [.slice A' 1 c', .int .i64 0].toArray) ∧ Heap w [] [ownN 1 (.slice A' 1 c') 1 (([536] : List Int).map (Value.int .i64)) 3] w' := by
 subst hk
 have hp : Ob.pl 2 exW (Md.mkH 2) 536 = true := exW_pl
 have hq := exW_ptrs
 refine (trClosure (n := 2) (hs := Md.mkH 2) hE exW_w64 (show exW.length ≤ 1000000000 by rw [exW_len]; omega) hS (Md.mkH_len 2) (by omega) (mkH_w 2) (by omega) FA 2 fc [0, 536] hF rfl (by omega) (fun a ha => by
  rcases List.mem_cons.1 ha with rfl | ha
  ·exact ⟨by omega, by omega⟩
  ·rw [List.mem_singleton.1 ha]; exact ⟨by omega, by omega⟩)).mono ?_
 rintro e w' ⟨N, s1, hs1, hN1, hN2, hcase⟩
 have hc : (Nv.load exW 128).cache = exW := rfl
 rw [hc] at hs1 hN1 hN2 hcase
 generalize Ob.pl 2 exW (Md.mkH 2) = P at *
 generalize Ob.ptrs exW = pt at *
 have h1 : s1 = ⟨[536], [536], []⟩ := by
  rw [hs1]
  simp [Tr.rootsTo, Tr.reach, Tr.s0, hp]
 have h2 : Tr.steps P pt s1 1 = ⟨[536], [], []⟩ := by
  rw [h1]
  simp [Tr.steps, Tr.step, Tr.pop, Tr.top, hq, Tr.along]
 have hN : N = 1 := Tr.ends_eq (M := 1) hN1 hN2 (fun j hj => by
  obtain rfl : j = 0 := by omega
  show s1.op ≠ []
  rw [h1]; simp) (by rw [h2])
 subst hN
 rw [h2] at hcase
 have hsr : srt [536] = [536] := by simp [srt]
 rw [hsr] at hcase
 rcases hcase with ⟨hb, _⟩ | ⟨_, A', c', he, H'⟩
 ·exact absurd rfl hb
 ·exact ⟨A', c', he, H'⟩
theorem exU {w0 W : World} {F : List Nat} {L : List Ent} {q1 : Nat} (H : Heap w0 F (ownN 2 (.slice (some ⟨q1, 0, none⟩) 1 1) 1 (([C1.i .i64 3, C1.s none 0 0] : List C1).map C1.v) 100 :: L) W) : ScriptTNode W (some ⟨q1, 0, none⟩) [⟨3, none, 0, 0, []⟩] := by
 refine ⟨fun _ => ⟨q1, 0, rfl, fun i op hi => ?_⟩, fun op hop => ?_⟩
 ·obtain ⟨b, e, hb, hr⟩ := H.own_seesN 0 rfl (by simp)
  injection e with e
  injection e with e
  subst e
  match i, hi with
  | 0, hi =>
   injection hi with hi
   subst hi
   intro k u hk
   match k, hk with
   | 0, hk => injection hk with hk; subst hk; exact hr 0 _ rfl
   | 1, hk => injection hk with hk; subst hk; exact hr 1 _ rfl
   | k + 2, hk => cases hk
  | i + 1, hi => cases hi
 ·rw [List.mem_singleton.1 hop]
  exact ⟨by decide, Sees.nil, rfl, ⟨Nat.le_refl _, by decide⟩, by simp⟩
theorem awake19 (w : World) : Calls Try.prog 18 [].toArray w fun e w' => e = .returned (.bool true) ∧ Only [] w w' := by
 have H := Heap.nil w
 have hWd := fun (W : World) => (rWords_any 6 W (by omega) (by omega)).mono (R' := fun e w' => e = .returned (.int .i64 8) ∧ Only [] W w') fun e w' h => ⟨h.1, Only.of_below h.2 _⟩
 have hAd := fun (W : World) => lAddr 3 W (by omega)
 rw [show Md.adr 3 = 536 by decide] at hAd
 refine k_in (N := 39) Try.func18 rfl rfl rfl ?_
 refine k_sg ?_
 refine s_run rfl rfl (rab rfl) ?_
 refine k_nc ?_
 refine k_sg ?_
 refine s_run rfl rfl (r_bd (bd100_0 _) rfl) ?_
 refine s_bsN (enc := C1.v) (size := 2) (zs := [C1.i .i64 3, C1.s none 0 0]) H rfl rfl rfl (by omega) (by kernel_rfl) Try.underlying44 inf100 ?_
 intro q1 _ H'; clear H; have H := H'; clear H'
 have hU := exU H
 have hM := fun {W : World} (hU : ScriptTNode W (some ⟨q1, 0, none⟩) [⟨3, none, 0, 0, []⟩]) => lMade 0 (by omega) (some ⟨q1, 0, none⟩) 1 1 [⟨3, none, 0, 0, []⟩] W hU rfl (by omega) (fun u hu => by rw [List.mem_singleton.1 hu]; exact ⟨by show (0 : Nat) ≤ 10; omega, fun x hx => by cases hx⟩) 2 (by omega)
 have hW2 : Md.mkW 2 (usOf [⟨3, none, 0, 0, []⟩]) 1 = exW := exW_mk
 rw [hW2] at hM
 refine s_call rfl (hM hU) (ca20 rfl) ?_
 rintro e W1 ⟨g, LA, lc, rfl, H'⟩
 refine ⟨_, rfl, ?_⟩
 have H0 := H.more (A := [grp _, _]) H'; clear H'; clear H; simp only [List.cons_append, List.nil_append] at H0; have H := Heap.nil W1
 refine s_run rfl rfl (rmt rfl) ?_
 refine s_run rfl rfl (r_ext (v := .pointer _) rfl rfl) ?_
 refine s_run rfl rfl (r_ext (v := .agg _) rfl rfl) ?_
 refine s_run rfl rfl (r_ext (v := .slice _ _ _) rfl rfl) ?_
 refine s_al H rfl inf48 ?_
 intro p2 _ H'; clear H; have H := H'; clear H'
 refine s_run rfl rfl (rap rfl) ?_
 refine s_sw H 0 rfl rfl rfl rfl rfl rfl rfl sz48 ?_
 clear H; intro _ H; simp only [jA, jB, jC, jD, jE, jF, jG, jH, jI, jJ, jK, Nat.reduceAdd] at H
 refine s_run rfl rfl (ras rfl) ?_
 refine k_nc ?_
 refine k_seq ?_
 have hS := hdrSees H0 1 rfl
 have hO := H0.only
 have hCl := fun {W : World} {FA : Option Addr} {fc : Nat} (h : Only [] W1 W) hF => exCl (g := g) (k := 2) (c := lc) (A := LA) (w := W) ((H0.same h).grp_ents 0 rfl) (hS.later h (by simp)) FA fc hF rfl
 refine k_trF mixed ?_; have H' := H.drew; clear H; have H := H'; clear H'
 refine tqh 0 rfl rfl rfl (fun _ hS => r_mv (v := .pointer _) rfl) trivial ?_
 refine tqh 2 rfl rfl rfl (fun _ hS => r_mv (v := .slice _ _ _) rfl) trivial ?_
 refine t_up2 1 3 (by kernel_rfl) ?_ ?_
 ·refine up_mk rfl ?_
  refine s_run rfl rfl (r_la H 0 rfl rfl rfl ag48 sz48) ?_
  refine k_nil ?_
  refine t_on trivial ?_
  refine t_up1 3 (by kernel_rfl) ?_
  refine up_mk rfl ?_
  refine s_call rfl (hAd _) (ca23 rfl) ?_
  rintro e W1 ⟨rfl, H'⟩
  refine ⟨_, rfl, ?_⟩
  have H := H.same H'; clear H'
  refine k_nil ?_
  refine t_on trivial ?_
  refine t_up1 4 (by kernel_rfl) ?_
  refine up_mk rfl ?_
  refine s_bsO (enc := (Value.int .i64)) (zs := [0, 536]) H rfl rfl rfl (by omega) (by kernel_rfl) Try.underlying25 inf3 ?_
  intro q4 _ H'; clear H; have H := H'; clear H'
  refine k_nil ?_
  refine t_on trivial ?_
  refine t_up1 5 (by kernel_rfl) ?_
  refine up_mk rfl ?_
  refine s_call rfl (hCl H.only (own_seesC H 0 rfl)) (ca27 rfl) ?_
  rintro e W1 ⟨A4, c4, rfl, H'⟩
  refine ⟨_, rfl, ?_⟩
  have H := H.more H'; clear H'; simp only [List.cons_append, List.nil_append] at H; obtain ⟨pz, rfl⟩ := H.own_some 0 rfl (by omega)
  refine k_nil ?_
  refine t_on trivial ?_
  refine tqh 6 rfl rfl rfl (fun _ hS => r_mv (v := .tuple _) rfl) trivial ?_
  refine tqh 7 rfl rfl rfl (fun _ hS => r_ext (v := .slice _ _ _) rfl rfl) trivial ?_
  refine tqh 8 rfl rfl rfl (fun _ hS => r_ext (v := .int _ _) rfl rfl) trivial ?_
  refine tqh 9 rfl rfl rfl (fun _ hS => r_as (v := .slice _ _ _) rfl) trivial ?_
  refine tqh 10 rfl rfl rfl (fun _ hS => r_as (v := .int _ _) rfl) trivial ?_
  refine t_done (by kernel_rfl) ?_
  refine c_norm ?_
  refine k_sg ?_
  refine s_run rfl rfl (rmi rfl) ?_
  refine s_run rfl rfl (r_eqlT rfl rfl (by omega)) ?_
  refine s_run rfl rfl (rmb rfl) ?_
  refine s_run rfl (g_on 24 (by kernel_rfl) rfl) (rms rfl) ?_
  refine s_run rfl (g_on 24 (by kernel_rfl) rfl) (r_len rfl Try.underlying25) ?_
  refine s_run rfl (g_on 24 (by kernel_rfl) rfl) (r_eqlT rfl rfl (by omega)) ?_
  refine s_run rfl rfl (r_pkT (v := .bool _) rfl rfl) ?_
  refine s_run rfl rfl (rmb rfl) ?_
  refine s_run rfl (g_on 29 (by kernel_rfl) rfl) (rms rfl) ?_
  refine s_run rfl (g_on 29 (by kernel_rfl) rfl) (r_ix1 (i := 0) rfl rfl (by omega) (by omega) Try.underlying25 sz3) ?_
  refine s_run rfl (g_on 29 (by kernel_rfl) rfl) (r_ow H 0 rfl rfl (show ([536] : List Int)[0]? = some 536 from rfl) ag3) ?_
  refine s_run rfl (g_on 29 (by kernel_rfl) rfl) (r_eqlT rfl rfl (by omega)) ?_
  refine s_run rfl rfl (r_pkT (v := .bool _) rfl rfl) ?_
  refine s_run rfl rfl (rmb rfl) ?_
  refine s_call (g_on 35 (by kernel_rfl) rfl) (hWd _) (ca58 rfl) ?_
  rintro e W1 ⟨rfl, H'⟩
  refine ⟨_, rfl, ?_⟩
  have H := H.same H'; clear H'
  refine s_run rfl (g_on 35 (by kernel_rfl) rfl) (r_eqlT rfl rfl (by omega)) ?_
  refine s_run rfl rfl (r_pkT (v := .bool _) rfl rfl) ?_
  refine s_run rfl rfl (rab rfl) ?_
  refine k_nc ?_
  refine k_ret ?_
  refine fin1r (v := .bool _) rfl rfl ?_
  exact ⟨rfl, hO.trans H.only⟩
 ·refine up_mk rfl ?_
  refine s_call rfl (hAd _) (ca23 rfl) ?_
  rintro e W1 ⟨rfl, H'⟩
  refine ⟨_, rfl, ?_⟩
  have H := H.same H'; clear H'
  refine k_nil ?_
  refine t_on trivial ?_
  refine t_up2 1 4 (by kernel_rfl) ?_ ?_
  ·refine up_mk rfl ?_
   refine s_run rfl rfl (r_la H 0 rfl rfl rfl ag48 sz48) ?_
   refine k_nil ?_
   refine t_on trivial ?_
   refine t_up1 4 (by kernel_rfl) ?_
   refine up_mk rfl ?_
   refine s_bsO (enc := (Value.int .i64)) (zs := [0, 536]) H rfl rfl rfl (by omega) (by kernel_rfl) Try.underlying25 inf3 ?_
   intro q4 _ H'; clear H; have H := H'; clear H'
   refine k_nil ?_
   refine t_on trivial ?_
   refine t_up1 5 (by kernel_rfl) ?_
   refine up_mk rfl ?_
   refine s_call rfl (hCl H.only (own_seesC H 0 rfl)) (ca27 rfl) ?_
   rintro e W1 ⟨A4, c4, rfl, H'⟩
   refine ⟨_, rfl, ?_⟩
   have H := H.more H'; clear H'; simp only [List.cons_append, List.nil_append] at H; obtain ⟨pz, rfl⟩ := H.own_some 0 rfl (by omega)
   refine k_nil ?_
   refine t_on trivial ?_
   refine tqh 6 rfl rfl rfl (fun _ hS => r_mv (v := .tuple _) rfl) trivial ?_
   refine tqh 7 rfl rfl rfl (fun _ hS => r_ext (v := .slice _ _ _) rfl rfl) trivial ?_
   refine tqh 8 rfl rfl rfl (fun _ hS => r_ext (v := .int _ _) rfl rfl) trivial ?_
   refine tqh 9 rfl rfl rfl (fun _ hS => r_as (v := .slice _ _ _) rfl) trivial ?_
   refine tqh 10 rfl rfl rfl (fun _ hS => r_as (v := .int _ _) rfl) trivial ?_
   refine t_done (by kernel_rfl) ?_
   refine c_norm ?_
   refine k_sg ?_
   refine s_run rfl rfl (rmi rfl) ?_
   refine s_run rfl rfl (r_eqlT rfl rfl (by omega)) ?_
   refine s_run rfl rfl (rmb rfl) ?_
   refine s_run rfl (g_on 24 (by kernel_rfl) rfl) (rms rfl) ?_
   refine s_run rfl (g_on 24 (by kernel_rfl) rfl) (r_len rfl Try.underlying25) ?_
   refine s_run rfl (g_on 24 (by kernel_rfl) rfl) (r_eqlT rfl rfl (by omega)) ?_
   refine s_run rfl rfl (r_pkT (v := .bool _) rfl rfl) ?_
   refine s_run rfl rfl (rmb rfl) ?_
   refine s_run rfl (g_on 29 (by kernel_rfl) rfl) (rms rfl) ?_
   refine s_run rfl (g_on 29 (by kernel_rfl) rfl) (r_ix1 (i := 0) rfl rfl (by omega) (by omega) Try.underlying25 sz3) ?_
   refine s_run rfl (g_on 29 (by kernel_rfl) rfl) (r_ow H 0 rfl rfl (show ([536] : List Int)[0]? = some 536 from rfl) ag3) ?_
   refine s_run rfl (g_on 29 (by kernel_rfl) rfl) (r_eqlT rfl rfl (by omega)) ?_
   refine s_run rfl rfl (r_pkT (v := .bool _) rfl rfl) ?_
   refine s_run rfl rfl (rmb rfl) ?_
   refine s_call (g_on 35 (by kernel_rfl) rfl) (hWd _) (ca58 rfl) ?_
   rintro e W1 ⟨rfl, H'⟩
   refine ⟨_, rfl, ?_⟩
   have H := H.same H'; clear H'
   refine s_run rfl (g_on 35 (by kernel_rfl) rfl) (r_eqlT rfl rfl (by omega)) ?_
   refine s_run rfl rfl (r_pkT (v := .bool _) rfl rfl) ?_
   refine s_run rfl rfl (rab rfl) ?_
   refine k_nc ?_
   refine k_ret ?_
   refine fin1r (v := .bool _) rfl rfl ?_
   exact ⟨rfl, hO.trans H.only⟩
  ·refine up_mk rfl ?_
   refine s_bsO (enc := (Value.int .i64)) (zs := [0, 536]) H rfl rfl rfl (by omega) (by kernel_rfl) Try.underlying25 inf3 ?_
   intro q4 _ H'; clear H; have H := H'; clear H'
   refine k_nil ?_
   refine t_on trivial ?_
   refine t_up1 1 (by kernel_rfl) ?_
   refine up_mk rfl ?_
   refine s_run rfl rfl (r_la H 1 rfl rfl rfl ag48 sz48) ?_
   refine k_nil ?_
   refine t_on trivial ?_
   refine t_up1 5 (by kernel_rfl) ?_
   refine up_mk rfl ?_
   refine s_call rfl (hCl H.only (own_seesC H 0 rfl)) (ca27 rfl) ?_
   rintro e W1 ⟨A4, c4, rfl, H'⟩
   refine ⟨_, rfl, ?_⟩
   have H := H.more H'; clear H'; simp only [List.cons_append, List.nil_append] at H; obtain ⟨pz, rfl⟩ := H.own_some 0 rfl (by omega)
   refine k_nil ?_
   refine t_on trivial ?_
   refine tqh 6 rfl rfl rfl (fun _ hS => r_mv (v := .tuple _) rfl) trivial ?_
   refine tqh 7 rfl rfl rfl (fun _ hS => r_ext (v := .slice _ _ _) rfl rfl) trivial ?_
   refine tqh 8 rfl rfl rfl (fun _ hS => r_ext (v := .int _ _) rfl rfl) trivial ?_
   refine tqh 9 rfl rfl rfl (fun _ hS => r_as (v := .slice _ _ _) rfl) trivial ?_
   refine tqh 10 rfl rfl rfl (fun _ hS => r_as (v := .int _ _) rfl) trivial ?_
   refine t_done (by kernel_rfl) ?_
   refine c_norm ?_
   refine k_sg ?_
   refine s_run rfl rfl (rmi rfl) ?_
   refine s_run rfl rfl (r_eqlT rfl rfl (by omega)) ?_
   refine s_run rfl rfl (rmb rfl) ?_
   refine s_run rfl (g_on 24 (by kernel_rfl) rfl) (rms rfl) ?_
   refine s_run rfl (g_on 24 (by kernel_rfl) rfl) (r_len rfl Try.underlying25) ?_
   refine s_run rfl (g_on 24 (by kernel_rfl) rfl) (r_eqlT rfl rfl (by omega)) ?_
   refine s_run rfl rfl (r_pkT (v := .bool _) rfl rfl) ?_
   refine s_run rfl rfl (rmb rfl) ?_
   refine s_run rfl (g_on 29 (by kernel_rfl) rfl) (rms rfl) ?_
   refine s_run rfl (g_on 29 (by kernel_rfl) rfl) (r_ix1 (i := 0) rfl rfl (by omega) (by omega) Try.underlying25 sz3) ?_
   refine s_run rfl (g_on 29 (by kernel_rfl) rfl) (r_ow H 0 rfl rfl (show ([536] : List Int)[0]? = some 536 from rfl) ag3) ?_
   refine s_run rfl (g_on 29 (by kernel_rfl) rfl) (r_eqlT rfl rfl (by omega)) ?_
   refine s_run rfl rfl (r_pkT (v := .bool _) rfl rfl) ?_
   refine s_run rfl rfl (rmb rfl) ?_
   refine s_call (g_on 35 (by kernel_rfl) rfl) (hWd _) (ca58 rfl) ?_
   rintro e W1 ⟨rfl, H'⟩
   refine ⟨_, rfl, ?_⟩
   have H := H.same H'; clear H'
   refine s_run rfl (g_on 35 (by kernel_rfl) rfl) (r_eqlT rfl rfl (by omega)) ?_
   refine s_run rfl rfl (r_pkT (v := .bool _) rfl rfl) ?_
   refine s_run rfl rfl (rab rfl) ?_
   refine k_nc ?_
   refine k_ret ?_
   refine fin1r (v := .bool _) rfl rfl ?_
   exact ⟨rfl, hO.trans H.only⟩
end Go.Proofs.Ytlakbclnilakbaa
end

section
namespace Go.Proofs.Ytlakbclnilakbaa
open Go.RowKit
theorem add_noneR {b o i : Nat} : (⟨b, o, none⟩ : Addr).add i = ⟨b, o + i, none⟩ := by
 unfold Addr.add; split
 ·subst_vars; rfl
 ·rfl
theorem row_sees {w : World} {k : IntKind} {A : Option Addr} {n c : Nat} {zs : List Int} (h : IsRow k w A n c zs) : Sees (Value.int k) w [] A (zs.take n) ∧ (zs.take n).length = n ∧ n ≤ c ∧ c ≤ maxLen ∧ ∀ z ∈ zs.take n, (Lit.int k z).wf = true := by
 rcases h with ⟨rfl, rfl, rfl, rfl⟩ | ⟨x, rfl, hl, hm, hz, hcell, hwf⟩
 ·exact ⟨Sees.nil, rfl, by omega, by decide, by simp⟩
 ·refine ⟨fun h0 => ?_, by simp; omega, hl, hm, fun z hz => hwf z (List.mem_of_mem_take hz)⟩
  obtain ⟨b, off, spot⟩ := x
  have h0' : 0 < n := by simp at h0; omega
  have hc0 := hcell 0 (by omega)
  have hspot : spot = none := by simpa [Addr.add] using World.cell?_spot hc0
  subst hspot
  refine ⟨b, off, rfl, by simp, fun j z hj => ?_⟩
  have hjl : j < n := by have := (List.getElem?_eq_some_iff.1 hj).1; simp at this; omega
  rw [List.getElem?_take_of_lt hjl] at hj
  have hc2 := hcell j (by omega)
  rw [add_noneR] at hc2
  rw [hc2]
  simp [List.getD, hj]
end Go.Proofs.Ytlakbclnilakbaa
end

section
namespace Go.Proofs.Ytlakbclnilakbaa
open Go.RowKit

end Go.Proofs.Ytlakbclnilakbaa
end

section
namespace Go.Proofs.Ytlakbclnilakbaa
open Go.RowKit
set_option maxRecDepth 100000
set_option maxHeartbeats 2000000
theorem rIntsT (A B : Option Addr) (n c d : Nat) (l : List Int) (w : World) (hA : Sees (Value.int .i64) w [] A l) (hB : Sees (Value.int .i64) w [] B l) (hl : l.length = n) (hn : n ≤ 1000000000) :
  Calls Try.prog 12 [.slice A n c, .slice B n d].toArray w fun e w' => e = .returned (.bool true) ∧ Only [] w w' := by
 have H := Heap.nil w
 refine k_in (N := 26) Try.func12 rfl rfl rfl ?_
 refine k_sg ?_
 refine s_run rfl rfl (rab rfl) ?_
 refine k_nc ?_
 refine k_seq ?_
 refine k_sg ?_
 refine s_run rfl rfl (rms rfl) ?_
 refine s_run rfl rfl (r_len rfl Try.underlying25) ?_
 refine s_run rfl rfl (rms rfl) ?_
 refine s_run rfl rfl (r_len rfl Try.underlying25) ?_
 refine s_run rfl rfl (r_neqF rfl rfl (by omega)) ?_
 refine k_nc ?_
 refine k_f rfl ?_
 refine k_skip ?_
 refine c_norm ?_
 refine k_seq ?_
 refine k_sg ?_
 refine s_run rfl rfl (rai rfl) ?_
 refine k_nc ?_
 refine k_b ?_
 refine k_loop (fun z f W => ∃ (i : Nat), i ≤ n ∧ z = n - i ∧ f 0 = .slice A n c ∧ f 1 = .slice B n d ∧ f 5 = .int .i64 i ∧ Heap w [] [] W) n ⟨0, by omega, rfl, rfl, rfl, rfl, H⟩ ?_
 clear H
 rintro z f W ⟨i, hi, rfl, f0, f1, f5, H⟩
 by_cases hlt : i < n
 ·obtain ⟨y, hy⟩ : ∃ y, l[i]? = some y := ⟨_, List.getElem?_eq_getElem (by omega)⟩
  obtain ⟨b, o, rfl, _, hrd⟩ := hA (by omega)
  have hc0 := hrd i y hy
  obtain ⟨b', o', rfl, _, hrd'⟩ := hB (by omega)
  have hc1 := hrd' i y hy
  obtain ⟨f, rfl⟩ := live3 f0 f1 f5
  clear f0 f1 f5
  refine k_seq ?_
  refine k_sg ?_
  refine s_run rfl rfl (rmi rfl) ?_
  refine s_run rfl rfl (rms rfl) ?_
  refine s_run rfl rfl (r_len rfl Try.underlying25) ?_
  refine s_run rfl rfl (r_lssT rfl rfl (by omega)) ?_
  refine k_nc ?_
  refine k_t rfl ?_
  refine k_skip ?_
  refine c_norm ?_
  refine k_seq ?_
  refine k_b ?_
  refine k_seq ?_
  refine k_q mixed (by kernel_rfl) H ?_
  refine q_run rfl rfl (fun _ H => r_mv (v := .slice _ _ _) rfl) ?_
  refine q_run rfl rfl (fun _ H => r_mv (v := .int _ _) rfl) ?_
  first | (refine q_run rfl rfl (fun _ H => r_ix1 (i := i) rfl rfl (by omega) (by omega) Try.underlying25 sz3) ?_) | (refine q_run rfl rfl (fun _ H => r_ix1o (i := i) rfl rfl (by omega) (by omega) Try.underlying25 sz3) ?_) | fail
  refine q_run rfl rfl (fun _ H => r_lr H rfl hc0 (by simp) ag3) ?_
  refine q_run rfl rfl (fun _ H => r_mv (v := .slice _ _ _) rfl) ?_
  refine q_run rfl rfl (fun _ H => r_mv (v := .int _ _) rfl) ?_
  first | (refine q_run rfl rfl (fun _ H => r_ix1 (i := i) rfl rfl (by omega) (by omega) Try.underlying25 sz3) ?_) | (refine q_run rfl rfl (fun _ H => r_ix1o (i := i) rfl rfl (by omega) (by omega) Try.underlying25 sz3) ?_) | fail
  refine q_run rfl rfl (fun _ H => r_lr H rfl hc1 (by simp) ag3) ?_
  refine q_run rfl rfl (fun _ H => r_neqF rfl rfl (by omega)) ?_
  refine q_nil ?_
  intro _ H'; clear H; have H := H'; clear H'
  refine c_norm ?_
  refine k_f rfl ?_
  refine k_skip ?_
  refine b_norm ?_
  refine c_norm ?_
  refine k_rg ?_
  refine s_run rfl rfl (rmi rfl) ?_
  refine s_run rfl rfl (r_add rfl rfl (wI (by omega))) ?_
  refine s_run rfl rfl (rai rfl) ?_
  refine k_nil ?_
  refine c_round ?_
  refine ⟨_, _, ?_, rfl, i + 1, by omega, rfl, rfl, rfl, rfl, H⟩
  omega
 ·obtain rfl : i = n := by omega
  obtain ⟨f, rfl⟩ := live3 f0 f1 f5
  clear f0 f1 f5
  refine k_seq ?_
  refine k_sg ?_
  refine s_run rfl rfl (rmi rfl) ?_
  refine s_run rfl rfl (rms rfl) ?_
  refine s_run rfl rfl (r_len rfl Try.underlying25) ?_
  refine s_run rfl rfl (r_lssF rfl rfl (by omega)) ?_
  refine k_nc ?_
  refine k_f rfl ?_
  refine k_exit ?_
  refine c_exit ?_
  refine c_exit ?_
  refine b_hit ?_
  refine c_norm ?_
  refine k_sg ?_
  refine s_run rfl rfl (rab rfl) ?_
  refine k_nc ?_
  refine k_ret ?_
  refine fin1r (v := .bool _) rfl rfl ?_
  exact ⟨rfl, H.only⟩
end Go.Proofs.Ytlakbclnilakbaa
end

section
namespace Go.Proofs.Ytlakbclnilakbaa
open Go.RowKit
set_option maxRecDepth 100000
set_option maxHeartbeats 8000000
theorem Ents.withN {A B L : List Ent} {w W : World} (h : Ents A w) (H : Heap w [] L W) (k : Nat) (hk : L[k]? = some (grp B)) : Ents [grp A, grp B] W := by
 have h1 := (grp_start h).same H.only
 have hB : (grp B).ok W := H.ok _ (List.mem_of_getElem? hk)
 have hA : (grp A).ok W := h1.ok _ (by simp)
 refine ⟨fun E hE => ?_, ?_⟩
 ·rcases List.mem_cons.1 hE with rfl | h2
  ·exact hA
  ·rw [List.mem_singleton.1 h2]; exact hB
 ·rw [ids_cons, ids_cons, List.nodup_append]
  refine ⟨h.2, ?_, fun i hi j hj e => ?_⟩
  ·show (ids B ++ ids []).Nodup
   rw [show ids ([] : List Ent) = [] from rfl, List.append_nil]; exact hB.2
  ·subst e
   have h3 : i ∈ ids B := by
    have : i ∈ ids B ++ ids [] := hj
    rwa [show ids ([] : List Ent) = [] from rfl, List.append_nil] at this
   have h4 := H.own i (mem_ids.2 ⟨_, List.mem_of_getElem? hk, h3⟩)
   have h5 := (Heap.start h).idlt i hi
   simp at h4
   omega
theorem HSees.withN {B L : List Ent} {w W : World} {A : Option Addr} {hs : List Ob.H3} (h : HSees w [] A hs) (H : Heap w [] L W) (k : Nat) (hk : L[k]? = some (grp B)) : HSees W (ids B) A hs :=
 (h.on H (by simp)).mono fun j hj => List.mem_append_right _ (mem_ids.2 ⟨_, List.mem_of_getElem? hk, hj⟩)
theorem srt_strict {l : List Int} (h : l.Nodup) : (srt l).Pairwise (· < ·) := by
 have h1 := srt_sorted l
 have h2 : (srt l).Nodup := (srt_perm _).nodup_iff.2 h
 exact List.Pairwise.imp₂ (fun a b h3 h4 => by omega) h1 h2
theorem pw_lt {l : List Int} (h : l.Pairwise (· < ·)) {i j : Nat} {x y : Int} (hx : l[i]? = some x) (hy : l[j]? = some y) (hij : i < j) : x < y := by
 obtain ⟨h1, rfl⟩ := List.getElem?_eq_some_iff.1 hx
 obtain ⟨h2, rfl⟩ := List.getElem?_eq_some_iff.1 hy
 exact List.pairwise_iff_getElem.1 h i j h1 h2 hij
theorem walk_TraceSteps (bl : Int) (x : Option Addr × Nat × Nat × List TNode) (FA : Option Addr) (fn fc : Nat) (zs : List Int) (w : World) (wb : (Lit.int .u8 bl).wf = true) (hx : ScriptTNode w x.1 x.2.2.2 ∧ x.2.2.2.length = x.2.1 ∧ x.2.1 ≤ 9223372036854775807 ∧ x.2.1 ≤ x.2.2.1) (hr : IsRow .i64 w FA fn fc zs) :
  Calls Try.prog 5 [.int .u8 bl, .slice x.1 x.2.1 x.2.2.1, .slice FA fn fc].toArray w fun e w' => e = .returned (.bool true) ∧ Below w.heap.size w w' := by
 obtain ⟨A, n, c, us⟩ := x
 obtain ⟨hU, hn, hnm, hnc⟩ := hx
 simp only at hU hn hnm hnc ⊢
 obtain ⟨hF, hfl, hfc, hcm, hfw⟩ := row_sees hr
 have hfm : fn ≤ 9223372036854775807 := by unfold maxLen at hcm; omega
 generalize zs.take fn = l at *
 have hb := bounds_u8 wb
 have H := Heap.nil w
 have hFw := fun {W : World} (h : Only [] w W) => lFewT A n c us FA fn fc l W (hU.later h) hn (hF.later h (by simp)) hfl hnm hfm
 refine k_in (N := 118) Try.func5 rfl rfl rfl ?_
 refine k_sg ?_
 refine s_run rfl rfl (rab rfl) ?_
 refine k_nc ?_
 refine k_seq ?_
 refine k_sg ?_
 refine s_call rfl (awake19 _) (ca18 rfl) ?_
 rintro e W1 ⟨rfl, H'⟩
 refine ⟨_, rfl, ?_⟩
 have H := H.same H'; clear H'
 refine s_run rfl rfl (r_notT rfl) ?_
 refine k_nc ?_
 refine k_f rfl ?_
 refine k_skip ?_
 refine c_norm ?_
 refine k_seq ?_
 refine k_seq ?_
 refine k_cut (fun f W => ∃ b, f 0 = .int .u8 bl ∧ f 1 = .slice A n c ∧ f 2 = .slice FA fn fc ∧ f 23 = .bool (!b) ∧ (b = true → FewT us l) ∧ Heap w [] [] W) ?_ ?_
 ·refine k_rg ?_
  refine s_run rfl rfl (rms rfl) ?_
  refine s_run rfl rfl (rms rfl) ?_
  refine s_call rfl (hFw H.only) (ca19 rfl) ?_
  rintro e W1 ⟨b, rfl, hfew, H'⟩
  refine ⟨_, rfl, ?_⟩
  have H := H.same H'; clear H'
  refine s_run rfl rfl (r_not rfl) ?_
  refine k_nil ?_
  refine k_met ?_
  exact ⟨b, rfl, rfl, rfl, rfl, hfew, H⟩
 clear H
 rintro f W ⟨b, f0, f1, f2, f23, hfew, H⟩
 obtain ⟨f, rfl⟩ := live4 f0 f1 f2 f23
 clear f0 f1 f2 f23
 cases b with
 | false =>
  refine c_norm ?_
  refine k_t rfl ?_
  refine k_sg ?_
  refine s_run rfl rfl (rab rfl) ?_
  refine k_nc ?_
  refine k_ret ?_
  refine c_ret ?_
  refine fin1r (v := .bool _) rfl rfl ?_
  exact ⟨rfl, H.below⟩
 | true =>
 obtain ⟨hn60, hf20, hnp, hlb⟩ := hfew rfl
 obtain ⟨B, hB⟩ : ∃ B : Nat, (B : Int) = 2 + bl % 4 := ⟨(2 + bl % 4).toNat, by omega⟩
 have hBb : 2 ≤ B ∧ B ≤ 5 := by omega
 have hMd := fun {W : World} (h : Only [] w W) => lMade bl hb A n c us W (hU.later h) hn (by omega) hnp B hB
 have hw := Md.mkW_w64 B (usOf us) (fun u hu x hx => by
  obtain ⟨v, hv, rfl⟩ := List.mem_map.1 hu
  exact (hnp v hv).2 x hx) n (by unfold usOf; rw [List.length_map]; omega)
 have hwl := Md.mkW_len B (usOf us) n
 generalize Md.mkW B (usOf us) n = ws at *
 refine c_norm ?_
 refine k_f rfl ?_
 refine k_skip ?_
 refine c_norm ?_
 refine k_sg ?_
 refine s_run rfl rfl (rmi rfl) ?_
 refine s_run rfl rfl (rms rfl) ?_
 refine s_call rfl (hMd H.only) (ca20 rfl) ?_
 rintro e W1 ⟨g, LA, lc, rfl, H'⟩
 refine ⟨_, rfl, ?_⟩
 have H0 := H.more (A := [grp _, _]) H'; clear H'; clear H; simp only [List.cons_append, List.nil_append] at H0; have H := Heap.nil W1
 refine s_run rfl rfl (rmt rfl) ?_
 refine s_run rfl rfl (r_ext (v := .pointer _) rfl rfl) ?_
 refine s_run rfl rfl (r_ext (v := .agg _) rfl rfl) ?_
 refine s_run rfl rfl (r_ext (v := .slice _ _ _) rfl rfl) ?_
 refine s_al H rfl inf48 ?_
 intro p8 _ H'; clear H; have H := H'; clear H'
 refine s_run rfl rfl (rap rfl) ?_
 refine s_sw H 0 rfl rfl rfl rfl rfl rfl rfl sz48 ?_
 clear H; intro _ H; simp only [jA, jB, jC, jD, jE, jF, jG, jH, jI, jJ, jK, Nat.reduceAdd] at H
 refine s_run rfl rfl (ras rfl) ?_
 refine k_nc ?_
 refine k_seq ?_
 obtain ⟨WB, rfl⟩ : ∃ X, X = W1 := ⟨W1, rfl⟩
 have hO0 := H0.only
 have hD : Ents (devL g (Nv.load ws (64 * B))) _ := H0.grp_ents 0 rfl
 have hS := hdrSees H0 1 rfl
 have hw2 : Ob.W64 (Nv.load ws (64 * B)).cache := hw
 have hl2 : (Nv.load ws (64 * B)).cache.length ≤ 1000000000 := by show ws.length ≤ _; omega
 have hF1 := hF.later hO0 (by simp)
 clear H0
 generalize Nv.load ws (64 * B) = d at *
 have hk := Md.mkH_len B
 have hW := mkH_w B
 have hN := fun (W : World) => trNew g B LA B lc W
 refine k_cut (fun f W => ∃ p1 bs1 bb1 p2 bs2 bb2, f 2 = .slice FA fn fc ∧ f 10 = ptr p1 ∧ f 11 = ptr p2 ∧ Heap WB [] [grp (trE g B LA B lc p2 bs2 bb2 none 0 Tr.s0), grp (trE g B LA B lc p1 bs1 bb1 none 0 Tr.s0)] W) ?_ ?_
 ·refine k_trF mixed ?_; have H' := H.drew; clear H; have H := H'; clear H'
  refine tqn 0 rfl rfl rfl (fun _ hS => r_mv (v := .pointer _) rfl) trivial ?_
  refine tqn 2 rfl rfl rfl (fun _ hS => r_mv (v := .slice _ _ _) rfl) trivial ?_
  refine tqn 4 rfl rfl rfl (fun _ hS => r_mv (v := .pointer _) rfl) trivial ?_
  refine tqn 6 rfl rfl rfl (fun _ hS => r_mv (v := .slice _ _ _) rfl) trivial ?_
  refine t_up2 1 5 (by kernel_rfl) ?_ ?_
  ·refine up_mk rfl ?_
   refine s_run rfl rfl (r_la H 0 rfl rfl rfl ag48 sz48) ?_
   refine k_nil ?_
   refine t_on trivial ?_
   refine t_up2 3 5 (by kernel_rfl) ?_ ?_
   ·refine up_mk rfl ?_
    refine s_call rfl (hN _) (ca21 rfl) ?_
    rintro e W1 ⟨p1, bs1, bb1, rfl, H'⟩
    refine ⟨_, rfl, ?_⟩
    have H := H.more (A := [grp _]) (grp_heap H'); clear H'; simp only [List.cons_append, List.nil_append] at H
    refine k_nil ?_
    refine t_on trivial ?_
    refine t_up1 5 (by kernel_rfl) ?_
    refine up_mk rfl ?_
    refine s_run rfl rfl (r_la H 1 rfl rfl rfl ag48 sz48) ?_
    refine k_nil ?_
    refine t_on trivial ?_
    refine t_up1 7 (by kernel_rfl) ?_
    refine up_mk rfl ?_
    refine s_call rfl (hN _) (ca21 rfl) ?_
    rintro e W1 ⟨p2, bs2, bb2, rfl, H'⟩
    refine ⟨_, rfl, ?_⟩
    have H := H.more (A := [grp _]) (grp_heap H'); clear H'; simp only [List.cons_append, List.nil_append] at H
    refine k_nil ?_
    refine t_on trivial ?_
    refine tqn 8 rfl rfl rfl (fun _ hS => r_as (v := .pointer _) rfl) trivial ?_
    refine tqn 9 rfl rfl rfl (fun _ hS => r_as (v := .pointer _) rfl) trivial ?_
    refine t_done (by kernel_rfl) ?_
    refine k_met ?_
    exact ⟨p1, bs1, bb1, p2, bs2, bb2, rfl, rfl, rfl, Heap.subl H [0, 1] rfl rfl⟩
   ·refine up_mk rfl ?_
    refine s_run rfl rfl (r_la H 0 rfl rfl rfl ag48 sz48) ?_
    refine k_nil ?_
    refine t_on trivial ?_
    refine t_up1 3 (by kernel_rfl) ?_
    refine up_mk rfl ?_
    refine s_call rfl (hN _) (ca21 rfl) ?_
    rintro e W1 ⟨p1, bs1, bb1, rfl, H'⟩
    refine ⟨_, rfl, ?_⟩
    have H := H.more (A := [grp _]) (grp_heap H'); clear H'; simp only [List.cons_append, List.nil_append] at H
    refine k_nil ?_
    refine t_on trivial ?_
    refine t_up1 7 (by kernel_rfl) ?_
    refine up_mk rfl ?_
    refine s_call rfl (hN _) (ca21 rfl) ?_
    rintro e W1 ⟨p2, bs2, bb2, rfl, H'⟩
    refine ⟨_, rfl, ?_⟩
    have H := H.more (A := [grp _]) (grp_heap H'); clear H'; simp only [List.cons_append, List.nil_append] at H
    refine k_nil ?_
    refine t_on trivial ?_
    refine tqn 8 rfl rfl rfl (fun _ hS => r_as (v := .pointer _) rfl) trivial ?_
    refine tqn 9 rfl rfl rfl (fun _ hS => r_as (v := .pointer _) rfl) trivial ?_
    refine t_done (by kernel_rfl) ?_
    refine k_met ?_
    exact ⟨p1, bs1, bb1, p2, bs2, bb2, rfl, rfl, rfl, Heap.subl H [0, 1] rfl rfl⟩
  ·refine up_mk rfl ?_
   refine s_run rfl rfl (r_la H 0 rfl rfl rfl ag48 sz48) ?_
   refine k_nil ?_
   refine t_on trivial ?_
   refine t_up1 1 (by kernel_rfl) ?_
   refine up_mk rfl ?_
   refine s_run rfl rfl (r_la H 0 rfl rfl rfl ag48 sz48) ?_
   refine k_nil ?_
   refine t_on trivial ?_
   refine t_up1 3 (by kernel_rfl) ?_
   refine up_mk rfl ?_
   refine s_call rfl (hN _) (ca21 rfl) ?_
   rintro e W1 ⟨p1, bs1, bb1, rfl, H'⟩
   refine ⟨_, rfl, ?_⟩
   have H := H.more (A := [grp _]) (grp_heap H'); clear H'; simp only [List.cons_append, List.nil_append] at H
   refine k_nil ?_
   refine t_on trivial ?_
   refine t_up1 7 (by kernel_rfl) ?_
   refine up_mk rfl ?_
   refine s_call rfl (hN _) (ca21 rfl) ?_
   rintro e W1 ⟨p2, bs2, bb2, rfl, H'⟩
   refine ⟨_, rfl, ?_⟩
   have H := H.more (A := [grp _]) (grp_heap H'); clear H'; simp only [List.cons_append, List.nil_append] at H
   refine k_nil ?_
   refine t_on trivial ?_
   refine tqn 8 rfl rfl rfl (fun _ hS => r_as (v := .pointer _) rfl) trivial ?_
   refine tqn 9 rfl rfl rfl (fun _ hS => r_as (v := .pointer _) rfl) trivial ?_
   refine t_done (by kernel_rfl) ?_
   refine k_met ?_
   exact ⟨p1, bs1, bb1, p2, bs2, bb2, rfl, rfl, rfl, Heap.subl H [0, 1] rfl rfl⟩
 clear H
 rintro f W ⟨p1, bs1, bb1, p2, bs2, bb2, f2, f10, f11, H⟩
 obtain ⟨f, rfl⟩ := live3 f2 f10 f11
 clear f2 f10 f11
 refine c_norm ?_
 refine k_seq ?_
 refine k_sg ?_
 refine s_run rfl rfl (rmp rfl) ?_
 refine s_run rfl rfl (r_ptnilF rfl rfl Try.underlying52) ?_
 refine s_run rfl rfl (rmb rfl) ?_
 refine s_run rfl (g_on 41 (by kernel_rfl) rfl) (rmp rfl) ?_
 refine s_run rfl (g_on 41 (by kernel_rfl) rfl) (r_ptnilF rfl rfl Try.underlying52) ?_
 refine s_run rfl rfl (r_pkF (v := .bool _) rfl rfl) ?_
 refine k_nc ?_
 refine k_f rfl ?_
 refine k_skip ?_
 refine c_norm ?_
 refine k_seq ?_
 refine k_sg ?_
 refine s_run rfl rfl (rai rfl) ?_
 refine k_nc ?_
 refine k_b ?_
 refine k_loop (fun z f W => ∃ (i : Nat) (O1 : Option Addr) (o1 : Nat) (O2 : Option Addr) (o2 : Nat), i ≤ fn ∧ z = fn - i ∧ f 2 = .slice FA fn fc ∧ f 10 = ptr p1 ∧ f 11 = ptr p2 ∧ f 12 = .int .i64 i ∧ Heap WB [] [grp (trE g B LA B lc p2 bs2 bb2 O2 o2 (Tr.rootsTo (Ob.pl B d.cache (Md.mkH B)) Tr.s0 (l.map Md.adr) i)), grp (trE g B LA B lc p1 bs1 bb1 O1 o1 (Tr.rootsTo (Ob.pl B d.cache (Md.mkH B)) Tr.s0 (l.map Md.adr) i))] W) fn ⟨0, none, 0, none, 0, by omega, rfl, rfl, rfl, rfl, rfl, H⟩ ?_
 clear H
 rintro z f W ⟨i, O1, o1, O2, o2, hi, rfl, f2, f10, f11, f12, H⟩
 obtain ⟨f, rfl⟩ := live4 f2 f10 f11 f12
 clear f2 f10 f11 f12
 have hok := (Tr.ok0 (Ob.pl B d.cache (Md.mkH B))).rootsTo (l.map Md.adr) i
 by_cases hlt : i < fn
 ·obtain ⟨y, hy⟩ : ∃ y, l[i]? = some y := ⟨_, List.getElem?_eq_getElem (by omega)⟩
  have hyb := hlb y (List.mem_of_getElem? hy)
  obtain ⟨b, o, rfl, _, hrd⟩ := hF1 (by omega)
  have cy := hrd i y hy
  have hA := fun (W : World) => lAddr y W (by omega)
  have hab := Md.adr_bd hyb
  have hgd : (l.map Md.adr).getD i 0 = Md.adr y := by rw [List.getD_eq_getElem?_getD, List.getElem?_map, hy]; rfl
  have hst : Tr.rootsTo (Ob.pl B d.cache (Md.mkH B)) Tr.s0 (l.map Md.adr) (i + 1) = Tr.reach (Ob.pl B d.cache (Md.mkH B)) (Tr.rootsTo (Ob.pl B d.cache (Md.mkH B)) Tr.s0 (l.map Md.adr) i) (-1, 0) (Md.adr y) := by rw [Tr.rootsTo, hgd]
  have hR := fun {L : List Ent} {W : World} {p bs bb oc : Nat} {OA : Option Addr} (H : Heap WB [] L W) (k : Nat) (hk2 : L[k]? = some (grp (trE g B LA B lc p bs bb OA oc (Tr.rootsTo (Ob.pl B d.cache (Md.mkH B)) Tr.s0 (l.map Md.adr) i)))) => trRoot (hD.withN H k hk2) hw2 hl2 (hS.withN H k hk2) hk (by omega) hW (by omega) hok (Md.adr y) ⟨by omega, by omega⟩
  rw [← hst] at hR
  refine k_seq ?_
  refine k_sg ?_
  refine s_run rfl rfl (rmi rfl) ?_
  refine s_run rfl rfl (rms rfl) ?_
  refine s_run rfl rfl (r_len rfl Try.underlying25) ?_
  refine s_run rfl rfl (r_lssT rfl rfl (by omega)) ?_
  refine k_nc ?_
  refine k_t rfl ?_
  refine k_skip ?_
  refine c_norm ?_
  refine k_seq ?_
  refine k_b ?_
  refine k_sg ?_
  refine s_run rfl rfl (rmp rfl) ?_
  refine s_run rfl rfl (rms rfl) ?_
  refine s_run rfl rfl (rmi rfl) ?_
  refine s_run rfl rfl (r_ix1o (i := i) rfl rfl (by omega) (by omega) Try.underlying25 sz3) ?_
  refine s_run rfl rfl (r_lr H rfl cy (by simp) ag3) ?_
  refine s_call rfl (hA _) (ca23 rfl) ?_
  rintro e W1 ⟨rfl, H'⟩
  refine ⟨_, rfl, ?_⟩
  have H := H.same H'; clear H'
  refine s_call rfl (hR H 1 rfl) (ca22 rfl) ?_
  rintro e W1 ⟨rfl, O1, o1, H'⟩
  refine ⟨_, rfl, ?_⟩
  have H := H.grp_at 1 rfl H'; clear H'; simp only [List.set_cons_zero, List.set_cons_succ] at H
  refine k_nc ?_
  refine k_rg ?_
  refine s_run rfl rfl (rmp rfl) ?_
  refine s_run rfl rfl (rms rfl) ?_
  refine s_run rfl rfl (rmi rfl) ?_
  refine s_run rfl rfl (r_ix1o (i := i) rfl rfl (by omega) (by omega) Try.underlying25 sz3) ?_
  refine s_run rfl rfl (r_lr H rfl cy (by simp) ag3) ?_
  refine s_call rfl (hA _) (ca23 rfl) ?_
  rintro e W1 ⟨rfl, H'⟩
  refine ⟨_, rfl, ?_⟩
  have H := H.same H'; clear H'
  refine s_call rfl (hR H 0 rfl) (ca22 rfl) ?_
  rintro e W1 ⟨rfl, O2, o2, H'⟩
  refine ⟨_, rfl, ?_⟩
  have H := H.grp_at 0 rfl H'; clear H'; simp only [List.set_cons_zero, List.set_cons_succ] at H
  refine k_nil ?_
  refine b_norm ?_
  refine c_norm ?_
  refine k_rg ?_
  refine s_run rfl rfl (rmi rfl) ?_
  refine s_run rfl rfl (r_add rfl rfl (wI (by omega))) ?_
  refine s_run rfl rfl (rai rfl) ?_
  refine k_nil ?_
  refine c_round ?_
  exact ⟨_, _, by omega, rfl, i + 1, O1, o1, O2, o2, by omega, rfl, rfl, rfl, rfl, rfl, H⟩
 obtain rfl : i = fn := by omega
 have hlen := Tr.rootsTo_len (Ob.pl B d.cache (Md.mkH B)) (l.map Md.adr) i
 generalize Tr.rootsTo (Ob.pl B d.cache (Md.mkH B)) Tr.s0 (l.map Md.adr) i = s1 at *
 have hRun := fun {L : List Ent} {W : World} {p bs bb oc : Nat} {OA : Option Addr} (H : Heap WB [] L W) (k : Nat) (hk2 : L[k]? = some (grp (trE g B LA B lc p bs bb OA oc s1))) => trRun (hD.withN H k hk2) hw2 hl2 (hS.withN H k hk2) (fun _ h => h) hk (by omega) hW (by omega) hok hlen
 refine k_seq ?_
 refine k_sg ?_
 refine s_run rfl rfl (rmi rfl) ?_
 refine s_run rfl rfl (rms rfl) ?_
 refine s_run rfl rfl (r_len rfl Try.underlying25) ?_
 refine s_run rfl rfl (r_lssF rfl rfl (by omega)) ?_
 refine k_nc ?_
 refine k_f rfl ?_
 refine k_exit ?_
 refine c_exit ?_
 refine c_exit ?_
 refine b_hit ?_
 refine c_norm ?_
 refine k_sg ?_
 refine s_run rfl rfl (rmp rfl) ?_
 refine s_call rfl (hRun H 0 rfl) (ca24 rfl) ?_
 rintro e W1 ⟨N, O3, o3, hN1, hN2, rfl, H'⟩
 refine ⟨_, rfl, ?_⟩
 have H := H.grp_at 0 rfl H'; clear H'; simp only [List.set_cons_zero, List.set_cons_succ] at H
 refine k_nc ?_
 refine k_seq ?_
 clear hRun
 have hokN := hok.steps (pt := Ob.ptrs d.cache) N
 have hlnN := trLen hokN
 have hSN := Tr.steps_len (Ob.pl B d.cache (Md.mkH B)) (Ob.ptrs d.cache) s1 hlen N hN1
 rw [hN2, List.length_nil, Nat.zero_add] at hSN
 have hSe := fun {p bs bb oc : Nat} {OA : Option Addr} {W : World} hE => trSeen (g := g) (n := B) (k := B) (c := lc) (p := p) (bs := bs) (bb := bb) (oc := oc) (A := LA) (OA := OA) (s := Tr.steps (Ob.pl B d.cache (Md.mkH B)) (Ob.ptrs d.cache) s1 N) (w := W) hE (by omega)
 obtain ⟨ALL, hALL⟩ : ∃ ALL, srt (Tr.steps (Ob.pl B d.cache (Md.mkH B)) (Ob.ptrs d.cache) s1 N).seen = ALL := ⟨_, rfl⟩
 have hAl : ALL.length = N := by rw [← hALL, srt_len]; exact hSN
 have hAs : ALL.Pairwise (· < ·) := by rw [← hALL]; exact srt_strict hokN.nd
 rw [hALL, hSN] at hSe
 refine k_rg ?_
 refine s_run rfl rfl (rmp rfl) ?_
 refine s_call rfl (hSe (H.grp_ents 0 rfl)) (ca25 rfl) ?_
 rintro e W1 ⟨AA, cA, rfl, H'⟩
 refine ⟨_, rfl, ?_⟩
 have H := H.more H'; clear H'; simp only [List.cons_append, List.nil_append] at H
 refine s_run rfl rfl (ras rfl) ?_
 refine k_nc ?_
 refine k_sg ?_
 refine s_run rfl rfl (rai rfl) ?_
 refine k_nc ?_
 refine k_seq ?_
 refine k_b ?_
 replace H := Heap.subl H [0, 2] rfl rfl
 refine k_loop (fun z f W => ∃ (k : Nat) (O1 : Option Addr) (o1 : Nat), k ≤ N ∧ z = N - k ∧ f 10 = ptr p1 ∧ f 13 = .slice AA N cA ∧ f 14 = .int .i64 k ∧ Heap WB [] [ownN 1 (.slice AA N cA) N (ALL.map (Value.int .i64)) 3, grp (trE g B LA B lc p1 bs1 bb1 O1 o1 (Tr.steps (Ob.pl B d.cache (Md.mkH B)) (Ob.ptrs d.cache) s1 k))] W) N ⟨0, O1, o1, by omega, rfl, rfl, rfl, rfl, H⟩ ?_
 clear H
 rintro z f W ⟨k, O1, o1, hkN, rfl, f10, f13, f14, H⟩
 obtain ⟨f, rfl⟩ := live3 f10 f13 f14
 clear f10 f13 f14
 by_cases hlt : k < N
 ·have hokk := hok.steps (pt := Ob.ptrs d.cache) k
  have hSt := fun {L : List Ent} {W : World} {p bs bb oc : Nat} {OA : Option Addr} (H : Heap WB [] L W) (j : Nat) (hk2 : L[j]? = some (grp (trE g B LA B lc p bs bb OA oc (Tr.steps (Ob.pl B d.cache (Md.mkH B)) (Ob.ptrs d.cache) s1 k)))) => trStep (hD.withN H j hk2) hw2 hl2 (hS.withN H j hk2) (fun _ h => h) hk (by omega) hW (by omega) hokk (hN1 k hlt)
  have hsu : Tr.step (Ob.pl B d.cache (Md.mkH B)) (Ob.ptrs d.cache) (Tr.steps (Ob.pl B d.cache (Md.mkH B)) (Ob.ptrs d.cache) s1 k) = Tr.steps (Ob.pl B d.cache (Md.mkH B)) (Ob.ptrs d.cache) s1 (k + 1) := rfl
  rw [hsu] at hSt
  have hok1 := hok.steps (pt := Ob.ptrs d.cache) (k + 1)
  have hln1 := trLen hok1
  have hsub : ∀ x ∈ (Tr.steps (Ob.pl B d.cache (Md.mkH B)) (Ob.ptrs d.cache) s1 (k + 1)).seen, x ∈ ALL := fun x hx => by
   have := Tr.steps_sub (Ob.pl B d.cache (Md.mkH B)) (Ob.ptrs d.cache) s1 (k + 1) (N - (k + 1)) x hx
   rw [show k + 1 + (N - (k + 1)) = N by omega] at this
   rw [← hALL]; exact (srt_perm _).mem_iff.2 this
  generalize hs2 : Tr.steps (Ob.pl B d.cache (Md.mkH B)) (Ob.ptrs d.cache) s1 (k + 1) = s2 at *
  have hSe2 := fun {p bs bb oc : Nat} {OA : Option Addr} {W : World} hE => trSeen (g := g) (n := B) (k := B) (c := lc) (p := p) (bs := bs) (bb := bb) (oc := oc) (A := LA) (OA := OA) (s := s2) (w := W) hE (by omega)
  obtain ⟨NOW, hNOW⟩ : ∃ NOW, srt s2.seen = NOW := ⟨_, rfl⟩
  have hNl : NOW.length = s2.seen.length := by rw [← hNOW, srt_len]
  have hNs : NOW.Pairwise (· < ·) := by rw [← hNOW]; exact srt_strict hok1.nd
  have hNsub : ∀ x ∈ NOW, x ∈ ALL := fun x hx => hsub x (by rw [← hNOW] at hx; exact (srt_perm _).mem_iff.1 hx)
  rw [hNOW] at hSe2
  generalize s2.seen.length = M at *
  refine k_seq ?_
  refine k_sg ?_
  refine s_run rfl rfl (rmi rfl) ?_
  refine s_run rfl rfl (rms rfl) ?_
  refine s_run rfl rfl (r_len rfl Try.underlying25) ?_
  refine s_run rfl rfl (r_leqT rfl rfl (by omega)) ?_
  refine s_run rfl rfl (rmb rfl) ?_
  refine s_run rfl (g_on 73 (by kernel_rfl) rfl) (rmp rfl) ?_
  refine s_call (g_on 73 (by kernel_rfl) rfl) (hSt H 1 rfl) (ca26 rfl) ?_
  rintro e W1 ⟨rfl, O2, o2, H'⟩
  refine ⟨_, rfl, ?_⟩
  have H := H.grp_at 1 rfl H'; clear H'; simp only [List.set_cons_zero, List.set_cons_succ] at H
  refine s_run rfl rfl (r_pkT (v := .bool _) rfl rfl) ?_
  refine k_nc ?_
  refine k_t rfl ?_
  refine k_skip ?_
  refine c_norm ?_
  refine k_b ?_
  refine k_sg ?_
  refine s_run rfl rfl (rmi rfl) ?_
  refine s_run rfl rfl (r_add rfl rfl (wI (by omega))) ?_
  refine s_run rfl rfl (rai rfl) ?_
  refine k_nc ?_
  refine k_sg ?_
  refine s_run rfl rfl (rmp rfl) ?_
  refine s_call rfl (hSe2 (H.grp_ents 1 rfl)) (ca25 rfl) ?_
  rintro e W1 ⟨NA, cN, rfl, H'⟩
  refine ⟨_, rfl, ?_⟩
  have H := H.more H'; clear H'; simp only [List.cons_append, List.nil_append] at H
  refine s_run rfl rfl (ras rfl) ?_
  refine k_nc ?_
  refine k_sg ?_
  refine s_run rfl rfl (rai rfl) ?_
  refine k_nc ?_
  refine k_sg ?_
  refine s_run rfl rfl (rai rfl) ?_
  refine k_nc ?_
  refine k_b ?_
  refine k_loop (fun z f W => ∃ (i q : Nat), i ≤ M ∧ q ≤ N ∧ z = M - i ∧ (∀ j y x, j < q → ALL[j]? = some y → NOW[i]? = some x → y < x) ∧ f 10 = ptr p1 ∧ f 13 = .slice AA N cA ∧ f 14 = .int .i64 (k + 1 : Nat) ∧ f 15 = .slice NA M cN ∧ f 16 = .int .i64 q ∧ f 17 = .int .i64 i ∧ Heap WB [] [ownN 1 (.slice NA M cN) M (NOW.map (Value.int .i64)) 3, ownN 1 (.slice AA N cA) N (ALL.map (Value.int .i64)) 3, grp (trE g B LA B lc p1 bs1 bb1 O2 o2 s2)] W) M ⟨0, 0, by omega, by omega, rfl, (fun j y x h => by omega), rfl, rfl, rfl, rfl, rfl, rfl, H⟩ ?_
  clear H
  rintro z f W ⟨i, q, hi, hq, rfl, hlow, f10, f13, f14, f15, f16, f17, H⟩
  obtain ⟨f, rfl⟩ := live6 f10 f13 f14 f15 f16 f17
  clear f10 f13 f14 f15 f16 f17
  by_cases him : i < M
  ·obtain ⟨x, hx⟩ : ∃ x, NOW[i]? = some x := ⟨_, List.getElem?_eq_getElem (by omega)⟩
   obtain ⟨r, hrl, hr⟩ := List.mem_iff_getElem.1 (hNsub x (List.mem_of_getElem? hx))
   have hr2 : ALL[r]? = some x := by rw [← hr]; exact List.getElem?_eq_getElem hrl
   obtain ⟨na, rfl⟩ := H.own_some 0 rfl (by omega)
   obtain ⟨aa, rfl⟩ := H.own_some 1 rfl (by omega)
   refine k_seq ?_
   refine k_sg ?_
   refine s_run rfl rfl (rmi rfl) ?_
   refine s_run rfl rfl (rms rfl) ?_
   refine s_run rfl rfl (r_len rfl Try.underlying25) ?_
   refine s_run rfl rfl (r_lssT rfl rfl (by omega)) ?_
   refine k_nc ?_
   refine k_t rfl ?_
   refine k_skip ?_
   refine c_norm ?_
   refine k_seq ?_
   refine k_b ?_
   refine k_seq ?_
   refine k_b ?_
   refine k_loop (fun z f W => ∃ (q : Nat), q ≤ r ∧ z = r - q ∧ f 10 = ptr p1 ∧ f 13 = .slice (some ⟨aa, 0, none⟩) N cA ∧ f 14 = .int .i64 (k + 1 : Nat) ∧ f 15 = .slice (some ⟨na, 0, none⟩) M cN ∧ f 16 = .int .i64 q ∧ f 17 = .int .i64 i ∧ Heap WB [] [ownN 1 (.slice (some ⟨na, 0, none⟩) M cN) M (NOW.map (Value.int .i64)) 3, ownN 1 (.slice (some ⟨aa, 0, none⟩) N cA) N (ALL.map (Value.int .i64)) 3, grp (trE g B LA B lc p1 bs1 bb1 O2 o2 s2)] W) (r - q) ⟨q, by
    rcases Nat.lt_or_ge r q with h | h
    ·exact absurd (hlow r x x h hr2 hx) (by omega)
    ·exact h, rfl, rfl, rfl, rfl, rfl, rfl, rfl, H⟩ ?_
   clear H hlow
   rintro z f W ⟨q, hqr, rfl, f10, f13, f14, f15, f16, f17, H⟩
   obtain ⟨f, rfl⟩ := live6 f10 f13 f14 f15 f16 f17
   clear f10 f13 f14 f15 f16 f17
   obtain ⟨y, hy⟩ : ∃ y, ALL[q]? = some y := ⟨_, List.getElem?_eq_getElem (by omega)⟩
   by_cases e : q = r
   ·subst e
    rw [hr2] at hy
    injection hy with hy
    subst hy
    refine k_seq ?_
    refine k_seq ?_
    refine k_q mixed (by kernel_rfl) H ?_
    refine q_run rfl rfl (fun _ H => r_mv (v := .int _ _) rfl) ?_
    refine q_run rfl rfl (fun _ H => r_mv (v := .slice _ _ _) rfl) ?_
    refine q_run rfl rfl (fun _ H => r_len rfl Try.underlying25) ?_
    refine q_run rfl rfl (fun _ H => r_lssT rfl rfl (by omega)) ?_
    refine q_run rfl rfl (fun _ H => r_mv (v := .bool _) rfl) ?_
    refine q_run rfl (g_on 91 (by kernel_rfl) rfl) (fun _ H => r_mv (v := .slice _ _ _) rfl) ?_
    refine q_run rfl (g_on 91 (by kernel_rfl) rfl) (fun _ H => r_mv (v := .int _ _) rfl) ?_
    refine q_run rfl (g_on 91 (by kernel_rfl) rfl) (fun _ H => r_ix1 (i := q) rfl rfl (by omega) (by omega) Try.underlying25 sz3) ?_
    refine q_run rfl (g_on 91 (by kernel_rfl) rfl) (fun _ H => r_ow H 1 rfl rfl hr2 ag3) ?_
    refine q_run rfl (g_on 91 (by kernel_rfl) rfl) (fun _ H => r_mv (v := .slice _ _ _) rfl) ?_
    refine q_run rfl (g_on 91 (by kernel_rfl) rfl) (fun _ H => r_mv (v := .int _ _) rfl) ?_
    refine q_run rfl (g_on 91 (by kernel_rfl) rfl) (fun _ H => r_ix1 (i := i) rfl rfl (by omega) (by omega) Try.underlying25 sz3) ?_
    refine q_run rfl (g_on 91 (by kernel_rfl) rfl) (fun _ H => r_ow H 0 rfl rfl hx ag3) ?_
    refine q_run rfl (g_on 91 (by kernel_rfl) rfl) (fun _ H => r_neqF rfl rfl (by omega)) ?_
    refine q_run rfl rfl (fun _ H => r_pkT (v := .bool _) rfl rfl) ?_
    refine q_nil ?_
    intro _ H'; clear H; have H := H'; clear H'
    refine c_norm ?_
    refine k_f rfl ?_
    refine k_exit ?_
    refine c_exit ?_
    refine c_exit ?_
    refine b_hit ?_
    refine c_norm ?_
    refine k_sg ?_
    refine s_run rfl rfl (rmi rfl) ?_
    refine s_run rfl rfl (rms rfl) ?_
    refine s_run rfl rfl (r_len rfl Try.underlying25) ?_
    refine s_run rfl rfl (r_eqlF rfl rfl (by omega)) ?_
    refine k_nc ?_
    refine k_f rfl ?_
    refine k_skip ?_
    refine b_norm ?_
    refine c_norm ?_
    refine k_rg ?_
    refine s_run rfl rfl (rmi rfl) ?_
    refine s_run rfl rfl (r_add rfl rfl (wI (by omega))) ?_
    refine s_run rfl rfl (rai rfl) ?_
    refine k_nil ?_
    refine c_round ?_
    exact ⟨_, _, by omega, rfl, i + 1, q, by omega, by omega, rfl, (fun j y2 x2 h1 h2 h3 => by
     have h4 := pw_lt hAs h2 hr2 h1
     have h5 := pw_lt hNs hx h3 (by omega)
     omega), rfl, rfl, rfl, rfl, rfl, rfl, H⟩
   ·have hyx := pw_lt hAs hy hr2 (by omega)
    refine k_seq ?_
    refine k_seq ?_
    refine k_q mixed (by kernel_rfl) H ?_
    refine q_run rfl rfl (fun _ H => r_mv (v := .int _ _) rfl) ?_
    refine q_run rfl rfl (fun _ H => r_mv (v := .slice _ _ _) rfl) ?_
    refine q_run rfl rfl (fun _ H => r_len rfl Try.underlying25) ?_
    refine q_run rfl rfl (fun _ H => r_lssT rfl rfl (by omega)) ?_
    refine q_run rfl rfl (fun _ H => r_mv (v := .bool _) rfl) ?_
    refine q_run rfl (g_on 91 (by kernel_rfl) rfl) (fun _ H => r_mv (v := .slice _ _ _) rfl) ?_
    refine q_run rfl (g_on 91 (by kernel_rfl) rfl) (fun _ H => r_mv (v := .int _ _) rfl) ?_
    refine q_run rfl (g_on 91 (by kernel_rfl) rfl) (fun _ H => r_ix1 (i := q) rfl rfl (by omega) (by omega) Try.underlying25 sz3) ?_
    refine q_run rfl (g_on 91 (by kernel_rfl) rfl) (fun _ H => r_ow H 1 rfl rfl hy ag3) ?_
    refine q_run rfl (g_on 91 (by kernel_rfl) rfl) (fun _ H => r_mv (v := .slice _ _ _) rfl) ?_
    refine q_run rfl (g_on 91 (by kernel_rfl) rfl) (fun _ H => r_mv (v := .int _ _) rfl) ?_
    refine q_run rfl (g_on 91 (by kernel_rfl) rfl) (fun _ H => r_ix1 (i := i) rfl rfl (by omega) (by omega) Try.underlying25 sz3) ?_
    refine q_run rfl (g_on 91 (by kernel_rfl) rfl) (fun _ H => r_ow H 0 rfl rfl hx ag3) ?_
    refine q_run rfl (g_on 91 (by kernel_rfl) rfl) (fun _ H => r_neqT rfl rfl (by omega)) ?_
    refine q_run rfl rfl (fun _ H => r_pkT (v := .bool _) rfl rfl) ?_
    refine q_nil ?_
    intro _ H'; clear H; have H := H'; clear H'
    refine c_norm ?_
    refine k_t rfl ?_
    refine k_skip ?_
    refine c_norm ?_
    refine k_b ?_
    refine k_rg ?_
    refine s_run rfl rfl (rmi rfl) ?_
    refine s_run rfl rfl (r_add rfl rfl (wI (by omega))) ?_
    refine s_run rfl rfl (rai rfl) ?_
    refine k_nil ?_
    refine b_norm ?_
    refine c_round ?_
    exact ⟨_, _, by omega, rfl, q + 1, by omega, rfl, rfl, rfl, rfl, rfl, rfl, rfl, H⟩
  ·refine k_seq ?_
   refine k_sg ?_
   refine s_run rfl rfl (rmi rfl) ?_
   refine s_run rfl rfl (rms rfl) ?_
   refine s_run rfl rfl (r_len rfl Try.underlying25) ?_
   refine s_run rfl rfl (r_lssF rfl rfl (by omega)) ?_
   refine k_nc ?_
   refine k_f rfl ?_
   refine k_exit ?_
   refine c_exit ?_
   refine c_exit ?_
   refine b_hit ?_
   refine b_norm ?_
   refine c_round ?_
   exact ⟨_, _, by omega, rfl, k + 1, O2, o2, by omega, rfl, rfl, rfl, rfl, by rw [hs2]; exact H.drop⟩
 ·obtain rfl : k = N := by omega
  have hSt := fun {L : List Ent} {W : World} {p bs bb oc : Nat} {OA : Option Addr} (H : Heap WB [] L W) (j : Nat) (hk2 : L[j]? = some (grp (trE g B LA B lc p bs bb OA oc (Tr.steps (Ob.pl B d.cache (Md.mkH B)) (Ob.ptrs d.cache) s1 k)))) => trStep0 (H.grp_ents j hk2) hN2
  refine k_seq ?_
  refine k_sg ?_
  refine s_run rfl rfl (rmi rfl) ?_
  refine s_run rfl rfl (rms rfl) ?_
  refine s_run rfl rfl (r_len rfl Try.underlying25) ?_
  refine s_run rfl rfl (r_leqT rfl rfl (by omega)) ?_
  refine s_run rfl rfl (rmb rfl) ?_
  refine s_run rfl (g_on 73 (by kernel_rfl) rfl) (rmp rfl) ?_
  refine s_call (g_on 73 (by kernel_rfl) rfl) (hSt H 1 rfl) (ca26 rfl) ?_
  rintro e W1 ⟨rfl, H'⟩
  refine ⟨_, rfl, ?_⟩
  have H := H.same H'; clear H'
  refine s_run rfl rfl (r_pkT (v := .bool _) rfl rfl) ?_
  refine k_nc ?_
  refine k_f rfl ?_
  refine k_exit ?_
  refine c_exit ?_
  refine c_exit ?_
  refine b_hit ?_
  refine c_norm ?_
  refine k_sg ?_
  refine s_run rfl rfl (rmi rfl) ?_
  refine s_run rfl rfl (rms rfl) ?_
  refine s_run rfl rfl (r_len rfl Try.underlying25) ?_
  refine s_run rfl rfl (r_eqlT rfl rfl (by omega)) ?_
  refine s_run rfl rfl (rmb rfl) ?_
  refine s_run rfl (g_on 112 (by kernel_rfl) rfl) (rmp rfl) ?_
  refine s_call (g_on 112 (by kernel_rfl) rfl) (hSe (H.grp_ents 1 rfl)) (ca25 rfl) ?_
  rintro e W1 ⟨NA, cN, rfl, H'⟩
  refine ⟨_, rfl, ?_⟩
  have H := H.more H'; clear H'; simp only [List.cons_append, List.nil_append] at H
  refine s_run rfl (g_on 112 (by kernel_rfl) rfl) (rms rfl) ?_
  refine s_call (g_on 112 (by kernel_rfl) rfl) (rIntsT _ _ _ _ _ ALL _ (own_seesC H 0 rfl) (own_seesC H 1 rfl) hAl (by omega)) (ca12 rfl) ?_
  rintro e W1 ⟨rfl, H'⟩
  refine ⟨_, rfl, ?_⟩
  have H := H.same H'; clear H'
  refine s_run rfl rfl (r_pkT (v := .bool _) rfl rfl) ?_
  refine s_run rfl rfl (rab rfl) ?_
  refine k_nc ?_
  refine k_ret ?_
  refine fin1r (v := .bool _) rfl rfl ?_
  exact ⟨rfl, (hO0.trans H.only).below⟩
end Go.Proofs.Ytlakbclnilakbaa
end

section
namespace Go.Proofs.Ytlakbclnilakbaa.lTraceSteps
open Go.ChangeShapes Go.WideShapes Go.ChangeAt Go.RowKit
theorem own : ownKnob Try.prog.godebug = none := by kernel_rfl
theorem laidOut : laidOutB Try.prog = true := by kernel_rfl
set_option maxRecDepth 100000 in
theorem lifted (os : Os) (started : os.Started) (H : Type) (enc : TypeId × Value → H) :
  ReturnsInHanded {} Try.checked os 5 .any (Rows.traceStepsSpec.pre6 enc Try.prog Try.f5 Rows.traceStepsRow.domain false) (Rows.traceStepsSpec.post enc Try.prog Try.f5 false true false false) := by
 refine returnsInHanded_of_change (C := Try.checked) own started (by kernel_rfl) Try.func5
  (ChangeSpec.witness6 (enc := enc) (C := Try.checked) false ⟨#[], #[.int .u8 0, .slice none 0 0, .slice none 0 0], []⟩ 8 (by kernel_rfl) (by kernel_rfl) (by kernel_rfl) (by kernel_rfl)) ?_
 intro W base args ds gs before hval0 hW hcnd _
 have hval : ∀ (j : Nat) t v, Try.f5.params[j]? = some t → args[j]? = some v → Value.okWide Try.prog W .any base t v := hval0
 have hW' := hW
 obtain ⟨p, q, hA0, hV, rfl, hfz, hnd⟩ := hW
 have hA : DataW.TrodAll enc Try.prog W 0 (fun _ => true) true Try.f5.params.toList args.toList ds p := hA0
 rw [Try.params5] at hA hval
 obtain ⟨v0, vs0, d0, ds0, p0, q0, hargs, rfl, rfl, h0, r0⟩ := trodAll_cons hA
 obtain ⟨v1, vs1, d1, ds1, p1, q1, rfl, rfl, rfl, h1, r1⟩ := trodAll_cons r0
 obtain ⟨v2, vs2, d2, ds2, p2, q2, rfl, rfl, rfl, h2, r2⟩ := trodAll_cons r1
 obtain ⟨rfl, rfl, rfl⟩ := trodAll_nil r2
 obtain rfl : args = #[v0, v1, v2] := by cases args; simp_all
 obtain ⟨rfl, rfl⟩ := trodVars_none hV
 have k0 := h0
 have lt0 : ∀ x ∈ p0, x.block < W.heap.size := by obtain ⟨m, hm⟩ := k0; exact DataW.trod_lt m _ _ _ hm
 have k1 := h1
 have lt1 : ∀ x ∈ p1, x.block < W.heap.size := by obtain ⟨m, hm⟩ := k1; exact DataW.trod_lt m _ _ _ hm
 have k2 := h2
 have lt2 : ∀ x ∈ p2, x.block < W.heap.size := by obtain ⟨m, hm⟩ := k2; exact DataW.trod_lt m _ _ _ hm
 obtain ⟨a0, rfl, rfl, rfl, w0⟩ := open_int Try.underlying5 (hval 0 5 v0 rfl rfl) h0
 obtain ⟨x1, rfl, w1⟩ := opens_TNode W base v1 d1 p1 (hval 1 44 v1 rfl rfl) h1
 obtain ⟨a2, len2, cap2, rfl⟩ := okWide_slice Try.underlying25 (hval 2 25 v2 rfl rfl)
 obtain ⟨z2, w2⟩ := open_row Try.underlying25 Try.underlying3 (by kernel_rfl) h2
 clear hA0 hval0
 refine (walk_TraceSteps a0 x1 a2 len2 cap2 z2 W w0 w1 w2).mono fun e W' ⟨he, bel⟩ => ?_
 subst he
 exact ⟨_, rfl, _, _, _, [], _, [], hW', trodAll_mk1 (shut_bool Try.underlying4 _), (trodAll_cons_mk (Below.trod laidOut (by kernel_rfl) (of_decide_eq_true (by kernel_rfl)) k0 bel lt0) (trodAll_cons_mk (Below.trod laidOut (by kernel_rfl) (of_decide_eq_true (by kernel_rfl)) k1 bel lt1) (trodAll_cons_mk (Below.trod laidOut (by kernel_rfl) (of_decide_eq_true (by kernel_rfl)) k2 bel lt2) trodAll_mk0))), rfl, bel.frame _, fun h => by cases h⟩
theorem over : Rows.traceStepsRow.holds Try.pinned (OpenSpec.ofChange Rows.traceStepsSpec) :=
 OpenClaim.holds_of_wide 5 Try.f5 rfl rfl rfl rfl rfl rfl rfl ⟨rfl, rfl, rfl, rfl, rfl⟩ rfl rfl rfl rfl rfl (by kernel_rfl) Try.func5 (by kernel_rfl)
  (of_decide_eq_true (by kernel_rfl)) (by unfold Func.isWrapper; first | (rw [if_pos (by decide +kernel)]; kernel_rfl) | (rw [if_neg (by decide +kernel)]; exact ⟨rfl, rfl⟩))
  (fun os started H enc _ => lifted os started H enc)
theorem proved : Rows.TraceStepsSaid := over
#print axioms proved
end Go.Proofs.Ytlakbclnilakbaa.lTraceSteps
end
