/- Parts of the proof, one behind the other. -/
import Derived.Lib.AppendZeros
import Derived.LoopN
import Derived.Deep.RegionHeld3
import Derived.Test.YtmekhdclnhhhbaaKRootsOpensd
set_option linter.unusedSimpArgs false
set_option linter.unusedVariables false
section
namespace Go.Proofs.Ytmekhdclnhhhbaa
open Go.RowKit
def grp (A : List Ent) : Ent :=
 ⟨ids A, fun W => Ents A W, fun W h i hi => by
  obtain ⟨E, hE, hm⟩ := mem_ids.1 hi
  exact E.lt W (h.1 E hE) i hm, fun W W' hh h => ⟨fun E hE => E.loc W W' (fun i hi => hh i (mem_ids.2 ⟨E, hE, hi⟩)) (h.1 E hE), h.2⟩⟩
theorem Heap.grp_ents {w0 W : World} {F : List Nat} {L A : List Ent} (H : Heap w0 F L W) (k : Nat) (hk : L[k]? = some (grp A)) : Ents A W := H.ok _ (List.mem_of_getElem? hk)
theorem grp_heap {W W' : World} {F : List Nat} {A : List Ent} (h : Heap W F A W') : Heap W F [grp A] W' :=
 ⟨fun E hE => by (rw [List.mem_singleton.1 hE]; exact h.ents), by simpa [ids, grp] using h.nd, by simpa [ids, grp] using h.own, h.only⟩
theorem grp_open {W W' : World} {F : List Nat} {A : List Ent} (h : Heap W F [grp A] W') : Heap W F A W' := by
 have hE := h.grp_ents 0 rfl
 exact ⟨hE.1, hE.2, by have := h.own; simpa [ids, grp] using this, h.only⟩
theorem Heap.grp_at {w0 W W' : World} {F : List Nat} {L A A' : List Ent} (H : Heap w0 F L W) (k : Nat) (hk : L[k]? = some (grp A)) (h' : Heap W (ids A) A' W') : Heap w0 F (L.set k (grp A')) W' :=
 H.at k hk (grp_heap h') (fun i hi => hi)
theorem grp_start {w : World} {A : List Ent} (h : Ents A w) : Heap w (ids A) [grp A] w := grp_heap (Heap.start h)
section
variable {P : Program} {n : Nat} {f : Nat → Value} {W : World} {dst : Option Tmp} {ty : TypeId} {pos : String} {af : Array Edge} {g : Option (Nat × Bool)} {x y : Operand} {t t2 : TypeId}
theorem r_bneq {a b : Bool} (hx : ev n f x = .bool a) (hy : ev n f y = .bool b) (h : a = b) (ht : P.underlying t = some .bool) : (execOp (ev n f) ⟨dst, .binOp .neq t x y t2, ty, pos, af, g⟩).run P W = .ok (.value (.bool false)) W := by
 subst h
 have h : ∀ d : Nat, (Op.equalIn (d + 1) t (.bool a) (.bool a)).run P W = .ok true W := fun d => by
  simp [Op.equalIn, run_underlying ht]
 have h2 : (binOp .neq t (.bool a) (.bool a)).run P W = .ok (.bool false) W := by
  simp only [binOp]
  simp [Op.equal, Op.maxDepth, h 9999]
 have h3 : (eqGuard .neq t x y (.bool a) (.bool a)).run P W = .ok () W := by simp [eqGuard]
 simp only [execOp, hx, hy, Sem.run_bind, h3, h2, Result.andThen_ok]; rfl
end
theorem same_self (xs : List Int) : Nv.same xs xs = true := by simp [Nv.same]
theorem lSame (g : Geo) (d : Nv.D) (s : RefS) (m : Nat) (w : World) (hE : Ents (devL g d) w) (hr : RefOk w [] s d m) (hm : m ≤ 60000) :
  Calls Try.prog 56 [ptr g.p, .agg (refCells s d m).toArray].toArray w fun e w' => e = .returned (.bool true) ∧ Only [] w w' := by
 have HD := Heap.start hE
 have H := Heap.nil w
 obtain ⟨A0, c0, A1, c1, A2, c2, A3, c3, A4, c4, rf0⟩ := s
 have ho := hr.ok
 have hc := ho.hc
 have hl := ho.hl
 have hd := ho.hd
 have hLen := nLen g d
 have hLines := nLines g d
 rw [hc] at hLen
 rw [hd] at hLines
 have hDi := rDirty ⟨A0, c0, A1, c1, A2, c2, A3, c3, A4, c4, rf0⟩ d m
 have hdl := dirtyTo_len d.dirty m
 rw [refE] at hDi
 rw [refE]
 simp only at hDi ⊢
 refine k_in (N := 78) Try.func56 rfl rfl rfl ?_
 refine k_sg ?_
 refine s_box H rfl rfl ?_
 intro p3 _ H'; clear H; have H := H'; clear H'
 refine s_run rfl rfl (rab rfl) ?_
 refine k_nc ?_
 refine k_seq ?_
 refine k_seq ?_
 refine k_cut (fun f' W' => f' 0 = ptr g.p ∧ f' 3 = ptr p3 ∧ f' 51 = .bool false ∧ Heap w [] [blk p3 [.slice A0 m c0, .slice A1 m c1, .slice A2 m c2, .slice A3 m c3, .slice A4 m c4, .int .i64 d.steps, .int .i64 rf0, .bool d.dead] 55] W') ?_ ?_
 ·have HR := H; clear H; have H := HR.tree; refine k_tr mixed ?_
  refine tqn 0 rfl rfl rfl (fun _ hS => r_mv (v := .pointer _) rfl) H.only ?_
  refine tqn 2 rfl rfl rfl (fun _ hS => r_fa0 rfl fo55_0) H.only ?_
  refine tqn 3 rfl rfl rfl (fun _ hS => r_lo (HR.same hS) 0 rfl rfl rfl ag52) H.only ?_
  refine tqn 4 rfl rfl rfl (fun _ hS => r_len rfl Try.underlying52) H.only ?_
  refine tqn 5 rfl rfl rfl (fun _ hS => r_mul rfl rfl (wI (by omega))) H.only ?_
  refine t_up1 1 (by kernel_rfl) ?_
  refine up_mk rfl ?_
  refine s_call rfl (hLen _ (HD.same (HR.only.trans H.only)).ents) (ca24 rfl) ?_
  rintro e W1 ⟨rfl, H'⟩
  refine ⟨_, rfl, ?_⟩
  have H := H.same H'; clear H'
  refine k_nil ?_
  refine t_on H.only ?_
  refine tqn 6 rfl rfl rfl (fun _ hS => r_neqF rfl rfl (by omega)) H.only ?_
  refine tqn 7 rfl rfl rfl (fun _ hS => r_mv (v := .bool _) rfl) H.only ?_
  refine tqn 8 rfl rfl (g_on 13 (by kernel_rfl) rfl) (fun _ hS => r_mv (v := .pointer _) rfl) H.only ?_
  refine tqn 10 rfl rfl (g_on 13 (by kernel_rfl) rfl) (fun _ hS => r_fa0 rfl fo55_0) H.only ?_
  refine tqn 11 rfl rfl (g_on 13 (by kernel_rfl) rfl) (fun _ hS => r_lo (HR.same hS) 0 rfl rfl rfl ag52) H.only ?_
  refine tqn 12 rfl rfl (g_on 13 (by kernel_rfl) rfl) (fun _ hS => r_len rfl Try.underlying52) H.only ?_
  refine t_up1 9 (by kernel_rfl) ?_
  refine up_mk rfl ?_
  refine s_call (g_on 13 (by kernel_rfl) rfl) (hLines _ (HD.same (HR.only.trans H.only)).ents) (ca23 rfl) ?_
  rintro e W1 ⟨rfl, H'⟩
  refine ⟨_, rfl, ?_⟩
  have H := H.same H'; clear H'
  refine k_nil ?_
  refine t_on H.only ?_
  refine tqn 13 rfl rfl (g_on 13 (by kernel_rfl) rfl) (fun _ hS => r_neqF rfl rfl (by omega)) H.only ?_
  refine tqn 14 rfl rfl rfl (fun _ hS => r_pkF (v := .bool _) rfl rfl) H.only ?_
  refine tqn 15 rfl rfl rfl (fun _ hS => r_mv (v := .bool _) rfl) H.only ?_
  refine tqn 16 rfl rfl (g_on 21 (by kernel_rfl) rfl) (fun _ hS => r_mv (v := .pointer _) rfl) H.only ?_
  refine tqn 18 rfl rfl (g_on 21 (by kernel_rfl) rfl) (fun _ hS => r_fa0 rfl fo55_5) H.only ?_
  refine tqn 19 rfl rfl (g_on 21 (by kernel_rfl) rfl) (fun _ hS => r_lo (HR.same hS) 0 rfl rfl rfl ag3) H.only ?_
  refine t_up1 17 (by kernel_rfl) ?_
  refine up_mk rfl ?_
  refine s_call (g_on 21 (by kernel_rfl) rfl) (nSteps g d _ (HD.same (HR.only.trans H.only)).ents) (ca29 rfl) ?_
  rintro e W1 ⟨rfl, H'⟩
  refine ⟨_, rfl, ?_⟩
  have H := H.same H'; clear H'
  refine k_nil ?_
  refine t_on H.only ?_
  refine tqn 20 rfl rfl (g_on 21 (by kernel_rfl) rfl) (fun _ hS => r_neqF rfl rfl (by omega)) H.only ?_
  refine tqn 21 rfl rfl rfl (fun _ hS => r_pkF (v := .bool _) rfl rfl) H.only ?_
  refine tqn 22 rfl rfl rfl (fun _ hS => r_mv (v := .bool _) rfl) H.only ?_
  refine tqn 23 rfl rfl (g_on 28 (by kernel_rfl) rfl) (fun _ hS => r_mv (v := .pointer _) rfl) H.only ?_
  refine tqn 25 rfl rfl (g_on 28 (by kernel_rfl) rfl) (fun _ hS => r_fa0 rfl fo55_7) H.only ?_
  refine tqn 26 rfl rfl (g_on 28 (by kernel_rfl) rfl) (fun _ hS => r_lo (HR.same hS) 0 rfl rfl rfl ag4) H.only ?_
  refine t_up1 24 (by kernel_rfl) ?_
  refine up_mk rfl ?_
  refine s_call (g_on 28 (by kernel_rfl) rfl) (nDead g d _ (HD.same (HR.only.trans H.only)).ents) (ca28 rfl) ?_
  rintro e W1 ⟨rfl, H'⟩
  refine ⟨_, rfl, ?_⟩
  have H := H.same H'; clear H'
  refine k_nil ?_
  refine t_on H.only ?_
  refine tqn 27 rfl rfl (g_on 28 (by kernel_rfl) rfl) (fun _ hS => r_bneq rfl rfl rfl Try.underlying4) H.only ?_
  refine tqn 28 rfl rfl rfl (fun _ hS => r_pkF (v := .bool _) rfl rfl) H.only ?_
  refine tqn 29 rfl rfl rfl (fun _ hS => r_mv (v := .bool _) rfl) H.only ?_
  refine tqn 30 rfl rfl (g_on 35 (by kernel_rfl) rfl) (fun _ hS => r_mv (v := .pointer _) rfl) H.only ?_
  refine tqn 32 rfl rfl (g_on 35 (by kernel_rfl) rfl) (fun _ hS => r_la (HR.same hS) 0 rfl rfl rfl ag55 sz55) H.only ?_
  refine t_up1 31 (by kernel_rfl) ?_
  refine up_mk rfl ?_
  refine s_call (g_on 35 (by kernel_rfl) rfl) (nDirty' g d m _ (HD.same (HR.only.trans H.only)).ents ho (by omega)) (ca27 rfl) ?_
  rintro e W1 ⟨X1, y1, z1, rfl, hX1, H'⟩
  refine ⟨_, rfl, ?_⟩
  have H := H.more H'; clear H'; simp only [List.cons_append, List.nil_append] at H
  refine k_nil ?_
  refine t_on H.only ?_
  refine t_up1 33 (by kernel_rfl) ?_
  refine up_mk rfl ?_
  refine s_call (g_on 35 (by kernel_rfl) rfl) (hDi _ (hr.dirty.later (HR.only.trans H.only) (by simp)) hd (by omega)) (ca91 rfl) ?_
  rintro e W1 ⟨X2, y2, z2, rfl, hX2, H'⟩
  refine ⟨_, rfl, ?_⟩
  have H := H.more H'; clear H'; simp only [List.cons_append, List.nil_append] at H
  refine k_nil ?_
  refine t_on H.only ?_
  refine t_up1 34 (by kernel_rfl) ?_
  refine up_mk rfl ?_
  refine s_call (g_on 35 (by kernel_rfl) rfl) (rInts X1 X2 _ _ _ _ _ _ _ (fun h => ⟨y1, 0, hX1 h, by simp, H.reads0 1 rfl⟩) (fun h => ⟨y2, 0, hX2 h, by simp, H.reads0 0 rfl⟩) rfl rfl (by omega)) (ca90 rfl) ?_
  rintro e W1 ⟨rfl, H'⟩
  refine ⟨_, rfl, ?_⟩
  rw [same_self]; have H := H.same H'; clear H'
  refine k_nil ?_
  refine t_on H.only ?_
  refine tqn 35 rfl rfl (g_on 35 (by kernel_rfl) rfl) (fun _ hS => r_notT rfl) H.only ?_
  refine tqn 36 rfl rfl rfl (fun _ hS => r_pkF (v := .bool _) rfl rfl) H.only ?_
  refine tqn 37 rfl rfl rfl (fun _ hS => r_mv (v := .bool _) rfl) H.only ?_
  refine tqn 38 rfl rfl (g_on 43 (by kernel_rfl) rfl) (fun _ hS => r_mv (v := .pointer _) rfl) H.only ?_
  refine tqn 40 rfl rfl (g_on 43 (by kernel_rfl) rfl) (fun _ hS => r_fa0 rfl fo55_1) H.only ?_
  refine tqn 41 rfl rfl (g_on 43 (by kernel_rfl) rfl) (fun _ hS => r_lo (HR.same hS) 0 rfl rfl rfl ag52) H.only ?_
  refine t_up1 39 (by kernel_rfl) ?_
  refine up_mk rfl ?_
  refine s_call (g_on 43 (by kernel_rfl) rfl) (nAll g d m _ (HD.same (HR.only.trans H.only)).ents ho (by omega)) (ca47 rfl) ?_
  rintro e W1 ⟨y3, z3, rfl, _, H'⟩
  refine ⟨_, rfl, ?_⟩
  have H := H.more H'; clear H'; simp only [List.cons_append, List.nil_append] at H
  refine k_nil ?_
  refine t_on H.only ?_
  refine t_up1 42 (by kernel_rfl) ?_
  refine up_mk rfl ?_
  refine s_call (g_on 43 (by kernel_rfl) rfl) (rAll A1 m c1 d.last _ (hr.last.later (HR.only.trans H.only) (by simp)) hl (by omega)) (ca43 rfl) ?_
  rintro e W1 ⟨X4, y4, z4, rfl, hX4, H'⟩
  refine ⟨_, rfl, ?_⟩
  have H := H.more H'; clear H'; simp only [List.cons_append, List.nil_append] at H
  refine k_nil ?_
  refine t_on H.only ?_
  refine t_up1 43 (by kernel_rfl) ?_
  refine up_mk rfl ?_
  refine s_call (g_on 43 (by kernel_rfl) rfl) (rSame _ X4 _ _ _ _ _ _ _ (fun h => ⟨y3, 0, rfl, by simp, H.reads0 1 rfl⟩) (fun h => ⟨y4, 0, hX4 (by omega), by simp, H.reads0 0 rfl⟩) hl hl (by omega)) (ca42 rfl) ?_
  rintro e W1 ⟨rfl, H'⟩
  refine ⟨_, rfl, ?_⟩
  rw [same_self]; have H := H.same H'; clear H'
  refine k_nil ?_
  refine t_on H.only ?_
  refine tqn 44 rfl rfl (g_on 43 (by kernel_rfl) rfl) (fun _ hS => r_notT rfl) H.only ?_
  refine tqn 45 rfl rfl rfl (fun _ hS => r_pkF (v := .bool _) rfl rfl) H.only ?_
  refine t_done (by kernel_rfl) ?_
  have H := HR.more H; clear HR; simp only [List.cons_append, List.nil_append] at H
  refine k_met ?_
  exact ⟨rfl, rfl, rfl, H.drop.drop.drop.drop⟩
 clear H
 rintro f' W ⟨h0, h3, h51, H⟩
 obtain ⟨f', rfl⟩ := live3 h0 h3 h51
 clear h0 h3 h51
 refine c_norm ?_
 refine k_f rfl ?_
 refine k_skip ?_
 refine c_norm ?_
 refine k_seq ?_
 refine k_sg ?_
 refine s_run rfl rfl (rai rfl) ?_
 refine k_nc ?_
 refine k_b ?_
 refine k_loop (fun q f W => ∃ (k : Nat), k ≤ 8 * m ∧ q = 8 * m - k ∧ f 0 = ptr g.p ∧ f 3 = ptr p3 ∧ f 5 = .int .i64 k ∧ Heap w [] [blk p3 [.slice A0 m c0, .slice A1 m c1, .slice A2 m c2, .slice A3 m c3, .slice A4 m c4, .int .i64 d.steps, .int .i64 rf0, .bool d.dead] 55] W) (8 * m) ⟨0, by omega, rfl, rfl, rfl, rfl, H⟩ ?_
 clear H
 rintro q f W ⟨k, hk, rfl, h0, h3, h5, H⟩
 obtain ⟨f, rfl⟩ := live3 h0 h3 h5
 clear h0 h3 h5
 by_cases hlt : k < 8 * m
 ·refine k_seq ?_
  refine k_sg ?_
  refine s_run rfl rfl (rmi rfl) ?_
  refine s_run rfl rfl (r_fa0 rfl fo55_0) ?_
  refine s_run rfl rfl (r_lo H 0 rfl rfl rfl ag52) ?_
  refine s_run rfl rfl (r_len rfl Try.underlying52) ?_
  refine s_run rfl rfl (r_mul rfl rfl (wI (by omega))) ?_
  refine s_run rfl rfl (r_lssT rfl rfl (by omega)) ?_
  refine k_nc ?_
  refine k_t rfl ?_
  refine k_skip ?_
  refine c_norm ?_
  refine k_seq ?_
  refine k_b ?_
  refine k_seq ?_
  refine k_q mixed (by kernel_rfl) H ?_
  refine q_run rfl rfl (fun _ H => r_mv (v := .pointer _) rfl) ?_
  refine q_run rfl rfl (fun _ H => r_mv (v := .int _ _) rfl) ?_
  refine q_call rfl rfl (fun _ H => nGet g d k _ (HD.same H.only).ents) (ca25 rfl) ?_
  refine q_run rfl rfl (fun _ H => r_fa0 rfl fo55_0) ?_
  refine q_run rfl rfl (fun _ H => r_lo H 0 rfl rfl rfl ag52) ?_
  refine q_run rfl rfl (fun _ H => r_mv (v := .int _ _) rfl) ?_
  refine q_call rfl rfl (fun _ H => rGet A0 m c0 k d.cache _ (hr.now.later H.only (by simp)) hc (by omega)) (ca92 rfl) ?_
  refine q_run rfl rfl (fun _ H => r_neqF rfl rfl (by omega)) ?_
  refine q_run rfl rfl (fun _ H => r_mv (v := .bool _) rfl) ?_
  refine q_run rfl (g_on 68 (by kernel_rfl) rfl) (fun _ H => r_mv (v := .pointer _) rfl) ?_
  refine q_run rfl (g_on 68 (by kernel_rfl) rfl) (fun _ H => r_mv (v := .int _ _) rfl) ?_
  refine q_call rfl (g_on 68 (by kernel_rfl) rfl) (fun _ H => nLasting g d k _ (HD.same H.only).ents) (ca26 rfl) ?_
  refine q_run rfl (g_on 68 (by kernel_rfl) rfl) (fun _ H => r_fa0 rfl fo55_1) ?_
  refine q_run rfl (g_on 68 (by kernel_rfl) rfl) (fun _ H => r_lo H 0 rfl rfl rfl ag52) ?_
  refine q_run rfl (g_on 68 (by kernel_rfl) rfl) (fun _ H => r_mv (v := .int _ _) rfl) ?_
  refine q_call rfl (g_on 68 (by kernel_rfl) rfl) (fun _ H => rGet A1 m c1 k d.last _ (hr.last.later H.only (by simp)) hl (by omega)) (ca92 rfl) ?_
  refine q_run rfl (g_on 68 (by kernel_rfl) rfl) (fun _ H => r_neqF rfl rfl (by omega)) ?_
  refine q_run rfl rfl (fun _ H => r_pkF (v := .bool _) rfl rfl) ?_
  refine q_nil ?_
  intro _ H'; clear H; have H := H'; clear H'
  refine c_norm ?_
  refine k_f rfl ?_
  refine k_skip ?_
  refine b_norm ?_
  refine c_norm ?_
  refine k_rg ?_
  refine s_run rfl rfl (rmi rfl) ?_
  refine s_run rfl rfl (r_add rfl rfl (wI (by omega))) ?_
  refine s_run rfl rfl (rai rfl) ?_
  refine k_nil ?_
  refine c_round ?_
  refine ⟨_, _, ?_, rfl, k + 1, by omega, rfl, rfl, rfl, rfl, H⟩
  omega
 ·refine k_seq ?_
  refine k_sg ?_
  refine s_run rfl rfl (rmi rfl) ?_
  refine s_run rfl rfl (r_fa0 rfl fo55_0) ?_
  refine s_run rfl rfl (r_lo H 0 rfl rfl rfl ag52) ?_
  refine s_run rfl rfl (r_len rfl Try.underlying52) ?_
  refine s_run rfl rfl (r_mul rfl rfl (wI (by omega))) ?_
  refine s_run rfl rfl (r_lssF rfl rfl (by omega)) ?_
  refine k_nc ?_
  refine k_f rfl ?_
  refine k_exit ?_
  refine c_exit ?_
  refine c_exit ?_
  refine b_hit ?_
  refine c_norm ?_
  refine k_sg ?_
  refine s_run rfl rfl (rab rfl) ?_
  refine k_nc ?_
  refine k_ret ?_
  refine fin1r (v := .bool _) rfl rfl ?_
  exact ⟨rfl, H.only⟩
end Go.Proofs.Ytmekhdclnhhhbaa
end

section
namespace Go.Proofs.Ytmekhdclnhhhbaa
open Go.RowKit
/-- values of one cell -/
inductive C1 where
 | i (k : IntKind) (z : Int)
 | b (q : Bool)
 | s (A : Option Addr) (n c : Nat)
 | p (A : Option Addr)
def C1.v : C1 → Value
 | .i k z => .int k z
 | .b q => .bool q
 | .s A n c => .slice A n c
 | .p A => .pointer A
theorem C1.one (x : C1) : x.v.oneCell' = true := by cases x <;> rfl
theorem Sees.row {α : Type} {enc : α → Value} {w : World} {F : List Nat} {A : Option Addr} {n : Nat} {xs : List α} (h : Sees enc w F A xs) (hl : xs.length = n) : RowAt w w.heap.size A n (xs.map enc) :=
 ⟨by simpa using hl, fun h0 => by
  obtain ⟨b, o, rfl, _, hr⟩ := h (by omega)
  refine ⟨b, o, rfl, ?_, fun j u hu => ?_⟩
  ·have := hr 0 xs[0] (List.getElem?_eq_getElem (by omega))
   exact cell_lt this
  ·rw [List.getElem?_map] at hu
   cases hj : xs[j]? with
   | none => rw [hj] at hu; cases hu
   | some z => rw [hj] at hu; rw [hr j z hj]; simpa using hu⟩
section
variable {P : Program} {n : Nat} {f : Nat → Value} {W w0 : World} {dst : Option Tmp} {ty : TypeId} {pos : String} {af : Array Edge} {g : Option (Nat × Bool)} {x y : Operand} {t t2 e : TypeId} {v : Value}
end
section
variable {P : Program} {ops : Array Oper} {rest : List Oper} {n k k2 : Nat} {f : Nat → Value} {W w0 : World} {F : List Nat} {L : List Ent} {Q : Exit → Act → World → Prop} {ty ty2 : TypeId} {pos pos2 : String} {af af2 : Array Edge} {g : Option (Nat × Bool)} {x y s : Operand} {v u : Value} {t e : TypeId}
/-- []T{a, b, ..} of one-cell values -/
theorem s_bsO {α : Type} {enc : α → Value} {zs : List α} {z0 : Value} {bytes m : Nat} {parts : Array (Nat × Operand)} {vs : List (Nat × Value)} (H : Heap w0 F L W)
  (hw : Region.wanted ⟨some k, .buildSlice t m parts, ty, pos, af, g⟩ (yl n f ops) = true) (hv : parts.toList.map (fun p => (p.1, ev n f p.2)) = vs) (hl : zs.length = m) (hm : 0 < m ∧ m ≤ 1000)
  (hfill : Instr.fill (fun i => some (i * 1, 1)) ((Array.range m).map (z0.cells[· % z0.cells.size]!)) vs = some (zs.map enc).toArray)
  (ht : P.underlying t = some (.slice e)) (hi : Inf P e z0 1 bytes)
  (h : ∀ p W', Heap w0 F (ownN 1 (.slice (some ⟨p, 0, none⟩) m m) m (zs.map enc) e :: L) W' → SL P ops Q rest n (upd f k (.slice (some ⟨p, 0, none⟩) m m)) W') : SL P ops Q (⟨some k, .buildSlice t m parts, ty, pos, af, g⟩ :: rest) n f W := by
 obtain ⟨i, hi0, hz0, hsz, hby⟩ := hi.ex
 have hbig : ¬ (m * 1 > 2 ^ 24) := by omega
 have hne : ¬ (m * 1 = 0) := by omega
 have r1 : (Instr.buildSlice t m vs.toArray).run P W = .ok (.slice (some ⟨W.heap.size, 0, none⟩) m m) (W.alloc (.cells (zs.map enc).toArray e)) := by
  have hz1 : (zeroValue e).run P W = .ok z0 W := by simp [zeroValue, typeInfo, hi0, hz0]
  have hs1 : (Go.sizeOf e).run P W = .ok 1 W := by simp [Go.sizeOf, typeInfo, hi0, hsz]
  simp only [Instr.buildSlice, Sem.run_bind, run_underlying ht, Result.andThen_ok, hs1, hbig, if_false, hne, hz1, Sem.run_pure]
  rw [show (m * 1) = m from by omega]
  simp only [hfill]
  rfl
 have r2 : (execOp (ev n f) ⟨some k, .buildSlice t m parts, ty, pos, af, g⟩).run P W = .ok (.value (.slice (some ⟨W.heap.size, 0, none⟩) m m)) (W.alloc (.cells (zs.map enc).toArray e)) := by
  have hp : parts.map (fun p => (p.1, ev n f p.2)) = vs.toArray := by
   apply Array.toList_inj.1
   rw [Array.toList_map, hv]
  simp only [execOp, hp, Sem.run_bind, r1, Result.andThen_ok]; rfl
 refine s_run rfl hw r2 (h _ _ ?_)
 have hzl : (zs.map enc).length = m := by simpa using hl
 refine H.more (A := [ownN 1 (.slice (some ⟨W.heap.size, 0, none⟩) m m) m (zs.map enc) e]) ⟨?_, by simp [ids, ownN, Value.ownBlock], by simp [ids, ownN, Value.ownBlock], Only.of_below ((Below.refl _ _).alloc (Nat.le_refl _) _) _⟩
 intro E hE; rw [List.mem_singleton.1 hE]
 exact ⟨by simpa using hzl, .inr ⟨_, m, _, rfl, Nat.zero_le _, heap_alloc_new W _, Nat.le_refl _, by unfold maxLen; omega, by simpa using hzl, by rw [Nat.mul_one]; exact List.take_of_length_le (Nat.le_of_eq hzl)⟩⟩
end
end Go.Proofs.Ytmekhdclnhhhbaa
end

section
namespace Go.Proofs.Ytmekhdclnhhhbaa
open Go.RowKit
theorem lv7 {f : Nat → Value} {k1 k2 k3 k4 k5 k6 k7 : Nat} {v1 v2 v3 v4 v5 v6 v7 : Value} (h1 : f k1 = v1) (h2 : f k2 = v2) (h3 : f k3 = v3) (h4 : f k4 = v4) (h5 : f k5 = v5) (h6 : f k6 = v6) (h7 : f k7 = v7) : ∃ g, f = upd (upd (upd (upd (upd (upd (upd g k1 v1) k2 v2) k3 v3) k4 v4) k5 v5) k6 v6) k7 v7 := ⟨f, by rw [upd_same h1, upd_same h2, upd_same h3, upd_same h4, upd_same h5, upd_same h6, upd_same h7]⟩
section
variable {P : Program} {W : World}
end
section
variable {P : Program} {n : Nat} {f : Nat → Value} {W w0 : World} {dst : Option Tmp} {ty : TypeId} {pos : String} {af : Array Edge} {g : Option (Nat × Bool)} {x y : Operand} {t t2 e : TypeId} {v : Value} {k k2 : IntKind} {a b : Int}
/-- s[lo:] -/
theorem r_slo {p o l c : Nat} {lo : Operand} {i m : Nat} (hx : ev n f x = .slice (some ⟨p, o, none⟩) l c) (hl : ev n f lo = .int k a) (ha : a = (i : Int)) (hi : i ≤ l) (h : P.underlying t = some (.slice e)) (hm : ∀ W, (Go.sizeOf e).run P W = .ok m W) :
  (execOp (ev n f) ⟨dst, .slice t x (some lo) none none, ty, pos, af, g⟩).run P W = .ok (.value (.slice (some (if c = i then ⟨p, o, none⟩ else ⟨p, o + i * m, none⟩)) (l - i) (c - i))) W := by
 subst ha
 have h1 : (0 : Int) ≤ i ∧ (i : Int) ≤ l := by omega
 simp only [execOp, Instr.sliceAt, Instr.slice, Instr.sliceBounds, Instr.sliceBound, hx, hl, asIntOf, Option.map_some, Option.map_none, Sem.run_bind, run_underlying h, Result.andThen_ok, Sem.run_pure, h1, and_self, if_true, hm, Int.toNat_natCast, add_plain]
 split <;> rfl
end
section
variable {P : Program} {ops : Array Oper} {rest : List Oper} {n k k2 : Nat} {f : Nat → Value} {W w0 : World} {F : List Nat} {L : List Ent} {Q : Exit → Act → World → Prop} {ty ty2 : TypeId} {pos pos2 : String} {af af2 : Array Edge} {g : Option (Nat × Bool)} {x y s : Operand} {v u : Value} {t tn e : TypeId}
end
end Go.Proofs.Ytmekhdclnhhhbaa
end

section
namespace Go.Proofs.Ytmekhdclnhhhbaa
open Go.RowKit
end Go.Proofs.Ytmekhdclnhhhbaa
end

section
namespace Go.Proofs.Ytmekhdclnhhhbaa
open Go.RowKit
set_option maxHeartbeats 400000
theorem tab_i0 (w : World) : (Instr.index 172 (.agg #[.int .u32 0, .int .u32 498536548, .int .u32 997073096, .int .u32 651767980, .int .u32 1994146192, .int .u32 1802195444, .int .u32 1303535960, .int .u32 1342533948, .int .u32 3988292384, .int .u32 4027552580, .int .u32 3604390888, .int .u32 3412177804, .int .u32 2607071920, .int .u32 2262029012, .int .u32 2685067896, .int .u32 3183342108]) (.int .u8 0)).run Try.prog w = .ok (.int .u32 0) w := by kernel_rfl
theorem tab_i1 (w : World) : (Instr.index 172 (.agg #[.int .u32 0, .int .u32 498536548, .int .u32 997073096, .int .u32 651767980, .int .u32 1994146192, .int .u32 1802195444, .int .u32 1303535960, .int .u32 1342533948, .int .u32 3988292384, .int .u32 4027552580, .int .u32 3604390888, .int .u32 3412177804, .int .u32 2607071920, .int .u32 2262029012, .int .u32 2685067896, .int .u32 3183342108]) (.int .u8 1)).run Try.prog w = .ok (.int .u32 498536548) w := by kernel_rfl
theorem tab_i2 (w : World) : (Instr.index 172 (.agg #[.int .u32 0, .int .u32 498536548, .int .u32 997073096, .int .u32 651767980, .int .u32 1994146192, .int .u32 1802195444, .int .u32 1303535960, .int .u32 1342533948, .int .u32 3988292384, .int .u32 4027552580, .int .u32 3604390888, .int .u32 3412177804, .int .u32 2607071920, .int .u32 2262029012, .int .u32 2685067896, .int .u32 3183342108]) (.int .u8 2)).run Try.prog w = .ok (.int .u32 997073096) w := by kernel_rfl
theorem tab_i3 (w : World) : (Instr.index 172 (.agg #[.int .u32 0, .int .u32 498536548, .int .u32 997073096, .int .u32 651767980, .int .u32 1994146192, .int .u32 1802195444, .int .u32 1303535960, .int .u32 1342533948, .int .u32 3988292384, .int .u32 4027552580, .int .u32 3604390888, .int .u32 3412177804, .int .u32 2607071920, .int .u32 2262029012, .int .u32 2685067896, .int .u32 3183342108]) (.int .u8 3)).run Try.prog w = .ok (.int .u32 651767980) w := by kernel_rfl
theorem tab_i4 (w : World) : (Instr.index 172 (.agg #[.int .u32 0, .int .u32 498536548, .int .u32 997073096, .int .u32 651767980, .int .u32 1994146192, .int .u32 1802195444, .int .u32 1303535960, .int .u32 1342533948, .int .u32 3988292384, .int .u32 4027552580, .int .u32 3604390888, .int .u32 3412177804, .int .u32 2607071920, .int .u32 2262029012, .int .u32 2685067896, .int .u32 3183342108]) (.int .u8 4)).run Try.prog w = .ok (.int .u32 1994146192) w := by kernel_rfl
theorem tab_i5 (w : World) : (Instr.index 172 (.agg #[.int .u32 0, .int .u32 498536548, .int .u32 997073096, .int .u32 651767980, .int .u32 1994146192, .int .u32 1802195444, .int .u32 1303535960, .int .u32 1342533948, .int .u32 3988292384, .int .u32 4027552580, .int .u32 3604390888, .int .u32 3412177804, .int .u32 2607071920, .int .u32 2262029012, .int .u32 2685067896, .int .u32 3183342108]) (.int .u8 5)).run Try.prog w = .ok (.int .u32 1802195444) w := by kernel_rfl
theorem tab_i6 (w : World) : (Instr.index 172 (.agg #[.int .u32 0, .int .u32 498536548, .int .u32 997073096, .int .u32 651767980, .int .u32 1994146192, .int .u32 1802195444, .int .u32 1303535960, .int .u32 1342533948, .int .u32 3988292384, .int .u32 4027552580, .int .u32 3604390888, .int .u32 3412177804, .int .u32 2607071920, .int .u32 2262029012, .int .u32 2685067896, .int .u32 3183342108]) (.int .u8 6)).run Try.prog w = .ok (.int .u32 1303535960) w := by kernel_rfl
theorem tab_i7 (w : World) : (Instr.index 172 (.agg #[.int .u32 0, .int .u32 498536548, .int .u32 997073096, .int .u32 651767980, .int .u32 1994146192, .int .u32 1802195444, .int .u32 1303535960, .int .u32 1342533948, .int .u32 3988292384, .int .u32 4027552580, .int .u32 3604390888, .int .u32 3412177804, .int .u32 2607071920, .int .u32 2262029012, .int .u32 2685067896, .int .u32 3183342108]) (.int .u8 7)).run Try.prog w = .ok (.int .u32 1342533948) w := by kernel_rfl
theorem tab_i8 (w : World) : (Instr.index 172 (.agg #[.int .u32 0, .int .u32 498536548, .int .u32 997073096, .int .u32 651767980, .int .u32 1994146192, .int .u32 1802195444, .int .u32 1303535960, .int .u32 1342533948, .int .u32 3988292384, .int .u32 4027552580, .int .u32 3604390888, .int .u32 3412177804, .int .u32 2607071920, .int .u32 2262029012, .int .u32 2685067896, .int .u32 3183342108]) (.int .u8 8)).run Try.prog w = .ok (.int .u32 3988292384) w := by kernel_rfl
theorem tab_i9 (w : World) : (Instr.index 172 (.agg #[.int .u32 0, .int .u32 498536548, .int .u32 997073096, .int .u32 651767980, .int .u32 1994146192, .int .u32 1802195444, .int .u32 1303535960, .int .u32 1342533948, .int .u32 3988292384, .int .u32 4027552580, .int .u32 3604390888, .int .u32 3412177804, .int .u32 2607071920, .int .u32 2262029012, .int .u32 2685067896, .int .u32 3183342108]) (.int .u8 9)).run Try.prog w = .ok (.int .u32 4027552580) w := by kernel_rfl
theorem tab_i10 (w : World) : (Instr.index 172 (.agg #[.int .u32 0, .int .u32 498536548, .int .u32 997073096, .int .u32 651767980, .int .u32 1994146192, .int .u32 1802195444, .int .u32 1303535960, .int .u32 1342533948, .int .u32 3988292384, .int .u32 4027552580, .int .u32 3604390888, .int .u32 3412177804, .int .u32 2607071920, .int .u32 2262029012, .int .u32 2685067896, .int .u32 3183342108]) (.int .u8 10)).run Try.prog w = .ok (.int .u32 3604390888) w := by kernel_rfl
theorem tab_i11 (w : World) : (Instr.index 172 (.agg #[.int .u32 0, .int .u32 498536548, .int .u32 997073096, .int .u32 651767980, .int .u32 1994146192, .int .u32 1802195444, .int .u32 1303535960, .int .u32 1342533948, .int .u32 3988292384, .int .u32 4027552580, .int .u32 3604390888, .int .u32 3412177804, .int .u32 2607071920, .int .u32 2262029012, .int .u32 2685067896, .int .u32 3183342108]) (.int .u8 11)).run Try.prog w = .ok (.int .u32 3412177804) w := by kernel_rfl
theorem tab_i12 (w : World) : (Instr.index 172 (.agg #[.int .u32 0, .int .u32 498536548, .int .u32 997073096, .int .u32 651767980, .int .u32 1994146192, .int .u32 1802195444, .int .u32 1303535960, .int .u32 1342533948, .int .u32 3988292384, .int .u32 4027552580, .int .u32 3604390888, .int .u32 3412177804, .int .u32 2607071920, .int .u32 2262029012, .int .u32 2685067896, .int .u32 3183342108]) (.int .u8 12)).run Try.prog w = .ok (.int .u32 2607071920) w := by kernel_rfl
theorem tab_i13 (w : World) : (Instr.index 172 (.agg #[.int .u32 0, .int .u32 498536548, .int .u32 997073096, .int .u32 651767980, .int .u32 1994146192, .int .u32 1802195444, .int .u32 1303535960, .int .u32 1342533948, .int .u32 3988292384, .int .u32 4027552580, .int .u32 3604390888, .int .u32 3412177804, .int .u32 2607071920, .int .u32 2262029012, .int .u32 2685067896, .int .u32 3183342108]) (.int .u8 13)).run Try.prog w = .ok (.int .u32 2262029012) w := by kernel_rfl
theorem tab_i14 (w : World) : (Instr.index 172 (.agg #[.int .u32 0, .int .u32 498536548, .int .u32 997073096, .int .u32 651767980, .int .u32 1994146192, .int .u32 1802195444, .int .u32 1303535960, .int .u32 1342533948, .int .u32 3988292384, .int .u32 4027552580, .int .u32 3604390888, .int .u32 3412177804, .int .u32 2607071920, .int .u32 2262029012, .int .u32 2685067896, .int .u32 3183342108]) (.int .u8 14)).run Try.prog w = .ok (.int .u32 2685067896) w := by kernel_rfl
theorem tab_i15 (w : World) : (Instr.index 172 (.agg #[.int .u32 0, .int .u32 498536548, .int .u32 997073096, .int .u32 651767980, .int .u32 1994146192, .int .u32 1802195444, .int .u32 1303535960, .int .u32 1342533948, .int .u32 3988292384, .int .u32 4027552580, .int .u32 3604390888, .int .u32 3412177804, .int .u32 2607071920, .int .u32 2262029012, .int .u32 2685067896, .int .u32 3183342108]) (.int .u8 15)).run Try.prog w = .ok (.int .u32 3183342108) w := by kernel_rfl
theorem table_at0 (i : Int) (w : World) (h1 : 0 ≤ i) (h2 : i ≤ 255) (hc : i % 16 = 0) :
  Calls Try.prog 126 #[.int .u8 i] w fun e w' => e = .returned (.int .u32 (Cr.tabI i)) ∧ w = w' := by
 have hb : bits .and .u8 i 15 = 0 := by rw [u8_and15 (x := i) h1 (by omega), hc]
 have hv : Cr.tabI i = 0 := by unfold Cr.tabI; rw [hc]; decide
 have hx := tab_i0
 rw [hv]
 clear hv hc
 go_enter Try.func126, Try.ntmps126
 go_wp2_with fail
 go_ret
 exact ⟨rfl, rfl⟩
theorem table_at1 (i : Int) (w : World) (h1 : 0 ≤ i) (h2 : i ≤ 255) (hc : i % 16 = 1) :
  Calls Try.prog 126 #[.int .u8 i] w fun e w' => e = .returned (.int .u32 (Cr.tabI i)) ∧ w = w' := by
 have hb : bits .and .u8 i 15 = 1 := by rw [u8_and15 (x := i) h1 (by omega), hc]
 have hv : Cr.tabI i = 498536548 := by unfold Cr.tabI; rw [hc]; decide
 have hx := tab_i1
 rw [hv]
 clear hv hc
 go_enter Try.func126, Try.ntmps126
 go_wp2_with fail
 go_ret
 exact ⟨rfl, rfl⟩
theorem table_at2 (i : Int) (w : World) (h1 : 0 ≤ i) (h2 : i ≤ 255) (hc : i % 16 = 2) :
  Calls Try.prog 126 #[.int .u8 i] w fun e w' => e = .returned (.int .u32 (Cr.tabI i)) ∧ w = w' := by
 have hb : bits .and .u8 i 15 = 2 := by rw [u8_and15 (x := i) h1 (by omega), hc]
 have hv : Cr.tabI i = 997073096 := by unfold Cr.tabI; rw [hc]; decide
 have hx := tab_i2
 rw [hv]
 clear hv hc
 go_enter Try.func126, Try.ntmps126
 go_wp2_with fail
 go_ret
 exact ⟨rfl, rfl⟩
theorem table_at3 (i : Int) (w : World) (h1 : 0 ≤ i) (h2 : i ≤ 255) (hc : i % 16 = 3) :
  Calls Try.prog 126 #[.int .u8 i] w fun e w' => e = .returned (.int .u32 (Cr.tabI i)) ∧ w = w' := by
 have hb : bits .and .u8 i 15 = 3 := by rw [u8_and15 (x := i) h1 (by omega), hc]
 have hv : Cr.tabI i = 651767980 := by unfold Cr.tabI; rw [hc]; decide
 have hx := tab_i3
 rw [hv]
 clear hv hc
 go_enter Try.func126, Try.ntmps126
 go_wp2_with fail
 go_ret
 exact ⟨rfl, rfl⟩
theorem table_at4 (i : Int) (w : World) (h1 : 0 ≤ i) (h2 : i ≤ 255) (hc : i % 16 = 4) :
  Calls Try.prog 126 #[.int .u8 i] w fun e w' => e = .returned (.int .u32 (Cr.tabI i)) ∧ w = w' := by
 have hb : bits .and .u8 i 15 = 4 := by rw [u8_and15 (x := i) h1 (by omega), hc]
 have hv : Cr.tabI i = 1994146192 := by unfold Cr.tabI; rw [hc]; decide
 have hx := tab_i4
 rw [hv]
 clear hv hc
 go_enter Try.func126, Try.ntmps126
 go_wp2_with fail
 go_ret
 exact ⟨rfl, rfl⟩
theorem table_at5 (i : Int) (w : World) (h1 : 0 ≤ i) (h2 : i ≤ 255) (hc : i % 16 = 5) :
  Calls Try.prog 126 #[.int .u8 i] w fun e w' => e = .returned (.int .u32 (Cr.tabI i)) ∧ w = w' := by
 have hb : bits .and .u8 i 15 = 5 := by rw [u8_and15 (x := i) h1 (by omega), hc]
 have hv : Cr.tabI i = 1802195444 := by unfold Cr.tabI; rw [hc]; decide
 have hx := tab_i5
 rw [hv]
 clear hv hc
 go_enter Try.func126, Try.ntmps126
 go_wp2_with fail
 go_ret
 exact ⟨rfl, rfl⟩
theorem table_at6 (i : Int) (w : World) (h1 : 0 ≤ i) (h2 : i ≤ 255) (hc : i % 16 = 6) :
  Calls Try.prog 126 #[.int .u8 i] w fun e w' => e = .returned (.int .u32 (Cr.tabI i)) ∧ w = w' := by
 have hb : bits .and .u8 i 15 = 6 := by rw [u8_and15 (x := i) h1 (by omega), hc]
 have hv : Cr.tabI i = 1303535960 := by unfold Cr.tabI; rw [hc]; decide
 have hx := tab_i6
 rw [hv]
 clear hv hc
 go_enter Try.func126, Try.ntmps126
 go_wp2_with fail
 go_ret
 exact ⟨rfl, rfl⟩
theorem table_at7 (i : Int) (w : World) (h1 : 0 ≤ i) (h2 : i ≤ 255) (hc : i % 16 = 7) :
  Calls Try.prog 126 #[.int .u8 i] w fun e w' => e = .returned (.int .u32 (Cr.tabI i)) ∧ w = w' := by
 have hb : bits .and .u8 i 15 = 7 := by rw [u8_and15 (x := i) h1 (by omega), hc]
 have hv : Cr.tabI i = 1342533948 := by unfold Cr.tabI; rw [hc]; decide
 have hx := tab_i7
 rw [hv]
 clear hv hc
 go_enter Try.func126, Try.ntmps126
 go_wp2_with fail
 go_ret
 exact ⟨rfl, rfl⟩
theorem table_at8 (i : Int) (w : World) (h1 : 0 ≤ i) (h2 : i ≤ 255) (hc : i % 16 = 8) :
  Calls Try.prog 126 #[.int .u8 i] w fun e w' => e = .returned (.int .u32 (Cr.tabI i)) ∧ w = w' := by
 have hb : bits .and .u8 i 15 = 8 := by rw [u8_and15 (x := i) h1 (by omega), hc]
 have hv : Cr.tabI i = 3988292384 := by unfold Cr.tabI; rw [hc]; decide
 have hx := tab_i8
 rw [hv]
 clear hv hc
 go_enter Try.func126, Try.ntmps126
 go_wp2_with fail
 go_ret
 exact ⟨rfl, rfl⟩
theorem table_at9 (i : Int) (w : World) (h1 : 0 ≤ i) (h2 : i ≤ 255) (hc : i % 16 = 9) :
  Calls Try.prog 126 #[.int .u8 i] w fun e w' => e = .returned (.int .u32 (Cr.tabI i)) ∧ w = w' := by
 have hb : bits .and .u8 i 15 = 9 := by rw [u8_and15 (x := i) h1 (by omega), hc]
 have hv : Cr.tabI i = 4027552580 := by unfold Cr.tabI; rw [hc]; decide
 have hx := tab_i9
 rw [hv]
 clear hv hc
 go_enter Try.func126, Try.ntmps126
 go_wp2_with fail
 go_ret
 exact ⟨rfl, rfl⟩
theorem table_at10 (i : Int) (w : World) (h1 : 0 ≤ i) (h2 : i ≤ 255) (hc : i % 16 = 10) :
  Calls Try.prog 126 #[.int .u8 i] w fun e w' => e = .returned (.int .u32 (Cr.tabI i)) ∧ w = w' := by
 have hb : bits .and .u8 i 15 = 10 := by rw [u8_and15 (x := i) h1 (by omega), hc]
 have hv : Cr.tabI i = 3604390888 := by unfold Cr.tabI; rw [hc]; decide
 have hx := tab_i10
 rw [hv]
 clear hv hc
 go_enter Try.func126, Try.ntmps126
 go_wp2_with fail
 go_ret
 exact ⟨rfl, rfl⟩
theorem table_at11 (i : Int) (w : World) (h1 : 0 ≤ i) (h2 : i ≤ 255) (hc : i % 16 = 11) :
  Calls Try.prog 126 #[.int .u8 i] w fun e w' => e = .returned (.int .u32 (Cr.tabI i)) ∧ w = w' := by
 have hb : bits .and .u8 i 15 = 11 := by rw [u8_and15 (x := i) h1 (by omega), hc]
 have hv : Cr.tabI i = 3412177804 := by unfold Cr.tabI; rw [hc]; decide
 have hx := tab_i11
 rw [hv]
 clear hv hc
 go_enter Try.func126, Try.ntmps126
 go_wp2_with fail
 go_ret
 exact ⟨rfl, rfl⟩
theorem table_at12 (i : Int) (w : World) (h1 : 0 ≤ i) (h2 : i ≤ 255) (hc : i % 16 = 12) :
  Calls Try.prog 126 #[.int .u8 i] w fun e w' => e = .returned (.int .u32 (Cr.tabI i)) ∧ w = w' := by
 have hb : bits .and .u8 i 15 = 12 := by rw [u8_and15 (x := i) h1 (by omega), hc]
 have hv : Cr.tabI i = 2607071920 := by unfold Cr.tabI; rw [hc]; decide
 have hx := tab_i12
 rw [hv]
 clear hv hc
 go_enter Try.func126, Try.ntmps126
 go_wp2_with fail
 go_ret
 exact ⟨rfl, rfl⟩
theorem table_at13 (i : Int) (w : World) (h1 : 0 ≤ i) (h2 : i ≤ 255) (hc : i % 16 = 13) :
  Calls Try.prog 126 #[.int .u8 i] w fun e w' => e = .returned (.int .u32 (Cr.tabI i)) ∧ w = w' := by
 have hb : bits .and .u8 i 15 = 13 := by rw [u8_and15 (x := i) h1 (by omega), hc]
 have hv : Cr.tabI i = 2262029012 := by unfold Cr.tabI; rw [hc]; decide
 have hx := tab_i13
 rw [hv]
 clear hv hc
 go_enter Try.func126, Try.ntmps126
 go_wp2_with fail
 go_ret
 exact ⟨rfl, rfl⟩
theorem table_at14 (i : Int) (w : World) (h1 : 0 ≤ i) (h2 : i ≤ 255) (hc : i % 16 = 14) :
  Calls Try.prog 126 #[.int .u8 i] w fun e w' => e = .returned (.int .u32 (Cr.tabI i)) ∧ w = w' := by
 have hb : bits .and .u8 i 15 = 14 := by rw [u8_and15 (x := i) h1 (by omega), hc]
 have hv : Cr.tabI i = 2685067896 := by unfold Cr.tabI; rw [hc]; decide
 have hx := tab_i14
 rw [hv]
 clear hv hc
 go_enter Try.func126, Try.ntmps126
 go_wp2_with fail
 go_ret
 exact ⟨rfl, rfl⟩
theorem table_at15 (i : Int) (w : World) (h1 : 0 ≤ i) (h2 : i ≤ 255) (hc : i % 16 = 15) :
  Calls Try.prog 126 #[.int .u8 i] w fun e w' => e = .returned (.int .u32 (Cr.tabI i)) ∧ w = w' := by
 have hb : bits .and .u8 i 15 = 15 := by rw [u8_and15 (x := i) h1 (by omega), hc]
 have hv : Cr.tabI i = 3183342108 := by unfold Cr.tabI; rw [hc]; decide
 have hx := tab_i15
 rw [hv]
 clear hv hc
 go_enter Try.func126, Try.ntmps126
 go_wp2_with fail
 go_ret
 exact ⟨rfl, rfl⟩
theorem table_any (i : Int) (w : World) (h1 : 0 ≤ i) (h2 : i ≤ 255) :
  Calls Try.prog 126 #[.int .u8 i] w fun e w' => e = .returned (.int .u32 (Cr.tabI i)) ∧ w = w' := by
 rcases (show i % 16 = 0 ∨ i % 16 = 1 ∨ i % 16 = 2 ∨ i % 16 = 3 ∨ i % 16 = 4 ∨ i % 16 = 5 ∨ i % 16 = 6 ∨ i % 16 = 7 ∨ i % 16 = 8 ∨ i % 16 = 9 ∨ i % 16 = 10 ∨ i % 16 = 11 ∨ i % 16 = 12 ∨ i % 16 = 13 ∨ i % 16 = 14 ∨ i % 16 = 15 from by omega) with
  h | h | h | h | h | h | h | h | h | h | h | h | h | h | h | h
 ·exact table_at0 i w h1 h2 h
 ·exact table_at1 i w h1 h2 h
 ·exact table_at2 i w h1 h2 h
 ·exact table_at3 i w h1 h2 h
 ·exact table_at4 i w h1 h2 h
 ·exact table_at5 i w h1 h2 h
 ·exact table_at6 i w h1 h2 h
 ·exact table_at7 i w h1 h2 h
 ·exact table_at8 i w h1 h2 h
 ·exact table_at9 i w h1 h2 h
 ·exact table_at10 i w h1 h2 h
 ·exact table_at11 i w h1 h2 h
 ·exact table_at12 i w h1 h2 h
 ·exact table_at13 i w h1 h2 h
 ·exact table_at14 i w h1 h2 h
 ·exact table_at15 i w h1 h2 h
end Go.Proofs.Ytmekhdclnhhhbaa
end

section
namespace Go.Proofs.Ytmekhdclnhhhbaa
open Go.RowKit
set_option maxHeartbeats 400000
theorem more_any (s : Int) (A : Option Addr) (len cap : Nat) (xs : List Int) (B : Nat) (w : World) (h1 : 0 ≤ s) (h2 : s ≤ 4294967295) (hr : RowAt w B A len (xs.map (Value.int .u8))) (hi : Ints .u8 xs) (hl : len ≤ 9223372036854775807) :
  Calls Try.prog 121 #[.int .u32 s, .slice A len cap] w fun e w' => e = .returned (.int .u32 (Cr.more s xs)) ∧ w = w' := by
 have hb : ∀ b ∈ xs, 0 ≤ b ∧ b ≤ 255 := fun b hb => bounds_u8 (hi b hb)
 have HB := Lib.hid hb
 have HI := Lib.hid hi
 have HR := Lib.hid hr
 have hlen : xs.length = len := by simpa using hr.1
 have HL := Lib.hid hlen
 clear hb hi hr hlen
 have hn := Cr.not_code s h1 h2
 have hfin := Lib.hid (Cr.more_code s xs h1 h2 HB.out)
 go_enter Try.func121, Try.ntmps121
 go_wp2_with fail
 go_loop [0, 6, 11] (fun s' _u t => ∃ j : Nat, j ≤ len ∧ t = .int .i64 j ∧ s' = .int .u32 (Cr.run (4294967295 - s) (xs.take j))) (fun _ _ t => len - (intOf t).toNat)
 case atStart => exact ⟨0, by omega, rfl, rfl⟩
 case round =>
  obtain ⟨j, hj, rfl, rfl⟩ := hrel
  have hbd := Cr.run_bd (xs.take j) (4294967295 - s) (by omega) (by omega) (fun b hb => HB.out b (List.mem_of_mem_take hb))
  by_cases hlt : j < len
  ·obtain ⟨b, off, z, rfl, hbl, hz, hwz, hc⟩ := HR.out.int HI.out hlt
   have hzb := bounds_u8 hwz
   have HN := Lib.hid (Cr.run_snoc (4294967295 - s) (xs.take j) z)
   have HT := Lib.hid (take_succ_of hz)
   clear hz hwz
   generalize Cr.run (4294967295 - s) (xs.take j) = r at *
   have hh := Cr.half_code r z hbd.1 hbd.2 hzb.1 hzb.2
   obtain ⟨s1, hs1⟩ : ∃ s1, bits .xor .u32 (Cr.tabI (bits .xor .u8 (r % 256) z)) (r / 16) = s1 := ⟨_, rfl⟩
   have hsb := Cr.half_bd r z s1 hbd.1 hbd.2 hzb.1 hzb.2 hs1
   have hcode := Cr.byte_code r z s1 hbd.1 hbd.2 hzb.1 hzb.2 hs1
   have hh2 := (Cr.half_code s1 (z / 16) hsb.1 hsb.2 (by omega) (by omega)).2
   have hh1 := hh.2
   clear hh
   have t1 := Cr.tabI_bd (bits .xor .u8 (r % 256) z)
   go_wp2_with (first
   | (go_at_call 126; refine (table_any _ _ (by omega) (by omega)).mono ?_; rintro e w' ⟨rfl, rfl⟩))
   go_round
   case rel => exact ⟨j + 1, by omega, by go_num, by rw [HT.out, HN.out]⟩
   case measure => simp [intOf]; omega
  ·go_wp2_with fail
   go_ret
   exact ⟨ret_int (by rw [← hfin.out]; congr 2; rw [List.take_of_length_le (by rw [HL.out]; omega)]), rfl⟩
theorem rMore_any (s : Int) (A : Option Addr) (len cap : Nat) (xs : List Int) (B : Nat) (w : World) (h1 : 0 ≤ s) (h2 : s ≤ 4294967295) (hr : RowAt w B A len (xs.map (Value.int .u8))) (hi : Ints .u8 xs) (hl : len ≤ 9223372036854775807) :
  Calls Try.prog 109 #[.int .u32 s, .slice A len cap] w fun e w' => e = .returned (.int .u32 (Cr.more s xs)) ∧ w = w' := by
 have hb : ∀ b ∈ xs, 0 ≤ b ∧ b ≤ 255 := fun b hb => bounds_u8 (hi b hb)
 have HB := Lib.hid hb
 have HI := Lib.hid hi
 have HR := Lib.hid hr
 have hlen : xs.length = len := by simpa using hr.1
 have HL := Lib.hid hlen
 clear hb hi hr hlen
 have hmb := Cr.more_bd s xs h1 h2 HB.out
 go_enter Try.func109, Try.ntmps109
 go_wp2_with fail
 go_loop [5, 6, 7, 8] (fun s' t _u _v => ∃ j : Nat, j ≤ len ∧ t = .int .i64 j ∧ s' = .int .u32 (Cr.run (4294967295 - s) (xs.take j))) (fun _ t _ _ => len - (intOf t).toNat)
 case atStart => exact ⟨0, by omega, rfl, rfl⟩
 case round =>
  obtain ⟨j, hj, rfl, rfl⟩ := hrel
  have hbd := Cr.run_bd (xs.take j) (4294967295 - s) (by omega) (by omega) (fun b hb => HB.out b (List.mem_of_mem_take hb))
  by_cases hlt : j < len
  ·obtain ⟨b, off, z, rfl, hbl, hz, hwz, hc⟩ := HR.out.int HI.out hlt
   have hzb := bounds_u8 hwz
   have HN := Lib.hid (Cr.run_snoc (4294967295 - s) (xs.take j) z)
   have HT := Lib.hid (take_succ_of hz)
   clear hz hwz
   generalize Cr.run (4294967295 - s) (xs.take j) = r at *
   have hx := Cr.xor_byte r z hbd.1 hbd.2 hzb.1 hzb.2
   have HX := Lib.hid hx.2.2
   have hx1 := hx.1
   have hx2 := hx.2.1
   clear hx
   generalize hq : bits .xor .u32 r z = q at *
   go_wp2_with fail
   go_loop [5, 7, 8] (fun s' t _u => ∃ k : Nat, k ≤ 8 ∧ t = .int .i64 k ∧ s' = .int .u32 (Cr.stepI q k)) (fun _ t _ => 8 - (intOf t).toNat)
   case atStart => exact ⟨0, by omega, rfl, by rw [Cr.stepI_zero q hx1]⟩
   case round =>
    obtain ⟨k, hk, rfl, rfl⟩ := hrel
    have hkb := Cr.stepI_bd q k hx1 hx2
    by_cases hlk : k < 8
    ·by_cases ho : Cr.stepI q k % 2 = 1
     ·have HO := Lib.hid (Cr.stepI_odd q k hx1 hx2 ho)
      have ho2 : (Cr.stepI q k % 2 == 1) = true := by simpa using ho
      clear ho
      go_wp2_with fail
      go_round
      case rel => exact ⟨k + 1, by omega, by go_num, by rw [HO.out]⟩
      case measure => simp [intOf]; omega
     ·have HO := Lib.hid (Cr.stepI_even q k hx1 hx2 ho)
      have ho2 : (Cr.stepI q k % 2 == 1) = false := by simpa using ho
      clear ho
      go_wp2_with fail
      go_round
      case rel => exact ⟨k + 1, by omega, by go_num, by rw [HO.out]⟩
      case measure => simp [intOf]; omega
    ·obtain rfl : k = 8 := by omega
     go_wp2_with fail
     go_round
     case rel => exact ⟨j + 1, by omega, by go_num, by rw [HT.out, HN.out, HX.out]⟩
     case measure => simp [intOf]; omega
  ·have hfin : Cr.run (4294967295 - s) (xs.take j) = Cr.run (4294967295 - s) xs := by rw [List.take_of_length_le (by rw [HL.out]; omega)]
   go_wp2_with fail
   go_ret
   exact ⟨ret_int (by unfold Cr.more; omega), rfl⟩
theorem sum_any (A : Option Addr) (len cap : Nat) (xs : List Int) (B : Nat) (w : World) (hr : RowAt w B A len (xs.map (Value.int .u8))) (hi : Ints .u8 xs) (hl : len ≤ 9223372036854775807) :
  Calls Try.prog 113 #[.slice A len cap] w fun e w' => e = .returned (.int .u32 (Cr.more 0 xs)) ∧ w = w' := by
 go_enter Try.func113, Try.ntmps113
 go_wp2_with fail
 refine (more_any 0 A len cap xs B _ (by omega) (by omega) hr hi hl).mono ?_
 rintro e w' ⟨rfl, rfl⟩
 go_wp2_with fail
 go_ret
 exact ⟨rfl, rfl⟩
end Go.Proofs.Ytmekhdclnhhhbaa
end

section
namespace Go.Proofs.Ytmekhdclnhhhbaa
open Go.RowKit
set_option maxHeartbeats 400000
set_option maxRecDepth 100000
theorem rBytes_any (A : Option Addr) (len cap : Nat) (xs : List Int) (B : Nat) (w : World) (hr : RowAt w B A len (xs.map (Value.int .u64))) (hi : Ints .u64 xs) (hl : len ≤ 1099511627776) (hB : B ≤ w.heap.size) :
  Calls Try.prog 87 #[.slice A len cap] w fun e w' => ∃ v, e = .returned v ∧ w'.ownsRow w.heap.size 5 1 v (8 * len) ((By.bytes xs).map (Value.int .u8)) ∧ Below w.heap.size w w' := by
 obtain ⟨i0, hi0, hz0, hz1, hz2⟩ := info_parts info_u8
 have HI := Lib.hid hi
 have HR := Lib.hid hr
 have hlen : xs.length = len := by simpa using hr.1
 have HL := Lib.hid hlen
 clear hi hr hlen
 go_enter Try.func87, Try.ntmps87
 go_wp2_with fail
 go_loopw [3, 4, 5, 6] (fun v t _a _b wr => ∃ j : Nat, j ≤ len ∧ t = .int .i64 j ∧ wr.ownsRow w.heap.size 5 1 v (8 * j) ((By.bytes (xs.take j)).map (Value.int .u8)) ∧ Below w.heap.size w wr) (fun _ t _ _ _ => len - (intOf t).toNat)
 case atStart => exact ⟨0, by omega, rfl, World.ownsRow_nil _ _ _ _, Below.refl _ _⟩
 case round =>
  obtain ⟨j, hj, rfl, hown, hbe⟩ := hrel
  have hsz := hbe.size
  by_cases hlt : j < len
  ·obtain ⟨b, off, z, rfl, hbl, hz, hwz, hc⟩ := HR.out.int HI.out hlt
   have hzb := bounds_u64 hwz
   have hc2 := (hbe.cell (p := ⟨b, off + j, none⟩) (by simp; omega)).trans hc
   have HT := Lib.hid (take_succ_of hz)
   clear hz hwz hc
   go_wp2_with fail
   go_loopw [3, 5, 6] (fun v x t wr => ∃ k : Nat, k ≤ 8 ∧ t = .int .i64 k ∧ x = .int .u64 (By.rest z k) ∧ wr.ownsRow w.heap.size 5 1 v (8 * j + k) ((By.bytes (xs.take j) ++ By.bytesTo z k).map (Value.int .u8)) ∧ Below w.heap.size w wr) (fun _ _ t _ => 8 - (intOf t).toNat)
   case atStart => exact ⟨0, by omega, rfl, by rw [By.rest_zero z hzb.1], by rw [By.bytesTo_zero, List.append_nil]; exact hown, hbe⟩
   case round =>
    clear hown hbe hc2 hsz
    obtain ⟨k, hk, rfl, rfl, hown, hbe⟩ := hrel
    have hsz := hbe.size
    have hkb := By.rest_bd z k hzb.2
    have hks := Lib.hid (By.rest_succ z k)
    have hbs := Lib.hid (By.bytesTo_succ z k)
    by_cases hlk : k < 8
    ·have hba : By.rest z k % 256 = By.byteAt z k := rfl
     have hbb := By.byteAt_bd z k
     have HBA := Lib.hid hba
     go_wp2_with (first
      | (at_builtin; refine wpList_app1 (P := Try.prog) rfl (.tmp 21) (.tmp 25) 49 rfl w.heap.size 5 i0 (.int .u8 0) 1 Try.underlying49 hi0 hz0 hz1 hz2 rfl _ _ _ rfl hown _ _ rfl rfl (by unfold maxLen; omega) (by omega) hsz w.heap.size w hbe (Nat.le_refl _) ?_; intro v' w' hown' hbe' hlt' _))
     go_roundw
     case rel =>
      refine ⟨k + 1, by omega, by go_num, by rw [hks.out], ?_, hbe'⟩
      rw [hbs.out, ← List.append_assoc, By.map_snoc, ← HBA.out]
      exact hown'
     case measure => simp [intOf]; omega
    ·obtain rfl : k = 8 := by omega
     go_wp2_with fail
     go_roundw
     case rel =>
      refine ⟨j + 1, by omega, by go_num, ?_, hbe⟩
      rw [HT.out, By.bytes_snoc]
      exact hown
     case measure => simp [intOf]; omega
  ·go_wp2_with fail
   go_ret
   obtain rfl : j = len := by omega
   rw [List.take_of_length_le (by rw [HL.out]; exact Nat.le_refl _)] at hown
   exact ⟨_, rfl, hown, hbe⟩
theorem bytes_any (A : Option Addr) (len cap : Nat) (xs : List Int) (B : Nat) (w : World) (hr : RowAt w B A len (xs.map (Value.int .u64))) (hi : Ints .u64 xs) (hl : len ≤ 1099511627776) (hB : B ≤ w.heap.size) :
  Calls Try.prog 86 #[.slice A len cap] w fun e w' => ∃ v, e = .returned v ∧ w'.ownsRow w.heap.size 5 1 v (8 * len) ((By.bytes xs).map (Value.int .u8)) ∧ Below w.heap.size w w' := by
 obtain ⟨i0, hi0, hz0, hz1, hz2⟩ := info_parts info_u8
 have HI := Lib.hid hi
 have HR := Lib.hid hr
 have hlen : xs.length = len := by simpa using hr.1
 have HL := Lib.hid hlen
 clear hi hr hlen
 go_enter Try.func86, Try.ntmps86
 go_wp2_with (first
  | (at_make; refine wpList_make_own (P := Try.prog) _ rfl _ _ 49 rfl w.heap.size 5 i0 (.int .u8 0) 1 Try.underlying49 hi0 hz0 hz1 .i64 .i64 (8 * (len : Int)) (8 * len) rfl rfl (by omega) (by rw [hz2]; omega) (by unfold maxLen; omega) (Nat.le_refl _) ?_; intro w1 hown0 hg0))
 have hb0 : Below w.heap.size w w1 := (Below.refl _ _).grown hg0 (Nat.le_refl _) (by intro k hk; cases hk)
 clear hg0
 go_loopw [3, 5, 6, 13, 17] (fun v _a _b t _c wr => ∃ j : Nat, j ≤ len ∧ t = .int .i64 j ∧ wr.ownsRow w.heap.size 5 1 v (8 * j) ((By.bytes (xs.take j)).map (Value.int .u8)) ∧ Below w.heap.size w wr) (fun _ _ _ t _ _ => len - (intOf t).toNat)
 case atStart => exact ⟨0, by omega, rfl, hown0, hb0⟩
 case round =>
  clear hown0 hb0
  obtain ⟨j, hj, rfl, hown, hbe⟩ := hrel
  have hsz := hbe.size
  by_cases hlt : j < len
  ·obtain ⟨b, off, z, rfl, hbl, hz, hwz, hc⟩ := HR.out.int HI.out hlt
   have hzb := bounds_u64 hwz
   have hc2 := (hbe.cell (p := ⟨b, off + j, none⟩) (by simp; omega)).trans hc
   have HT := Lib.hid (take_succ_of hz)
   clear hz hwz hc
   go_wp2_with fail
   go_loopw [3, 6, 17] (fun v _b t wr => ∃ k : Nat, k ≤ 8 ∧ t = .int .i64 k ∧ wr.ownsRow w.heap.size 5 1 v (8 * j + k) ((By.bytes (xs.take j) ++ By.bytesTo z k).map (Value.int .u8)) ∧ Below w.heap.size w wr) (fun _ _ t _ => 8 - (intOf t).toNat)
   case atStart => exact ⟨0, by omega, rfl, by rw [By.bytesTo_zero, List.append_nil]; exact hown, hbe⟩
   case round =>
    clear hown hbe hc2 hsz
    obtain ⟨k, hk, rfl, hown, hbe⟩ := hrel
    have hsz := hbe.size
    have hkb := By.rest_bd z k hzb.2
    have hbs := Lib.hid (By.bytesTo_succ z k)
    by_cases hlk : k < 8
    ·have hba : By.rest z k % 256 = By.byteAt z k := rfl
     have hbb := By.byteAt_bd z k
     have HBA := Lib.hid hba
     clear hba
     have hsh := By.rest_shr z k hzb.1
     go_wp2_with (first
      | (at_builtin; refine wpList_app1 (P := Try.prog) rfl (.tmp 20) (.tmp 27) 49 rfl w.heap.size 5 i0 (.int .u8 0) 1 Try.underlying49 hi0 hz0 hz1 hz2 rfl _ _ _ rfl hown _ _ rfl rfl (by unfold maxLen; omega) (by omega) hsz w.heap.size w hbe (Nat.le_refl _) ?_; intro v' w' hown' hbe' hlt' _))
     clear hsh
     go_roundw
     case rel =>
      refine ⟨k + 1, by omega, by go_num, ?_, hbe'⟩
      rw [hbs.out, ← List.append_assoc, By.map_snoc, ← HBA.out]
      exact hown'
     case measure => simp [intOf]; omega
    ·obtain rfl : k = 8 := by omega
     go_wp2_with fail
     go_roundw
     case rel =>
      refine ⟨j + 1, by omega, by go_num, ?_, hbe⟩
      rw [HT.out, By.bytes_snoc]
      exact hown
     case measure => simp [intOf]; omega
  ·go_wp2_with fail
   go_ret
   obtain rfl : j = len := by omega
   rw [List.take_of_length_le (by rw [HL.out]; exact Nat.le_refl _)] at hown
   exact ⟨_, rfl, hown, hbe⟩
end Go.Proofs.Ytmekhdclnhhhbaa
end

section
namespace Go.Proofs.Ytmekhdclnhhhbaa.Sl
open Go Go.RowKit
def sum (n q : Int) : Int := Cr.more 0 (By.bytes [n, q])
theorem sum_bd (n q : Int) : 0 ≤ Cr.more 0 (By.bytes [n, q]) ∧ Cr.more 0 (By.bytes [n, q]) ≤ 4294967295 := Cr.more_bd 0 _ (by omega) (by omega) (By.bytes_bd _)
end Go.Proofs.Ytmekhdclnhhhbaa.Sl
end

section
namespace Go.Proofs.Ytmekhdclnhhhbaa
open Go.RowKit
set_option maxHeartbeats 400000
theorem crcWords_any (A : Option Addr) (len cap : Nat) (xs : List Int) (B : Nat) (w : World) (hr : RowAt w B A len (xs.map (Value.int .u64))) (hi : Ints .u64 xs) (hl : len ≤ 1099511627776) (hB : B ≤ w.heap.size) :
  Calls Try.prog 82 #[.slice A len cap] w fun e w' => e = .returned (.int .u32 (Cr.more 0 (By.bytes xs))) ∧ Below w.heap.size w w' := by
 go_enter Try.func82, Try.ntmps82
 go_wp2_with fail
 refine (bytes_any A len cap xs B _ hr hi hl hB).mono ?_
 rintro e w1 ⟨v, rfl, hown, hb⟩
 obtain ⟨A', c', rfl, hc1, hc2, _⟩ := own_shape hown
 go_wp2_with fail
 refine (sum_any A' (8 * len) c' (By.bytes xs) _ _ (RowAt.of_own hown) (fun z hz => wf_u8 (By.bytes_bd xs z hz)) (by omega)).mono ?_
 rintro e w' ⟨rfl, rfl⟩
 go_wp2_with fail
 go_ret
 exact ⟨rfl, hb⟩
theorem rCrcWords_any (A : Option Addr) (len cap : Nat) (xs : List Int) (B : Nat) (w : World) (hr : RowAt w B A len (xs.map (Value.int .u64))) (hi : Ints .u64 xs) (hl : len ≤ 1099511627776) (hB : B ≤ w.heap.size) :
  Calls Try.prog 66 #[.slice A len cap] w fun e w' => e = .returned (.int .u32 (Cr.more 0 (By.bytes xs))) ∧ Below w.heap.size w w' := by
 go_enter Try.func66, Try.ntmps66
 go_wp2_with fail
 refine (rBytes_any A len cap xs B _ hr hi hl hB).mono ?_
 rintro e w1 ⟨v, rfl, hown, hb⟩
 obtain ⟨A', c', rfl, hc1, hc2, _⟩ := own_shape hown
 go_wp2_with fail
 refine (rMore_any 0 A' (8 * len) c' (By.bytes xs) _ _ (by omega) (by omega) (RowAt.of_own hown) (fun z hz => wf_u8 (By.bytes_bd xs z hz)) (by omega)).mono ?_
 rintro e w' ⟨rfl, rfl⟩
 go_wp2_with fail
 go_ret
 exact ⟨rfl, hb⟩
end Go.Proofs.Ytmekhdclnhhhbaa
end

section
namespace Go.Proofs.Ytmekhdclnhhhbaa.St
open Go Go.RowKit
def okR (R : List Int) : Prop := ∀ r ∈ R, 0 ≤ r ∧ r ≤ 131071
instance (R : List Int) : Decidable (okR R) := by unfold okR; infer_instance
def rightB (E : Int) (R : List Int) : Bool := decide (okR R ∧ 0 < E)
theorem rightB_yes (E : Int) (R : List Int) (h : okR R) (h2 : 0 < E) : rightB E R = true := by unfold rightB; simpa using ⟨h, h2⟩
theorem rightB_no (E : Int) (R : List Int) (h : ¬ (okR R ∧ 0 < E)) : rightB E R = false := by unfold rightB; simpa using h
theorem okR_take_succ (R : List Int) (k : Nat) (r : Int) (hr : R[k]? = some r) (h : okR (R.take k)) (h2 : 0 ≤ r ∧ r ≤ 131071) : okR (R.take (k + 1)) := by
 intro x hx
 rw [List.take_add_one, hr] at hx
 rcases List.mem_append.1 hx with hx | hx
 ·exact h x hx
 ·simp at hx; subst hx; exact h2
theorem okR_not (R : List Int) (k : Nat) (r : Int) (hr : R[k]? = some r) (h2 : ¬ (0 ≤ r ∧ r ≤ 131071)) : ¬ okR R := fun h => h2 (h r (List.mem_of_getElem? hr))
def sum (E a b c d n : Int) : Int := Cr.more 0 (By.bytes [E, a, b, c, d, n, 0])
def sum0 (E a b c d : Int) : Int := sum E a b c d 0
def sum1 (E a b c d : Int) : Int := sum E a b c d 1
theorem sum_bd (E a b c d n : Int) : 0 ≤ sum E a b c d n ∧ sum E a b c d n ≤ 4294967295 := Cr.more_bd 0 _ (by omega) (by omega) (By.bytes_bd _)
theorem sum0_bd (E a b c d : Int) : 0 ≤ sum0 E a b c d ∧ sum0 E a b c d ≤ 4294967295 := sum_bd _ _ _ _ _ _
theorem sum1_bd (E a b c d : Int) : 0 ≤ sum1 E a b c d ∧ sum1 E a b c d ≤ 4294967295 := sum_bd _ _ _ _ _ _
def sum7 (a b c d e f g : Int) : Int := Cr.more 0 (By.bytes [a, b, c, d, e, f, g])
theorem sum7_bd (a b c d e f g : Int) : 0 ≤ sum7 a b c d e f g ∧ sum7 a b c d e f g ≤ 4294967295 := Cr.more_bd 0 _ (by omega) (by omega) (By.bytes_bd _)
def cap (x : Int) : Int := if x ≤ 1099511627776 then x else 1099511627776
theorem cap_in (x : Int) (h : x ≤ 1099511627776) : cap x = x := by unfold cap; rw [if_pos h]
end Go.Proofs.Ytmekhdclnhhhbaa.St
end

section
namespace Go.Proofs.Ytmekhdclnhhhbaa
open Go.RowKit
set_option maxHeartbeats 4000000
set_option maxRecDepth 100000
def I64 (x : Int) : Prop := -9223372036854775808 ≤ x ∧ x ≤ 9223372036854775807
theorem roots_at (r0 r1 r2 r3 r4 r5 r6 r7 : Int) (k : Nat) (hk : k < 8) (w : World) : ∃ r, [r0, r1, r2, r3, r4, r5, r6, r7][k]? = some r ∧ (Instr.index 87 (.agg #[.int .i64 r0, .int .i64 r1, .int .i64 r2, .int .i64 r3, .int .i64 r4, .int .i64 r5, .int .i64 r6, .int .i64 r7]) (.int .i64 (k : Int))).run Try.prog w = .ok (.int .i64 r) w := by
 obtain ⟨i0, hi0, _⟩ := info_parts info_int
 obtain ⟨r, hr⟩ : ∃ r, [r0, r1, r2, r3, r4, r5, r6, r7][k]? = some r := ⟨_, List.getElem?_eq_getElem hk⟩
 refine ⟨r, hr, run_index_ints w Try.underlying87 Try.underlying3 (by kernel_rfl) hi0 _ .i64 k _ (by omega) (by omega) ?_⟩
 have e : (#[.int .i64 r0, .int .i64 r1, .int .i64 r2, .int .i64 r3, .int .i64 r4, .int .i64 r5, .int .i64 r6, .int .i64 r7] : Array Value) = ([r0, r1, r2, r3, r4, r5, r6, r7].map (Value.int .i64)).toArray := rfl
 rw [e, Int.toNat_natCast, List.getElem?_toArray, List.getElem?_map, hr]; rfl
theorem i64_of (r0 r1 r2 r3 r4 r5 r6 r7 : Int) (h : ∀ r ∈ [r0, r1, r2, r3, r4, r5, r6, r7], I64 r) (k : Nat) (r : Int) (hr : [r0, r1, r2, r3, r4, r5, r6, r7][k]? = some r) : I64 r := h r (List.mem_of_getElem? hr)
theorem slRight_any (E r0 r1 r2 r3 r4 r5 r6 r7 : Int) (w : World) (hE : 0 ≤ E ∧ E ≤ 18446744073709551615) (hR : ∀ r ∈ [r0, r1, r2, r3, r4, r5, r6, r7], I64 r) :
  Calls Try.prog 125 #[.agg #[.int .u64 E, .int .i64 r0, .int .i64 r1, .int .i64 r2, .int .i64 r3, .int .i64 r4, .int .i64 r5, .int .i64 r6, .int .i64 r7]] w fun e w' => e = .returned (.bool (St.rightB E [r0, r1, r2, r3, r4, r5, r6, r7])) ∧ Below w.heap.size w w' := by
 have HR := Lib.hid hR
 have HA := Lib.hid (roots_at r0 r1 r2 r3 r4 r5 r6 r7)
 clear hR
 go_enter Try.func125, Try.ntmps125
 go_wp2_with fail
 go_loop [4, 7] (fun _r t => ∃ k : Nat, k ≤ 8 ∧ t = .int .i64 k ∧ St.okR ([r0, r1, r2, r3, r4, r5, r6, r7].take k)) (fun _ t => 8 - (intOf t).toNat)
 case atStart => exact ⟨0, by omega, rfl, by intro x hx; simp at hx⟩
 case round =>
  obtain ⟨k, hk, rfl, hok⟩ := hrel
  have hok := Lib.hid hok
  by_cases hlt : k < 8
  ·obtain ⟨r, hr, hidx⟩ := HA.out k hlt (w.alloc (.cells #[.int .u64 E, .int .i64 r0, .int .i64 r1, .int .i64 r2, .int .i64 r3, .int .i64 r4, .int .i64 r5, .int .i64 r6, .int .i64 r7] 144))
   have hb := i64_of _ _ _ _ _ _ _ _ HR.out k r hr
   unfold I64 at hb
   have hr := Lib.hid hr
   by_cases h1 : 0 ≤ r ∧ r ≤ 131071
   ·have hs := Lib.hid (St.okR_take_succ _ k r hr.out hok.out h1)
    go_wp2_with fail
    go_round
    case rel => exact ⟨k + 1, by omega, by go_num, hs.out⟩
    case measure => simp [intOf] <;> omega
   ·have ev := Lib.hid (St.rightB_no E _ (fun h => St.okR_not _ k r hr.out h1 h.1))
    rcases (show r < 0 ∨ (0 ≤ r ∧ 131071 < r) from by omega) with g | ⟨g1, g2⟩
    all_goals
     clear h1
     go_wp2_with fail
     go_ret
     exact ⟨ret_bool ev.out.symm, (Below.refl _ _).alloc (Nat.le_refl _) _⟩
  ·obtain rfl : k = 8 := by omega
   by_cases h1 : 0 < E
   ·have ev := Lib.hid (St.rightB_yes E _ hok.out h1)
    go_wp2_with fail
    go_ret
    exact ⟨by first | exact ret_bool ev.out.symm | (apply ret_bool; rw [show ([r0, r1, r2, r3, r4, r5, r6, r7].take 8) = [r0, r1, r2, r3, r4, r5, r6, r7] from rfl] at ev; rw [ev.out]; simp; omega), (Below.refl _ _).alloc (Nat.le_refl _) _⟩
   ·have ev := Lib.hid (St.rightB_no E [r0, r1, r2, r3, r4, r5, r6, r7] (fun h => h1 h.2))
    go_wp2_with fail
    go_ret
    exact ⟨by first | exact ret_bool ev.out.symm | (apply ret_bool; rw [ev.out]; simp; omega), (Below.refl _ _).alloc (Nat.le_refl _) _⟩
end Go.Proofs.Ytmekhdclnhhhbaa
end

section
namespace Go.Proofs.Ytmekhdclnhhhbaa
open Go.RowKit
set_option maxHeartbeats 8000000
set_option maxRecDepth 100000
theorem isSome16 : (Try.prog.info? 99).isSome = true := by kernel_rfl
theorem RowAt.of_blk_at {W : World} {b : Nat} {cs : Array Value} {T : TypeId} (h : Blk W b cs T) (off m : Nat) (hm : off + m ≤ cs.size) : RowAt W W.heap.size (some ⟨b, off, none⟩) m ((cs.toList.drop off).take m) := by
 refine ⟨by simp; omega, fun _ => ⟨b, off, rfl, h.lt, fun j u hu => ?_⟩⟩
 have hj : j < m := by
  have := (List.getElem?_eq_some_iff.1 hu).1
  simp at this; omega
 rw [List.getElem?_take_of_lt hj, List.getElem?_drop] at hu
 exact h.cell (off + j) u (by simpa using hu)
theorem slrow_wf (E a b c d n : Int) (hE : 0 ≤ E ∧ E ≤ 18446744073709551615) (ha : 0 ≤ a ∧ a ≤ 131071) (hb : 0 ≤ b ∧ b ≤ 131071) (hc : 0 ≤ c ∧ c ≤ 131071) (hd : 0 ≤ d ∧ d ≤ 131071) (hn : 0 ≤ n ∧ n ≤ 1) : Ints .u64 [E, a, b, c, d, n, 0] := by
 intro x hx
 simp at hx
 apply wf_u64
 rcases hx with rfl | rfl | rfl | rfl | rfl | rfl | rfl <;> omega
theorem slEnc_no (E r0 r1 r2 r3 r4 r5 r6 r7 : Int) (w : World) (hE : 0 ≤ E ∧ E ≤ 18446744073709551615) (hR : ∀ r ∈ [r0, r1, r2, r3, r4, r5, r6, r7], I64 r) (h : St.rightB E [r0, r1, r2, r3, r4, r5, r6, r7] = false) :
  Calls Try.prog 122 #[.agg #[.int .u64 E, .int .i64 r0, .int .i64 r1, .int .i64 r2, .int .i64 r3, .int .i64 r4, .int .i64 r5, .int .i64 r6, .int .i64 r7]] w fun e w' => e = .returned (.agg #[.int .u64 0, .int .u64 0, .int .u64 0, .int .u64 0, .int .u64 0, .int .u64 0, .int .u64 0, .int .u64 0, .int .u64 0, .int .u64 0, .int .u64 0, .int .u64 0, .int .u64 0, .int .u64 0, .int .u64 0, .int .u64 0]) ∧ Below w.heap.size w w' := by
 have HRR := Lib.hid hR
 clear hR
 obtain ⟨i16, hi16⟩ := Option.isSome_iff_exists.1 isSome16
 have HI := Lib.hid hi16
 clear hi16
 have hone : ∀ v ∈ (#[.int .u64 0, .int .u64 0, .int .u64 0, .int .u64 0, .int .u64 0, .int .u64 0, .int .u64 0, .int .u64 0, .int .u64 0, .int .u64 0, .int .u64 0, .int .u64 0, .int .u64 0, .int .u64 0, .int .u64 0, .int .u64 0] : Array Value).toList, v.oneCell' = true := by simp [Value.oneCell']
 have HONE := Lib.hid hone
 clear hone
 have X := Lib.hid (((Blk.new w #[.int .u64 E, .int .i64 r0, .int .i64 r1, .int .i64 r2, .int .i64 r3, .int .i64 r4, .int .i64 r5, .int .i64 r6, .int .i64 r7] 144).alloc (.cells #[.int .u64 0, .int .u64 0, .int .u64 0, .int .u64 0, .int .u64 0, .int .u64 0, .int .u64 0, .int .u64 0, .int .u64 0, .int .u64 0, .int .u64 0, .int .u64 0, .int .u64 0, .int .u64 0, .int .u64 0, .int .u64 0] 99)).alloc (.cells #[.int .u64 0, .int .u64 0, .int .u64 0, .int .u64 0, .int .u64 0, .int .u64 0, .int .u64 0, .int .u64 0, .int .u64 0, .int .u64 0, .int .u64 0, .int .u64 0, .int .u64 0, .int .u64 0, .int .u64 0, .int .u64 0] 99))
 have R := Lib.hid ((Blk.new1 w (.cells #[.int .u64 E, .int .i64 r0, .int .i64 r1, .int .i64 r2, .int .i64 r3, .int .i64 r4, .int .i64 r5, .int .i64 r6, .int .i64 r7] 144) #[.int .u64 0, .int .u64 0, .int .u64 0, .int .u64 0, .int .u64 0, .int .u64 0, .int .u64 0, .int .u64 0, .int .u64 0, .int .u64 0, .int .u64 0, .int .u64 0, .int .u64 0, .int .u64 0, .int .u64 0, .int .u64 0] 99).alloc (.cells #[.int .u64 0, .int .u64 0, .int .u64 0, .int .u64 0, .int .u64 0, .int .u64 0, .int .u64 0, .int .u64 0, .int .u64 0, .int .u64 0, .int .u64 0, .int .u64 0, .int .u64 0, .int .u64 0, .int .u64 0, .int .u64 0] 99))
 have O := Lib.hid (Blk.new2 w (.cells #[.int .u64 E, .int .i64 r0, .int .i64 r1, .int .i64 r2, .int .i64 r3, .int .i64 r4, .int .i64 r5, .int .i64 r6, .int .i64 r7] 144) (.cells #[.int .u64 0, .int .u64 0, .int .u64 0, .int .u64 0, .int .u64 0, .int .u64 0, .int .u64 0, .int .u64 0, .int .u64 0, .int .u64 0, .int .u64 0, .int .u64 0, .int .u64 0, .int .u64 0, .int .u64 0, .int .u64 0] 99) #[.int .u64 0, .int .u64 0, .int .u64 0, .int .u64 0, .int .u64 0, .int .u64 0, .int .u64 0, .int .u64 0, .int .u64 0, .int .u64 0, .int .u64 0, .int .u64 0, .int .u64 0, .int .u64 0, .int .u64 0, .int .u64 0] 99)
 have hB : Below w.heap.size w (((w.alloc (.cells #[.int .u64 E, .int .i64 r0, .int .i64 r1, .int .i64 r2, .int .i64 r3, .int .i64 r4, .int .i64 r5, .int .i64 r6, .int .i64 r7] 144)).alloc (.cells #[.int .u64 0, .int .u64 0, .int .u64 0, .int .u64 0, .int .u64 0, .int .u64 0, .int .u64 0, .int .u64 0, .int .u64 0, .int .u64 0, .int .u64 0, .int .u64 0, .int .u64 0, .int .u64 0, .int .u64 0, .int .u64 0] 99)).alloc (.cells #[.int .u64 0, .int .u64 0, .int .u64 0, .int .u64 0, .int .u64 0, .int .u64 0, .int .u64 0, .int .u64 0, .int .u64 0, .int .u64 0, .int .u64 0, .int .u64 0, .int .u64 0, .int .u64 0, .int .u64 0, .int .u64 0] 99)) := (((Below.refl _ _).alloc (Nat.le_refl _) _).alloc (by simp) _).alloc (by simp; omega) _
 go_enter Try.func122, Try.ntmps122
 go_wp2_with (first
  | (go_at_call 125; refine (slRight_any _ _ _ _ _ _ _ _ _ _ hE HRR.out).mono ?_; rintro e w1 ⟨rfl, hb1⟩; have X1 := X.out.below hb1 X.out.lt; have R1 := R.out.below hb1 R.out.lt; have O1 := O.out.below hb1 O.out.lt; have hB1 := hB.trans (hb1.mono hB.size))
  | (refine wpList_load_row (P := Try.prog) rfl 99 (.tmp 3) rfl (w.heap.size + 1 + 1) rfl _ #[.int .u64 0, .int .u64 0, .int .u64 0, .int .u64 0, .int .u64 0, .int .u64 0, .int .u64 0, .int .u64 0, .int .u64 0, .int .u64 0, .int .u64 0, .int .u64 0, .int .u64 0, .int .u64 0, .int .u64 0, .int .u64 0] (0, 0) _ O1 Try.underlying99 rfl (by kernel_rfl) ?_)
  | (refine wpList_store_row (P := Try.prog) rfl 99 (.tmp 2) (.tmp 10) rfl (w.heap.size + 1) _ #[.int .u64 0, .int .u64 0, .int .u64 0, .int .u64 0, .int .u64 0, .int .u64 0, .int .u64 0, .int .u64 0, .int .u64 0, .int .u64 0, .int .u64 0, .int .u64 0, .int .u64 0, .int .u64 0, .int .u64 0, .int .u64 0] _ rfl rfl R1 rfl HI.out (by kernel_rfl) HONE.out ?_))
 exact bodyPost_ret (v := .agg #[.int .u64 0, .int .u64 0, .int .u64 0, .int .u64 0, .int .u64 0, .int .u64 0, .int .u64 0, .int .u64 0, .int .u64 0, .int .u64 0, .int .u64 0, .int .u64 0, .int .u64 0, .int .u64 0, .int .u64 0, .int .u64 0]) (results_cell_row rfl _ _ (w.heap.size + 1) _ #[.int .u64 0, .int .u64 0, .int .u64 0, .int .u64 0, .int .u64 0, .int .u64 0, .int .u64 0, .int .u64 0, .int .u64 0, .int .u64 0, .int .u64 0, .int .u64 0, .int .u64 0, .int .u64 0, .int .u64 0, .int .u64 0] (0, 0) _ rfl (setRow_heap _ _ _ _ _ _ R1) Try.underlying99 rfl (by kernel_rfl)) rfl ⟨rfl, below_setRow hB1 (by first | omega | (simp; done)) _⟩
theorem slEnc_yes (E r0 r1 r2 r3 r4 r5 r6 r7 : Int) (w : World) (hE : 0 ≤ E ∧ E ≤ 18446744073709551615) (hE0 : 0 < E) (hr0 : 0 ≤ r0 ∧ r0 ≤ 131071) (hr1 : 0 ≤ r1 ∧ r1 ≤ 131071) (hr2 : 0 ≤ r2 ∧ r2 ≤ 131071) (hr3 : 0 ≤ r3 ∧ r3 ≤ 131071) (hr4 : 0 ≤ r4 ∧ r4 ≤ 131071) (hr5 : 0 ≤ r5 ∧ r5 ≤ 131071) (hr6 : 0 ≤ r6 ∧ r6 ≤ 131071) (hr7 : 0 ≤ r7 ∧ r7 ≤ 131071) :
  Calls Try.prog 122 #[.agg #[.int .u64 E, .int .i64 r0, .int .i64 r1, .int .i64 r2, .int .i64 r3, .int .i64 r4, .int .i64 r5, .int .i64 r6, .int .i64 r7]] w fun e w' => e = .returned (.agg #[.int .u64 E, .int .u64 r0, .int .u64 r1, .int .u64 r2, .int .u64 r3, .int .u64 0, .int .u64 0, .int .u64 (St.sum0 E r0 r1 r2 r3), .int .u64 E, .int .u64 r4, .int .u64 r5, .int .u64 r6, .int .u64 r7, .int .u64 1, .int .u64 0, .int .u64 (St.sum1 E r4 r5 r6 r7)]) ∧ Below w.heap.size w w' := by
 have hRb : St.okR [r0, r1, r2, r3, r4, r5, r6, r7] := by
  intro r hr
  simp at hr
  rcases hr with rfl | rfl | rfl | rfl | rfl | rfl | rfl | rfl <;> assumption
 have hrb := St.rightB_yes E _ hRb hE0
 have HRR := Lib.hid (fun r hr => (⟨by have := hRb r hr; omega, by have := hRb r hr; omega⟩ : I64 r))
 have S0 := St.sum0_bd E r0 r1 r2 r3
 have S1 := St.sum1_bd E r4 r5 r6 r7
 have W0 := Lib.hid (slrow_wf E r0 r1 r2 r3 0 hE hr0 hr1 hr2 hr3 (by omega))
 have W1 := Lib.hid (slrow_wf E r4 r5 r6 r7 1 hE hr4 hr5 hr6 hr7 (by omega))
 clear hRb
 obtain ⟨i16, hi16⟩ := Option.isSome_iff_exists.1 isSome16
 have HI := Lib.hid hi16
 clear hi16
 have hone : ∀ v ∈ (#[.int .u64 E, .int .u64 r0, .int .u64 r1, .int .u64 r2, .int .u64 r3, .int .u64 0, .int .u64 0, .int .u64 (St.sum0 E r0 r1 r2 r3), .int .u64 E, .int .u64 r4, .int .u64 r5, .int .u64 r6, .int .u64 r7, .int .u64 1, .int .u64 0, .int .u64 (St.sum1 E r4 r5 r6 r7)] : Array Value).toList, v.oneCell' = true := by simp [Value.oneCell']
 have HONE := Lib.hid hone
 clear hone
 have X := Lib.hid (((Blk.new w #[.int .u64 E, .int .i64 r0, .int .i64 r1, .int .i64 r2, .int .i64 r3, .int .i64 r4, .int .i64 r5, .int .i64 r6, .int .i64 r7] 144).alloc (.cells #[.int .u64 0, .int .u64 0, .int .u64 0, .int .u64 0, .int .u64 0, .int .u64 0, .int .u64 0, .int .u64 0, .int .u64 0, .int .u64 0, .int .u64 0, .int .u64 0, .int .u64 0, .int .u64 0, .int .u64 0, .int .u64 0] 99)).alloc (.cells #[.int .u64 0, .int .u64 0, .int .u64 0, .int .u64 0, .int .u64 0, .int .u64 0, .int .u64 0, .int .u64 0, .int .u64 0, .int .u64 0, .int .u64 0, .int .u64 0, .int .u64 0, .int .u64 0, .int .u64 0, .int .u64 0] 99))
 have R := Lib.hid ((Blk.new1 w (.cells #[.int .u64 E, .int .i64 r0, .int .i64 r1, .int .i64 r2, .int .i64 r3, .int .i64 r4, .int .i64 r5, .int .i64 r6, .int .i64 r7] 144) #[.int .u64 0, .int .u64 0, .int .u64 0, .int .u64 0, .int .u64 0, .int .u64 0, .int .u64 0, .int .u64 0, .int .u64 0, .int .u64 0, .int .u64 0, .int .u64 0, .int .u64 0, .int .u64 0, .int .u64 0, .int .u64 0] 99).alloc (.cells #[.int .u64 0, .int .u64 0, .int .u64 0, .int .u64 0, .int .u64 0, .int .u64 0, .int .u64 0, .int .u64 0, .int .u64 0, .int .u64 0, .int .u64 0, .int .u64 0, .int .u64 0, .int .u64 0, .int .u64 0, .int .u64 0] 99))
 have O := Lib.hid (Blk.new2 w (.cells #[.int .u64 E, .int .i64 r0, .int .i64 r1, .int .i64 r2, .int .i64 r3, .int .i64 r4, .int .i64 r5, .int .i64 r6, .int .i64 r7] 144) (.cells #[.int .u64 0, .int .u64 0, .int .u64 0, .int .u64 0, .int .u64 0, .int .u64 0, .int .u64 0, .int .u64 0, .int .u64 0, .int .u64 0, .int .u64 0, .int .u64 0, .int .u64 0, .int .u64 0, .int .u64 0, .int .u64 0] 99) #[.int .u64 0, .int .u64 0, .int .u64 0, .int .u64 0, .int .u64 0, .int .u64 0, .int .u64 0, .int .u64 0, .int .u64 0, .int .u64 0, .int .u64 0, .int .u64 0, .int .u64 0, .int .u64 0, .int .u64 0, .int .u64 0] 99)
 have hB : Below w.heap.size w (((w.alloc (.cells #[.int .u64 E, .int .i64 r0, .int .i64 r1, .int .i64 r2, .int .i64 r3, .int .i64 r4, .int .i64 r5, .int .i64 r6, .int .i64 r7] 144)).alloc (.cells #[.int .u64 0, .int .u64 0, .int .u64 0, .int .u64 0, .int .u64 0, .int .u64 0, .int .u64 0, .int .u64 0, .int .u64 0, .int .u64 0, .int .u64 0, .int .u64 0, .int .u64 0, .int .u64 0, .int .u64 0, .int .u64 0] 99)).alloc (.cells #[.int .u64 0, .int .u64 0, .int .u64 0, .int .u64 0, .int .u64 0, .int .u64 0, .int .u64 0, .int .u64 0, .int .u64 0, .int .u64 0, .int .u64 0, .int .u64 0, .int .u64 0, .int .u64 0, .int .u64 0, .int .u64 0] 99)) := (((Below.refl _ _).alloc (Nat.le_refl _) _).alloc (by simp) _).alloc (by simp; omega) _
 go_enter Try.func122, Try.ntmps122
 go_wp2_with (first
  | (go_at_call 125; refine (slRight_any _ _ _ _ _ _ _ _ _ _ hE HRR.out).mono ?_; rintro e w1 ⟨rfl, hb1⟩; have X1 := X.out.below hb1 X.out.lt; have R1 := R.out.below hb1 R.out.lt; have O1 := O.out.below hb1 O.out.lt; have hB1 := hB.trans (hb1.mono hB.size)))
 have ac0 := O1.cell 0 _ rfl
 have af0 := O1.frozen 0
 have ac1 := O1.cell 1 _ rfl
 have af1 := O1.frozen 1
 have ac2 := O1.cell 2 _ rfl
 have af2 := O1.frozen 2
 have ac3 := O1.cell 3 _ rfl
 have af3 := O1.frozen 3
 have ac4 := O1.cell 4 _ rfl
 have af4 := O1.frozen 4
 have ac5 := O1.cell 5 _ rfl
 have af5 := O1.frozen 5
 have ac6 := O1.cell 6 _ rfl
 have af6 := O1.frozen 6
 have ac7 := O1.cell 7 _ rfl
 have af7 := O1.frozen 7
 have ac8 := O1.cell 8 _ rfl
 have af8 := O1.frozen 8
 have ac9 := O1.cell 9 _ rfl
 have af9 := O1.frozen 9
 have ac10 := O1.cell 10 _ rfl
 have af10 := O1.frozen 10
 have ac11 := O1.cell 11 _ rfl
 have af11 := O1.frozen 11
 have ac12 := O1.cell 12 _ rfl
 have af12 := O1.frozen 12
 have ac13 := O1.cell 13 _ rfl
 have af13 := O1.frozen 13
 have ac14 := O1.cell 14 _ rfl
 have af14 := O1.frozen 14
 have ac15 := O1.cell 15 _ rfl
 have af15 := O1.frozen 15
 have x0 := X1.cell 0 _ rfl
 have x1 := X1.cell 1 _ rfl
 have x2 := X1.cell 2 _ rfl
 have x3 := X1.cell 3 _ rfl
 have x4 := X1.cell 4 _ rfl
 have x5 := X1.cell 5 _ rfl
 have x6 := X1.cell 6 _ rfl
 have x7 := X1.cell 7 _ rfl
 have x8 := X1.cell 8 _ rfl
 refine wp_loop_rounds 3 ?_
 rw [rounds_succ]
 go_wp2_with fail
 refine wp_loop_rounds 5 ?_
 rw [rounds_succ]
 go_wp2_with fail
 rw [rounds_succ]
 go_wp2_with fail
 rw [rounds_succ]
 go_wp2_with fail
 rw [rounds_succ]
 go_wp2_with fail
 rw [rounds_succ]
 go_wp2_with fail
 have Oa : Blk _ (w.heap.size + 1 + 1) #[.int .u64 E, .int .u64 r0, .int .u64 r1, .int .u64 r2, .int .u64 r3, .int .u64 0, .int .u64 0, .int .u64 0, .int .u64 0, .int .u64 0, .int .u64 0, .int .u64 0, .int .u64 0, .int .u64 0, .int .u64 0, .int .u64 0] 99 := ((((((O1).set 0 (.int .u64 E)).set 1 (.int .u64 r0)).set 2 (.int .u64 r1)).set 3 (.int .u64 r2)).set 4 (.int .u64 r3)).set 5 (.int .u64 0)
 have hcha := (((((((Below.refl (w.heap.size + 1 + 1) w1)).setCell (p := ⟨w.heap.size + 1 + 1, 0, none⟩) (Nat.le_refl _) (.int .u64 E)).setCell (p := ⟨w.heap.size + 1 + 1, 1, none⟩) (Nat.le_refl _) (.int .u64 r0)).setCell (p := ⟨w.heap.size + 1 + 1, 2, none⟩) (Nat.le_refl _) (.int .u64 r1)).setCell (p := ⟨w.heap.size + 1 + 1, 3, none⟩) (Nat.le_refl _) (.int .u64 r2)).setCell (p := ⟨w.heap.size + 1 + 1, 4, none⟩) (Nat.le_refl _) (.int .u64 r3)).setCell (p := ⟨w.heap.size + 1 + 1, 5, none⟩) (Nat.le_refl _) (.int .u64 0)
 refine (crcWords_any _ 7 _ [E, r0, r1, r2, r3, 0, 0] _ _ (RowAt.of_blk_at Oa 0 7 (by simp)) W0.out (by omega) (Nat.le_refl _)).mono ?_
 rintro e w2 ⟨rfl, hba⟩
 rw [show Cr.more 0 (By.bytes [E, r0, r1, r2, r3, 0, 0]) = St.sum0 E r0 r1 r2 r3 from rfl]
 have Oa' := Oa.below hba Oa.lt
 have Xa' := (X1.below hcha (by omega)).below hba (X1.below hcha (by omega)).lt
 have Ra' := (R1.below hcha (by omega)).below hba (R1.below hcha (by omega)).lt
 have hBa' := (hB1.trans (hcha.mono (by omega))).trans (hba.mono (hB1.trans (hcha.mono (by omega))).size)
 clear hcha hba
 clear ac0 af0 ac1 af1 ac2 af2 ac3 af3 ac4 af4 ac5 af5 ac6 af6 ac7 af7 ac8 af8 ac9 af9 ac10 af10 ac11 af11 ac12 af12 ac13 af13 ac14 af14 ac15 af15 x0 x1 x2 x3 x4 x5 x6 x7 x8
 have bc0 := Oa'.cell 0 _ rfl
 have bf0 := Oa'.frozen 0
 have bc1 := Oa'.cell 1 _ rfl
 have bf1 := Oa'.frozen 1
 have bc2 := Oa'.cell 2 _ rfl
 have bf2 := Oa'.frozen 2
 have bc3 := Oa'.cell 3 _ rfl
 have bf3 := Oa'.frozen 3
 have bc4 := Oa'.cell 4 _ rfl
 have bf4 := Oa'.frozen 4
 have bc5 := Oa'.cell 5 _ rfl
 have bf5 := Oa'.frozen 5
 have bc6 := Oa'.cell 6 _ rfl
 have bf6 := Oa'.frozen 6
 have bc7 := Oa'.cell 7 _ rfl
 have bf7 := Oa'.frozen 7
 have bc8 := Oa'.cell 8 _ rfl
 have bf8 := Oa'.frozen 8
 have bc9 := Oa'.cell 9 _ rfl
 have bf9 := Oa'.frozen 9
 have bc10 := Oa'.cell 10 _ rfl
 have bf10 := Oa'.frozen 10
 have bc11 := Oa'.cell 11 _ rfl
 have bf11 := Oa'.frozen 11
 have bc12 := Oa'.cell 12 _ rfl
 have bf12 := Oa'.frozen 12
 have bc13 := Oa'.cell 13 _ rfl
 have bf13 := Oa'.frozen 13
 have bc14 := Oa'.cell 14 _ rfl
 have bf14 := Oa'.frozen 14
 have bc15 := Oa'.cell 15 _ rfl
 have bf15 := Oa'.frozen 15
 have y0 := Xa'.cell 0 _ rfl
 have y1 := Xa'.cell 1 _ rfl
 have y2 := Xa'.cell 2 _ rfl
 have y3 := Xa'.cell 3 _ rfl
 have y4 := Xa'.cell 4 _ rfl
 have y5 := Xa'.cell 5 _ rfl
 have y6 := Xa'.cell 6 _ rfl
 have y7 := Xa'.cell 7 _ rfl
 have y8 := Xa'.cell 8 _ rfl
 go_wp2_with fail
 rw [rounds_succ]
 go_wp2_with fail
 refine wp_loop_rounds 5 ?_
 rw [rounds_succ]
 go_wp2_with fail
 rw [rounds_succ]
 go_wp2_with fail
 rw [rounds_succ]
 go_wp2_with fail
 rw [rounds_succ]
 go_wp2_with fail
 rw [rounds_succ]
 go_wp2_with fail
 have Ob : Blk _ (w.heap.size + 1 + 1) #[.int .u64 E, .int .u64 r0, .int .u64 r1, .int .u64 r2, .int .u64 r3, .int .u64 0, .int .u64 0, .int .u64 (St.sum0 E r0 r1 r2 r3), .int .u64 E, .int .u64 r4, .int .u64 r5, .int .u64 r6, .int .u64 r7, .int .u64 1, .int .u64 0, .int .u64 0] 99 := (((((((Oa').set 7 (.int .u64 (St.sum0 E r0 r1 r2 r3))).set 8 (.int .u64 E)).set 9 (.int .u64 r4)).set 10 (.int .u64 r5)).set 11 (.int .u64 r6)).set 12 (.int .u64 r7)).set 13 (.int .u64 1)
 have hchb := ((((((((Below.refl (w.heap.size + 1 + 1) w2)).setCell (p := ⟨w.heap.size + 1 + 1, 7, none⟩) (Nat.le_refl _) (.int .u64 (St.sum0 E r0 r1 r2 r3))).setCell (p := ⟨w.heap.size + 1 + 1, 8, none⟩) (Nat.le_refl _) (.int .u64 E)).setCell (p := ⟨w.heap.size + 1 + 1, 9, none⟩) (Nat.le_refl _) (.int .u64 r4)).setCell (p := ⟨w.heap.size + 1 + 1, 10, none⟩) (Nat.le_refl _) (.int .u64 r5)).setCell (p := ⟨w.heap.size + 1 + 1, 11, none⟩) (Nat.le_refl _) (.int .u64 r6)).setCell (p := ⟨w.heap.size + 1 + 1, 12, none⟩) (Nat.le_refl _) (.int .u64 r7)).setCell (p := ⟨w.heap.size + 1 + 1, 13, none⟩) (Nat.le_refl _) (.int .u64 1)
 refine (crcWords_any _ 7 _ [E, r4, r5, r6, r7, 1, 0] _ _ (RowAt.of_blk_at Ob 8 7 (by simp)) W1.out (by omega) (Nat.le_refl _)).mono ?_
 rintro e w3 ⟨rfl, hbb⟩
 rw [show Cr.more 0 (By.bytes [E, r4, r5, r6, r7, 1, 0]) = St.sum1 E r4 r5 r6 r7 from rfl]
 have Ob' := Ob.below hbb Ob.lt
 have Xb' := (Xa'.below hchb (by omega)).below hbb (Xa'.below hchb (by omega)).lt
 have Rb' := (Ra'.below hchb (by omega)).below hbb (Ra'.below hchb (by omega)).lt
 have hBb' := (hBa'.trans (hchb.mono (by omega))).trans (hbb.mono (hBa'.trans (hchb.mono (by omega))).size)
 clear hchb hbb
 clear bc0 bf0 bc1 bf1 bc2 bf2 bc3 bf3 bc4 bf4 bc5 bf5 bc6 bf6 bc7 bf7 bc8 bf8 bc9 bf9 bc10 bf10 bc11 bf11 bc12 bf12 bc13 bf13 bc14 bf14 bc15 bf15 y0 y1 y2 y3 y4 y5 y6 y7 y8
 have zc := Ob'.cell 15 _ rfl
 have zf := Ob'.frozen 15
 have Oc : Blk _ (w.heap.size + 1 + 1) #[.int .u64 E, .int .u64 r0, .int .u64 r1, .int .u64 r2, .int .u64 r3, .int .u64 0, .int .u64 0, .int .u64 (St.sum0 E r0 r1 r2 r3), .int .u64 E, .int .u64 r4, .int .u64 r5, .int .u64 r6, .int .u64 r7, .int .u64 1, .int .u64 0, .int .u64 (St.sum1 E r4 r5 r6 r7)] 99 := Ob'.set 15 (.int .u64 (St.sum1 E r4 r5 r6 r7))
 have hchc := (Below.refl (w.heap.size + 1 + 1) w3).setCell (p := ⟨w.heap.size + 1 + 1, 15, none⟩) (Nat.le_refl _) (.int .u64 (St.sum1 E r4 r5 r6 r7))
 have Rc := Rb'.below hchc (by omega)
 have hBc := hBb'.trans (hchc.mono (by omega))
 go_wp2_with fail
 rw [rounds_succ]
 go_wp2_with (first
  | (refine wpList_load_row (P := Try.prog) rfl 99 (.tmp 3) rfl (w.heap.size + 1 + 1) rfl _ #[.int .u64 E, .int .u64 r0, .int .u64 r1, .int .u64 r2, .int .u64 r3, .int .u64 0, .int .u64 0, .int .u64 (St.sum0 E r0 r1 r2 r3), .int .u64 E, .int .u64 r4, .int .u64 r5, .int .u64 r6, .int .u64 r7, .int .u64 1, .int .u64 0, .int .u64 (St.sum1 E r4 r5 r6 r7)] (0, 0) _ Oc Try.underlying99 rfl (by kernel_rfl) ?_)
  | (refine wpList_store_row (P := Try.prog) rfl 99 (.tmp 2) (.tmp 51) rfl (w.heap.size + 1) _ #[.int .u64 E, .int .u64 r0, .int .u64 r1, .int .u64 r2, .int .u64 r3, .int .u64 0, .int .u64 0, .int .u64 (St.sum0 E r0 r1 r2 r3), .int .u64 E, .int .u64 r4, .int .u64 r5, .int .u64 r6, .int .u64 r7, .int .u64 1, .int .u64 0, .int .u64 (St.sum1 E r4 r5 r6 r7)] _ rfl rfl Rc rfl HI.out (by kernel_rfl) HONE.out ?_))
 exact bodyPost_ret (v := .agg #[.int .u64 E, .int .u64 r0, .int .u64 r1, .int .u64 r2, .int .u64 r3, .int .u64 0, .int .u64 0, .int .u64 (St.sum0 E r0 r1 r2 r3), .int .u64 E, .int .u64 r4, .int .u64 r5, .int .u64 r6, .int .u64 r7, .int .u64 1, .int .u64 0, .int .u64 (St.sum1 E r4 r5 r6 r7)]) (results_cell_row rfl _ _ (w.heap.size + 1) _ #[.int .u64 E, .int .u64 r0, .int .u64 r1, .int .u64 r2, .int .u64 r3, .int .u64 0, .int .u64 0, .int .u64 (St.sum0 E r0 r1 r2 r3), .int .u64 E, .int .u64 r4, .int .u64 r5, .int .u64 r6, .int .u64 r7, .int .u64 1, .int .u64 0, .int .u64 (St.sum1 E r4 r5 r6 r7)] (0, 0) _ rfl (setRow_heap _ _ _ _ _ _ Rc) Try.underlying99 rfl (by kernel_rfl)) rfl ⟨rfl, below_setRow hBc (by first | omega | (simp; done)) _⟩
end Go.Proofs.Ytmekhdclnhhhbaa
end

section
namespace Go.Proofs.Ytmekhdclnhhhbaa
open Go.RowKit
set_option maxHeartbeats 8000000
set_option maxRecDepth 100000
theorem rslRight_any (E r0 r1 r2 r3 r4 r5 r6 r7 : Int) (w : World) (hE : 0 ≤ E ∧ E ≤ 18446744073709551615) (hR : ∀ r ∈ [r0, r1, r2, r3, r4, r5, r6, r7], I64 r) :
  Calls Try.prog 123 #[.agg #[.int .u64 E, .int .i64 r0, .int .i64 r1, .int .i64 r2, .int .i64 r3, .int .i64 r4, .int .i64 r5, .int .i64 r6, .int .i64 r7]] w fun e w' => e = .returned (.bool (St.rightB E [r0, r1, r2, r3, r4, r5, r6, r7])) ∧ Below w.heap.size w w' := by
 have HR := Lib.hid hR
 have hX : ∀ (k : Nat) (r : Int), [r0, r1, r2, r3, r4, r5, r6, r7][k]? = some r → (w.alloc (.cells #[.int .u64 E, .int .i64 r0, .int .i64 r1, .int .i64 r2, .int .i64 r3, .int .i64 r4, .int .i64 r5, .int .i64 r6, .int .i64 r7] 89)).cell? ⟨w.heap.size, 1 + k, none⟩ = some (.int .i64 r) := by
  intro k r hr
  refine (Blk.new w #[.int .u64 E, .int .i64 r0, .int .i64 r1, .int .i64 r2, .int .i64 r3, .int .i64 r4, .int .i64 r5, .int .i64 r6, .int .i64 r7] 89).cell (1 + k) _ ?_
  have e : (#[.int .u64 E, .int .i64 r0, .int .i64 r1, .int .i64 r2, .int .i64 r3, .int .i64 r4, .int .i64 r5, .int .i64 r6, .int .i64 r7] : Array Value) = (Value.int .u64 E :: [r0, r1, r2, r3, r4, r5, r6, r7].map (Value.int .i64)).toArray := rfl
  rw [e, List.getElem?_toArray, Nat.add_comm, List.getElem?_cons_succ, List.getElem?_map, hr]; rfl
 have HX := Lib.hid hX
 clear hR hX
 go_enter Try.func123, Try.ntmps123
 go_wp2_with fail
 go_loop [3] (fun t => ∃ k : Nat, k ≤ 8 ∧ t = .int .i64 k ∧ St.okR ([r0, r1, r2, r3, r4, r5, r6, r7].take k)) (fun t => 8 - (intOf t).toNat)
 case atStart => exact ⟨0, by omega, rfl, by intro x hx; simp at hx⟩
 case round =>
  obtain ⟨k, hk, rfl, hok⟩ := hrel
  have hok := Lib.hid hok
  by_cases hlt : k < 8
  ·obtain ⟨r, hr⟩ : ∃ r, [r0, r1, r2, r3, r4, r5, r6, r7][k]? = some r := ⟨_, List.getElem?_eq_getElem hlt⟩
   have hc := HX.out k r hr
   have hc2 := hc
   rw [Nat.add_comm 1 k] at hc2
   have hb := i64_of _ _ _ _ _ _ _ _ HR.out k r hr
   unfold I64 at hb
   replace hr := Lib.hid hr
   by_cases h1 : 0 ≤ r ∧ r ≤ 131071
   ·have hs := Lib.hid (St.okR_take_succ _ k r hr.out hok.out h1)
    go_wp2_with fail
    go_round
    case rel => exact ⟨k + 1, by omega, by go_num, hs.out⟩
    case measure => simp [intOf] <;> omega
   ·have ev := Lib.hid (St.rightB_no E _ (fun h => St.okR_not _ k r hr.out h1 h.1))
    rcases (show r < 0 ∨ (0 ≤ r ∧ 131071 < r) from by omega) with g | ⟨g1, g2⟩
    all_goals
     clear h1
     go_wp2_with fail
     go_ret
     exact ⟨ret_bool ev.out.symm, (Below.refl _ _).alloc (Nat.le_refl _) _⟩
  ·obtain rfl : k = 8 := by omega
   by_cases h1 : 0 < E
   ·have ev := Lib.hid (St.rightB_yes E _ hok.out h1)
    go_wp2_with fail
    go_ret
    exact ⟨by first | exact ret_bool ev.out.symm | (apply ret_bool; rw [show ([r0, r1, r2, r3, r4, r5, r6, r7].take 8) = [r0, r1, r2, r3, r4, r5, r6, r7] from rfl] at ev; rw [ev.out]; simp; omega), (Below.refl _ _).alloc (Nat.le_refl _) _⟩
   ·have ev := Lib.hid (St.rightB_no E [r0, r1, r2, r3, r4, r5, r6, r7] (fun h => h1 h.2))
    go_wp2_with fail
    go_ret
    exact ⟨by first | exact ret_bool ev.out.symm | (apply ret_bool; rw [ev.out]; simp; omega), (Below.refl _ _).alloc (Nat.le_refl _) _⟩
theorem rline0_any (E r0 r1 r2 r3 r4 r5 r6 r7 : Int) (w : World) (hE : 0 ≤ E ∧ E ≤ 18446744073709551615) (hr0 : 0 ≤ r0 ∧ r0 ≤ 131071) (hr1 : 0 ≤ r1 ∧ r1 ≤ 131071) (hr2 : 0 ≤ r2 ∧ r2 ≤ 131071) (hr3 : 0 ≤ r3 ∧ r3 ≤ 131071) (hr4 : 0 ≤ r4 ∧ r4 ≤ 131071) (hr5 : 0 ≤ r5 ∧ r5 ≤ 131071) (hr6 : 0 ≤ r6 ∧ r6 ≤ 131071) (hr7 : 0 ≤ r7 ∧ r7 ≤ 131071) :
  Calls Try.prog 124 #[.agg #[.int .u64 E, .int .i64 r0, .int .i64 r1, .int .i64 r2, .int .i64 r3, .int .i64 r4, .int .i64 r5, .int .i64 r6, .int .i64 r7], .int .i64 0] w fun e w' => ∃ v, e = .returned v ∧ w'.ownsRow w.heap.size 22 1 v 8 [.int .u64 E, .int .u64 r0, .int .u64 r1, .int .u64 r2, .int .u64 r3, .int .u64 0, .int .u64 0, .int .u64 (St.sum0 E r0 r1 r2 r3)] ∧ Below w.heap.size w w' := by
 obtain ⟨i0, hi0, hz0, hz1, hz2⟩ := info_parts info_u64
 have S0 := St.sum0_bd E r0 r1 r2 r3
 have W0 := Lib.hid (slrow_wf E r0 r1 r2 r3 0 hE hr0 hr1 hr2 hr3 (by omega))
 have X := Lib.hid (Blk.new w #[.int .u64 E, .int .i64 r0, .int .i64 r1, .int .i64 r2, .int .i64 r3, .int .i64 r4, .int .i64 r5, .int .i64 r6, .int .i64 r7] 89)
 have hB : Below w.heap.size w (w.alloc (.cells #[.int .u64 E, .int .i64 r0, .int .i64 r1, .int .i64 r2, .int .i64 r3, .int .i64 r4, .int .i64 r5, .int .i64 r6, .int .i64 r7] 89)) := (Below.refl _ _).alloc (Nat.le_refl _) _
 have hs0 : (w.alloc (.cells #[.int .u64 E, .int .i64 r0, .int .i64 r1, .int .i64 r2, .int .i64 r3, .int .i64 r4, .int .i64 r5, .int .i64 r6, .int .i64 r7] 89)).heap.size = w.heap.size + 1 := World.size_alloc ..
 have own0 := World.ownsRow_lit (base := w.heap.size + 1) (e := 22) (size := 1) (w.alloc (.cells #[.int .u64 E, .int .i64 r0, .int .i64 r1, .int .i64 r2, .int .i64 r3, .int .i64 r4, .int .i64 r5, .int .i64 r6, .int .i64 r7] 89)) #[.int .u64 E] 1 (by rw [hs0]; exact Nat.le_refl _) (by unfold maxLen; omega) rfl
 have be0 : Below (w.heap.size + 1) (w.alloc (.cells #[.int .u64 E, .int .i64 r0, .int .i64 r1, .int .i64 r2, .int .i64 r3, .int .i64 r4, .int .i64 r5, .int .i64 r6, .int .i64 r7] 89)) ((w.alloc (.cells #[.int .u64 E, .int .i64 r0, .int .i64 r1, .int .i64 r2, .int .i64 r3, .int .i64 r4, .int .i64 r5, .int .i64 r6, .int .i64 r7] 89)).alloc (.cells #[.int .u64 E] 22)) := (Below.refl _ _).alloc (by rw [hs0]; exact Nat.le_refl _) _
 rw [hs0] at own0
 have sz0 := be0.size
 rw [hs0] at sz0
 clear hs0
 have hW1 : ∃ W1, W1 = ((w.alloc (.cells #[.int .u64 E, .int .i64 r0, .int .i64 r1, .int .i64 r2, .int .i64 r3, .int .i64 r4, .int .i64 r5, .int .i64 r6, .int .i64 r7] 89)).alloc (.cells #[.int .u64 E] 22)) := ⟨_, rfl⟩
 obtain ⟨W1, hW1⟩ := hW1
 rw [← hW1] at own0 be0 sz0
 replace hW1 := Lib.hid hW1
 have X0 := X.out.below be0 (by omega)
 have x0 := X0.cell 0 _ rfl
 have x1 := X0.cell 1 _ rfl
 have x2 := X0.cell 2 _ rfl
 have x3 := X0.cell 3 _ rfl
 have x4 := X0.cell 4 _ rfl
 have x5 := X0.cell 5 _ rfl
 have x6 := X0.cell 6 _ rfl
 have x7 := X0.cell 7 _ rfl
 have x8 := X0.cell 8 _ rfl
 go_enter Try.func124, Try.ntmps124
 go_wp2_with fail
 rw [← hW1.out]
 refine wp_loop_rounds 5 ?_
 rw [rounds_succ]
 go_wp2_with (first
  | (at_builtin; refine wpList_app1 (P := Try.prog) rfl (.tmp 14) (.tmp 23) 25 rfl (w.heap.size + 1) 22 i0 (.int .u64 0) 8 Try.underlying25 hi0 hz0 hz1 hz2 rfl _ _ _ rfl own0 _ _ rfl rfl (by unfold maxLen; omega) (by omega) sz0 (w.heap.size + 1) _ be0 (Nat.le_refl _) ?_; intro v1 w1 own1 be1 _ _; have sz1 : w.heap.size + 1 ≤ w1.heap.size := Nat.le_trans sz0 (by first | omega | (have := be1.size; simp at this; omega)); have X1 := X.out.below be1 (by omega); have x1_0 := X1.cell 0 _ rfl; have x1_1 := X1.cell 1 _ rfl; have x1_2 := X1.cell 2 _ rfl; have x1_3 := X1.cell 3 _ rfl; have x1_4 := X1.cell 4 _ rfl; have x1_5 := X1.cell 5 _ rfl; have x1_6 := X1.cell 6 _ rfl; have x1_7 := X1.cell 7 _ rfl; have x1_8 := X1.cell 8 _ rfl))
 rw [rounds_succ]
 go_wp2_with (first
  | (at_builtin; refine wpList_app1 (P := Try.prog) rfl (.tmp 14) (.tmp 23) 25 rfl (w.heap.size + 1) 22 i0 (.int .u64 0) 8 Try.underlying25 hi0 hz0 hz1 hz2 rfl _ _ _ rfl own1 _ _ rfl rfl (by unfold maxLen; omega) (by omega) sz1 (w.heap.size + 1) _ be1 (Nat.le_refl _) ?_; intro v2 w2 own2 be2 _ _; have sz2 : w.heap.size + 1 ≤ w2.heap.size := Nat.le_trans sz1 (by first | omega | (have := be2.size; simp at this; omega)); have X2 := X.out.below be2 (by omega); have x2_0 := X2.cell 0 _ rfl; have x2_1 := X2.cell 1 _ rfl; have x2_2 := X2.cell 2 _ rfl; have x2_3 := X2.cell 3 _ rfl; have x2_4 := X2.cell 4 _ rfl; have x2_5 := X2.cell 5 _ rfl; have x2_6 := X2.cell 6 _ rfl; have x2_7 := X2.cell 7 _ rfl; have x2_8 := X2.cell 8 _ rfl))
 rw [rounds_succ]
 go_wp2_with (first
  | (at_builtin; refine wpList_app1 (P := Try.prog) rfl (.tmp 14) (.tmp 23) 25 rfl (w.heap.size + 1) 22 i0 (.int .u64 0) 8 Try.underlying25 hi0 hz0 hz1 hz2 rfl _ _ _ rfl own2 _ _ rfl rfl (by unfold maxLen; omega) (by omega) sz2 (w.heap.size + 1) _ be2 (Nat.le_refl _) ?_; intro v3 w3 own3 be3 _ _; have sz3 : w.heap.size + 1 ≤ w3.heap.size := Nat.le_trans sz2 (by first | omega | (have := be3.size; simp at this; omega)); have X3 := X.out.below be3 (by omega); have x3_0 := X3.cell 0 _ rfl; have x3_1 := X3.cell 1 _ rfl; have x3_2 := X3.cell 2 _ rfl; have x3_3 := X3.cell 3 _ rfl; have x3_4 := X3.cell 4 _ rfl; have x3_5 := X3.cell 5 _ rfl; have x3_6 := X3.cell 6 _ rfl; have x3_7 := X3.cell 7 _ rfl; have x3_8 := X3.cell 8 _ rfl))
 rw [rounds_succ]
 go_wp2_with (first
  | (at_builtin; refine wpList_app1 (P := Try.prog) rfl (.tmp 14) (.tmp 23) 25 rfl (w.heap.size + 1) 22 i0 (.int .u64 0) 8 Try.underlying25 hi0 hz0 hz1 hz2 rfl _ _ _ rfl own3 _ _ rfl rfl (by unfold maxLen; omega) (by omega) sz3 (w.heap.size + 1) _ be3 (Nat.le_refl _) ?_; intro v4 w4 own4 be4 _ _; have sz4 : w.heap.size + 1 ≤ w4.heap.size := Nat.le_trans sz3 (by first | omega | (have := be4.size; simp at this; omega)); have X4 := X.out.below be4 (by omega); have x4_0 := X4.cell 0 _ rfl; have x4_1 := X4.cell 1 _ rfl; have x4_2 := X4.cell 2 _ rfl; have x4_3 := X4.cell 3 _ rfl; have x4_4 := X4.cell 4 _ rfl; have x4_5 := X4.cell 5 _ rfl; have x4_6 := X4.cell 6 _ rfl; have x4_7 := X4.cell 7 _ rfl; have x4_8 := X4.cell 8 _ rfl))
 rw [rounds_succ]
 go_wp2_with (first
  | (at_builtin; refine wpList_app2 (P := Try.prog) rfl (.tmp 25) (.tmp 28) 25 rfl (w.heap.size + 1) 22 i0 (.int .u64 0) 8 Try.underlying25 hi0 hz0 hz1 hz2 rfl _ _ _ rfl own4 _ _ _ rfl rfl rfl (by unfold maxLen; omega) (by omega) sz4 (w.heap.size + 1) _ be4 (Nat.le_refl _) ?_; intro v5 w5 own5 be5 hl5 _; have sz5 : w.heap.size + 1 ≤ w5.heap.size := Nat.le_trans sz4 (by omega); obtain ⟨A5, c5, rfl, hn5, hm5, _⟩ := own_shape own5))
 refine (rCrcWords_any A5 _ c5 [E, r0, r1, r2, r3, 0, 0] _ _ (RowAt.of_own own5) W0.out (by omega) (Nat.le_refl _)).mono ?_
 rintro e w6 ⟨rfl, hb6⟩
 rw [show Cr.more 0 (By.bytes [E, r0, r1, r2, r3, 0, 0]) = St.sum0 E r0 r1 r2 r3 from rfl]
 have own6 := own_below own5 hb6
 have be6 := be5.trans (hb6.mono sz5)
 have sz6 : w.heap.size + 1 ≤ w6.heap.size := Nat.le_trans sz5 hb6.size
 go_wp2_with (first
  | (at_builtin; refine wpList_app1 (P := Try.prog) rfl (.tmp 30) (.tmp 34) 25 rfl (w.heap.size + 1) 22 i0 (.int .u64 0) 8 Try.underlying25 hi0 hz0 hz1 hz2 rfl _ _ _ rfl own6 _ _ rfl rfl (by unfold maxLen; omega) (by omega) sz6 (w.heap.size + 1) _ be6 (Nat.le_refl _) ?_; intro v7 w7 own7 be7 _ _))
 go_ret
 exact ⟨_, rfl, own_mono own7 (by omega), hB.trans (be7.mono (by omega))⟩
theorem rline1_any (E r0 r1 r2 r3 r4 r5 r6 r7 : Int) (w : World) (hE : 0 ≤ E ∧ E ≤ 18446744073709551615) (hr0 : 0 ≤ r0 ∧ r0 ≤ 131071) (hr1 : 0 ≤ r1 ∧ r1 ≤ 131071) (hr2 : 0 ≤ r2 ∧ r2 ≤ 131071) (hr3 : 0 ≤ r3 ∧ r3 ≤ 131071) (hr4 : 0 ≤ r4 ∧ r4 ≤ 131071) (hr5 : 0 ≤ r5 ∧ r5 ≤ 131071) (hr6 : 0 ≤ r6 ∧ r6 ≤ 131071) (hr7 : 0 ≤ r7 ∧ r7 ≤ 131071) :
  Calls Try.prog 124 #[.agg #[.int .u64 E, .int .i64 r0, .int .i64 r1, .int .i64 r2, .int .i64 r3, .int .i64 r4, .int .i64 r5, .int .i64 r6, .int .i64 r7], .int .i64 1] w fun e w' => ∃ v, e = .returned v ∧ w'.ownsRow w.heap.size 22 1 v 8 [.int .u64 E, .int .u64 r4, .int .u64 r5, .int .u64 r6, .int .u64 r7, .int .u64 1, .int .u64 0, .int .u64 (St.sum1 E r4 r5 r6 r7)] ∧ Below w.heap.size w w' := by
 obtain ⟨i0, hi0, hz0, hz1, hz2⟩ := info_parts info_u64
 have S0 := St.sum1_bd E r4 r5 r6 r7
 have W0 := Lib.hid (slrow_wf E r4 r5 r6 r7 1 hE hr4 hr5 hr6 hr7 (by omega))
 have X := Lib.hid (Blk.new w #[.int .u64 E, .int .i64 r0, .int .i64 r1, .int .i64 r2, .int .i64 r3, .int .i64 r4, .int .i64 r5, .int .i64 r6, .int .i64 r7] 89)
 have hB : Below w.heap.size w (w.alloc (.cells #[.int .u64 E, .int .i64 r0, .int .i64 r1, .int .i64 r2, .int .i64 r3, .int .i64 r4, .int .i64 r5, .int .i64 r6, .int .i64 r7] 89)) := (Below.refl _ _).alloc (Nat.le_refl _) _
 have hs0 : (w.alloc (.cells #[.int .u64 E, .int .i64 r0, .int .i64 r1, .int .i64 r2, .int .i64 r3, .int .i64 r4, .int .i64 r5, .int .i64 r6, .int .i64 r7] 89)).heap.size = w.heap.size + 1 := World.size_alloc ..
 have own0 := World.ownsRow_lit (base := w.heap.size + 1) (e := 22) (size := 1) (w.alloc (.cells #[.int .u64 E, .int .i64 r0, .int .i64 r1, .int .i64 r2, .int .i64 r3, .int .i64 r4, .int .i64 r5, .int .i64 r6, .int .i64 r7] 89)) #[.int .u64 E] 1 (by rw [hs0]; exact Nat.le_refl _) (by unfold maxLen; omega) rfl
 have be0 : Below (w.heap.size + 1) (w.alloc (.cells #[.int .u64 E, .int .i64 r0, .int .i64 r1, .int .i64 r2, .int .i64 r3, .int .i64 r4, .int .i64 r5, .int .i64 r6, .int .i64 r7] 89)) ((w.alloc (.cells #[.int .u64 E, .int .i64 r0, .int .i64 r1, .int .i64 r2, .int .i64 r3, .int .i64 r4, .int .i64 r5, .int .i64 r6, .int .i64 r7] 89)).alloc (.cells #[.int .u64 E] 22)) := (Below.refl _ _).alloc (by rw [hs0]; exact Nat.le_refl _) _
 rw [hs0] at own0
 have sz0 := be0.size
 rw [hs0] at sz0
 clear hs0
 have hW1 : ∃ W1, W1 = ((w.alloc (.cells #[.int .u64 E, .int .i64 r0, .int .i64 r1, .int .i64 r2, .int .i64 r3, .int .i64 r4, .int .i64 r5, .int .i64 r6, .int .i64 r7] 89)).alloc (.cells #[.int .u64 E] 22)) := ⟨_, rfl⟩
 obtain ⟨W1, hW1⟩ := hW1
 rw [← hW1] at own0 be0 sz0
 replace hW1 := Lib.hid hW1
 have X0 := X.out.below be0 (by omega)
 have x0 := X0.cell 0 _ rfl
 have x1 := X0.cell 1 _ rfl
 have x2 := X0.cell 2 _ rfl
 have x3 := X0.cell 3 _ rfl
 have x4 := X0.cell 4 _ rfl
 have x5 := X0.cell 5 _ rfl
 have x6 := X0.cell 6 _ rfl
 have x7 := X0.cell 7 _ rfl
 have x8 := X0.cell 8 _ rfl
 go_enter Try.func124, Try.ntmps124
 go_wp2_with fail
 rw [← hW1.out]
 refine wp_loop_rounds 5 ?_
 rw [rounds_succ]
 go_wp2_with (first
  | (at_builtin; refine wpList_app1 (P := Try.prog) rfl (.tmp 14) (.tmp 23) 25 rfl (w.heap.size + 1) 22 i0 (.int .u64 0) 8 Try.underlying25 hi0 hz0 hz1 hz2 rfl _ _ _ rfl own0 _ _ rfl rfl (by unfold maxLen; omega) (by omega) sz0 (w.heap.size + 1) _ be0 (Nat.le_refl _) ?_; intro v1 w1 own1 be1 _ _; have sz1 : w.heap.size + 1 ≤ w1.heap.size := Nat.le_trans sz0 (by first | omega | (have := be1.size; simp at this; omega)); have X1 := X.out.below be1 (by omega); have x1_0 := X1.cell 0 _ rfl; have x1_1 := X1.cell 1 _ rfl; have x1_2 := X1.cell 2 _ rfl; have x1_3 := X1.cell 3 _ rfl; have x1_4 := X1.cell 4 _ rfl; have x1_5 := X1.cell 5 _ rfl; have x1_6 := X1.cell 6 _ rfl; have x1_7 := X1.cell 7 _ rfl; have x1_8 := X1.cell 8 _ rfl))
 rw [rounds_succ]
 go_wp2_with (first
  | (at_builtin; refine wpList_app1 (P := Try.prog) rfl (.tmp 14) (.tmp 23) 25 rfl (w.heap.size + 1) 22 i0 (.int .u64 0) 8 Try.underlying25 hi0 hz0 hz1 hz2 rfl _ _ _ rfl own1 _ _ rfl rfl (by unfold maxLen; omega) (by omega) sz1 (w.heap.size + 1) _ be1 (Nat.le_refl _) ?_; intro v2 w2 own2 be2 _ _; have sz2 : w.heap.size + 1 ≤ w2.heap.size := Nat.le_trans sz1 (by first | omega | (have := be2.size; simp at this; omega)); have X2 := X.out.below be2 (by omega); have x2_0 := X2.cell 0 _ rfl; have x2_1 := X2.cell 1 _ rfl; have x2_2 := X2.cell 2 _ rfl; have x2_3 := X2.cell 3 _ rfl; have x2_4 := X2.cell 4 _ rfl; have x2_5 := X2.cell 5 _ rfl; have x2_6 := X2.cell 6 _ rfl; have x2_7 := X2.cell 7 _ rfl; have x2_8 := X2.cell 8 _ rfl))
 rw [rounds_succ]
 go_wp2_with (first
  | (at_builtin; refine wpList_app1 (P := Try.prog) rfl (.tmp 14) (.tmp 23) 25 rfl (w.heap.size + 1) 22 i0 (.int .u64 0) 8 Try.underlying25 hi0 hz0 hz1 hz2 rfl _ _ _ rfl own2 _ _ rfl rfl (by unfold maxLen; omega) (by omega) sz2 (w.heap.size + 1) _ be2 (Nat.le_refl _) ?_; intro v3 w3 own3 be3 _ _; have sz3 : w.heap.size + 1 ≤ w3.heap.size := Nat.le_trans sz2 (by first | omega | (have := be3.size; simp at this; omega)); have X3 := X.out.below be3 (by omega); have x3_0 := X3.cell 0 _ rfl; have x3_1 := X3.cell 1 _ rfl; have x3_2 := X3.cell 2 _ rfl; have x3_3 := X3.cell 3 _ rfl; have x3_4 := X3.cell 4 _ rfl; have x3_5 := X3.cell 5 _ rfl; have x3_6 := X3.cell 6 _ rfl; have x3_7 := X3.cell 7 _ rfl; have x3_8 := X3.cell 8 _ rfl))
 rw [rounds_succ]
 go_wp2_with (first
  | (at_builtin; refine wpList_app1 (P := Try.prog) rfl (.tmp 14) (.tmp 23) 25 rfl (w.heap.size + 1) 22 i0 (.int .u64 0) 8 Try.underlying25 hi0 hz0 hz1 hz2 rfl _ _ _ rfl own3 _ _ rfl rfl (by unfold maxLen; omega) (by omega) sz3 (w.heap.size + 1) _ be3 (Nat.le_refl _) ?_; intro v4 w4 own4 be4 _ _; have sz4 : w.heap.size + 1 ≤ w4.heap.size := Nat.le_trans sz3 (by first | omega | (have := be4.size; simp at this; omega)); have X4 := X.out.below be4 (by omega); have x4_0 := X4.cell 0 _ rfl; have x4_1 := X4.cell 1 _ rfl; have x4_2 := X4.cell 2 _ rfl; have x4_3 := X4.cell 3 _ rfl; have x4_4 := X4.cell 4 _ rfl; have x4_5 := X4.cell 5 _ rfl; have x4_6 := X4.cell 6 _ rfl; have x4_7 := X4.cell 7 _ rfl; have x4_8 := X4.cell 8 _ rfl))
 rw [rounds_succ]
 go_wp2_with (first
  | (at_builtin; refine wpList_app2 (P := Try.prog) rfl (.tmp 25) (.tmp 28) 25 rfl (w.heap.size + 1) 22 i0 (.int .u64 0) 8 Try.underlying25 hi0 hz0 hz1 hz2 rfl _ _ _ rfl own4 _ _ _ rfl rfl rfl (by unfold maxLen; omega) (by omega) sz4 (w.heap.size + 1) _ be4 (Nat.le_refl _) ?_; intro v5 w5 own5 be5 hl5 _; have sz5 : w.heap.size + 1 ≤ w5.heap.size := Nat.le_trans sz4 (by omega); obtain ⟨A5, c5, rfl, hn5, hm5, _⟩ := own_shape own5))
 refine (rCrcWords_any A5 _ c5 [E, r4, r5, r6, r7, 1, 0] _ _ (RowAt.of_own own5) W0.out (by omega) (Nat.le_refl _)).mono ?_
 rintro e w6 ⟨rfl, hb6⟩
 rw [show Cr.more 0 (By.bytes [E, r4, r5, r6, r7, 1, 0]) = St.sum1 E r4 r5 r6 r7 from rfl]
 have own6 := own_below own5 hb6
 have be6 := be5.trans (hb6.mono sz5)
 have sz6 : w.heap.size + 1 ≤ w6.heap.size := Nat.le_trans sz5 hb6.size
 go_wp2_with (first
  | (at_builtin; refine wpList_app1 (P := Try.prog) rfl (.tmp 30) (.tmp 34) 25 rfl (w.heap.size + 1) 22 i0 (.int .u64 0) 8 Try.underlying25 hi0 hz0 hz1 hz2 rfl _ _ _ rfl own6 _ _ rfl rfl (by unfold maxLen; omega) (by omega) sz6 (w.heap.size + 1) _ be6 (Nat.le_refl _) ?_; intro v7 w7 own7 be7 _ _))
 go_ret
 exact ⟨_, rfl, own_mono own7 (by omega), hB.trans (be7.mono (by omega))⟩
end Go.Proofs.Ytmekhdclnhhhbaa
end

section
namespace Go.Proofs.Ytmekhdclnhhhbaa.Xp
open Go Go.RowKit
/-- k behind so many digits -/
def kd (c k : Int) : Nat → Int
 | 0 => k
 | i + 1 => kd c k i / c
def okC (l c k : Int) : Prop := 0 ≤ l ∧ l ≤ 65536 ∧ 1 ≤ c ∧ c ≤ 256 ∧ 0 ≤ k
instance (l c k : Int) : Decidable (okC l c k) := by unfold okC; infer_instance
/-- a list that is filled from its head on -/
theorem set_fill {α : Type} (xs : List α) (z x : α) (n i : Nat) (hx : xs.length = i) (h : i < n) : (xs ++ List.replicate (n - i) z).set i x = (xs ++ [x]) ++ List.replicate (n - (i + 1)) z := by
 subst hx
 rw [List.set_append_right _ _ (Nat.le_refl _), Nat.sub_self]
 obtain ⟨m, hm⟩ : ∃ m, n - xs.length = m + 1 := ⟨n - xs.length - 1, by omega⟩
 rw [hm, List.replicate_succ, List.set_cons_zero, show n - (xs.length + 1) = m from by omega]
 simp
theorem fill_get {α : Type} (xs : List α) (z : α) (n i : Nat) (hx : xs.length = i) (h : i < n) : (xs ++ List.replicate (n - i) z)[i]? = some z := by
 subst hx
 rw [List.getElem?_append_right (Nat.le_refl _), Nat.sub_self, List.getElem?_replicate, if_pos (by omega)]
/-- the number of digits, the lowest first -/
def nval (c : Int) : List Int → Int
 | [] => 0
 | d :: l => d + c * nval c l
def okD (c : Int) (l : List Int) : Prop := ∀ d ∈ l, 0 ≤ d ∧ d < c
/-- the number that the page says; -1: none -/
def cOk (c : Int) : Prop := 1 ≤ c ∧ c ≤ 256
instance (c : Int) : Decidable (cOk c) := by unfold cOk; infer_instance
instance (c : Int) (l : List Int) : Decidable (okD c l) := by unfold okD; infer_instance
def numOk (c : Int) (l : List Int) : Prop := cOk c ∧ okD c l ∧ nval c l ≤ 1099511627776
instance (c : Int) (l : List Int) : Decidable (numOk c l) := by unfold numOk; infer_instance
def number (c : Int) (l : List Int) : Int := if numOk c l then nval c l else -1
/-- bit i of the Gray code of k -/
def gb (k i : Nat) : Bool := Nat.testBit k i ^^ Nat.testBit k (i + 1)
/-- what the code keeps: the number, and what is over -/
def over (w n : Int) (i : Nat) : Int := (i : Int) * w % n
/-- how many are told -/
def many (v m : Int) : Int := min (min v m) 4096
end Go.Proofs.Ytmekhdclnhhhbaa.Xp
end

section
namespace Go.Proofs.Ytmekhdclnhhhbaa
open Go.RowKit
set_option maxHeartbeats 8000000
set_option maxRecDepth 100000
theorem wanted_plain {P : Program} {ops : Array Oper} {o : Oper} {a : Act} {w : World} {K : Act → World → Prop} {Q : Exit → Act → World → Prop} {E : Prop} (hg : o.guard = none) (h : Oper.wp P o a w K Q) :
  if Region.wanted o (yielded ops a.tmps) = true then Oper.wp P o a w K Q else E := by
 have hw : Region.wanted o (yielded ops a.tmps) = true := by simp [Region.wanted, hg]
 rw [if_pos hw]; exact h
theorem s9 {Z W : World} {x : Nat} {T : TypeId} {c0 c1 c2 c3 c4 c5 c6 c7 c8 : Value} (X : Blk Z x #[c0, c1, c2, c3, c4, c5, c6, c7, c8] T) {B : Nat} (hx : x < B) (h : Below B Z W) :
  W.cell? ⟨x, 0, none⟩ = some c0 ∧ W.cell? ⟨x, 1, none⟩ = some c1 ∧ W.cell? ⟨x, 2, none⟩ = some c2 ∧ W.cell? ⟨x, 3, none⟩ = some c3 ∧ W.cell? ⟨x, 4, none⟩ = some c4 ∧ W.cell? ⟨x, 5, none⟩ = some c5 ∧ W.cell? ⟨x, 6, none⟩ = some c6 ∧ W.cell? ⟨x, 7, none⟩ = some c7 ∧ W.cell? ⟨x, 8, none⟩ = some c8 ∧ Below B Z W := by
 have X' := X.below h hx
 exact ⟨X'.cell 0 _ rfl, X'.cell 1 _ rfl, X'.cell 2 _ rfl, X'.cell 3 _ rfl, X'.cell 4 _ rfl, X'.cell 5 _ rfl, X'.cell 6 _ rfl, X'.cell 7 _ rfl, X'.cell 8 _ rfl, h⟩
theorem rslEnc_no (E r0 r1 r2 r3 r4 r5 r6 r7 : Int) (w : World) (hE : 0 ≤ E ∧ E ≤ 18446744073709551615) (hR : ∀ r ∈ [r0, r1, r2, r3, r4, r5, r6, r7], I64 r) (h : St.rightB E [r0, r1, r2, r3, r4, r5, r6, r7] = false) :
  Calls Try.prog 116 #[.agg #[.int .u64 E, .int .i64 r0, .int .i64 r1, .int .i64 r2, .int .i64 r3, .int .i64 r4, .int .i64 r5, .int .i64 r6, .int .i64 r7]] w fun e w' => e = .returned (.agg #[.int .u64 0, .int .u64 0, .int .u64 0, .int .u64 0, .int .u64 0, .int .u64 0, .int .u64 0, .int .u64 0, .int .u64 0, .int .u64 0, .int .u64 0, .int .u64 0, .int .u64 0, .int .u64 0, .int .u64 0, .int .u64 0]) ∧ Below w.heap.size w w' := by
 have HRR := Lib.hid hR
 clear hR
 obtain ⟨i16, hi16⟩ := Option.isSome_iff_exists.1 isSome16
 have HI := Lib.hid hi16
 clear hi16
 have hone : ∀ v ∈ (#[.int .u64 0, .int .u64 0, .int .u64 0, .int .u64 0, .int .u64 0, .int .u64 0, .int .u64 0, .int .u64 0, .int .u64 0, .int .u64 0, .int .u64 0, .int .u64 0, .int .u64 0, .int .u64 0, .int .u64 0, .int .u64 0] : Array Value).toList, v.oneCell' = true := by simp [Value.oneCell']
 have HONE := Lib.hid hone
 clear hone
 have X := Lib.hid (((Blk.new w #[.int .u64 E, .int .i64 r0, .int .i64 r1, .int .i64 r2, .int .i64 r3, .int .i64 r4, .int .i64 r5, .int .i64 r6, .int .i64 r7] 89).alloc (.cells #[.int .u64 0, .int .u64 0, .int .u64 0, .int .u64 0, .int .u64 0, .int .u64 0, .int .u64 0, .int .u64 0, .int .u64 0, .int .u64 0, .int .u64 0, .int .u64 0, .int .u64 0, .int .u64 0, .int .u64 0, .int .u64 0] 99)).alloc (.cells #[.int .u64 0, .int .u64 0, .int .u64 0, .int .u64 0, .int .u64 0, .int .u64 0, .int .u64 0, .int .u64 0, .int .u64 0, .int .u64 0, .int .u64 0, .int .u64 0, .int .u64 0, .int .u64 0, .int .u64 0, .int .u64 0] 99))
 have R := Lib.hid ((Blk.new1 w (.cells #[.int .u64 E, .int .i64 r0, .int .i64 r1, .int .i64 r2, .int .i64 r3, .int .i64 r4, .int .i64 r5, .int .i64 r6, .int .i64 r7] 89) #[.int .u64 0, .int .u64 0, .int .u64 0, .int .u64 0, .int .u64 0, .int .u64 0, .int .u64 0, .int .u64 0, .int .u64 0, .int .u64 0, .int .u64 0, .int .u64 0, .int .u64 0, .int .u64 0, .int .u64 0, .int .u64 0] 99).alloc (.cells #[.int .u64 0, .int .u64 0, .int .u64 0, .int .u64 0, .int .u64 0, .int .u64 0, .int .u64 0, .int .u64 0, .int .u64 0, .int .u64 0, .int .u64 0, .int .u64 0, .int .u64 0, .int .u64 0, .int .u64 0, .int .u64 0] 99))
 have O := Lib.hid (Blk.new2 w (.cells #[.int .u64 E, .int .i64 r0, .int .i64 r1, .int .i64 r2, .int .i64 r3, .int .i64 r4, .int .i64 r5, .int .i64 r6, .int .i64 r7] 89) (.cells #[.int .u64 0, .int .u64 0, .int .u64 0, .int .u64 0, .int .u64 0, .int .u64 0, .int .u64 0, .int .u64 0, .int .u64 0, .int .u64 0, .int .u64 0, .int .u64 0, .int .u64 0, .int .u64 0, .int .u64 0, .int .u64 0] 99) #[.int .u64 0, .int .u64 0, .int .u64 0, .int .u64 0, .int .u64 0, .int .u64 0, .int .u64 0, .int .u64 0, .int .u64 0, .int .u64 0, .int .u64 0, .int .u64 0, .int .u64 0, .int .u64 0, .int .u64 0, .int .u64 0] 99)
 have hB : Below w.heap.size w (((w.alloc (.cells #[.int .u64 E, .int .i64 r0, .int .i64 r1, .int .i64 r2, .int .i64 r3, .int .i64 r4, .int .i64 r5, .int .i64 r6, .int .i64 r7] 89)).alloc (.cells #[.int .u64 0, .int .u64 0, .int .u64 0, .int .u64 0, .int .u64 0, .int .u64 0, .int .u64 0, .int .u64 0, .int .u64 0, .int .u64 0, .int .u64 0, .int .u64 0, .int .u64 0, .int .u64 0, .int .u64 0, .int .u64 0] 99)).alloc (.cells #[.int .u64 0, .int .u64 0, .int .u64 0, .int .u64 0, .int .u64 0, .int .u64 0, .int .u64 0, .int .u64 0, .int .u64 0, .int .u64 0, .int .u64 0, .int .u64 0, .int .u64 0, .int .u64 0, .int .u64 0, .int .u64 0] 99)) := (((Below.refl _ _).alloc (Nat.le_refl _) _).alloc (by simp) _).alloc (by simp; omega) _
 go_enter Try.func116, Try.ntmps116
 go_wp2_with (first
  | (go_at_call 123; refine (rslRight_any _ _ _ _ _ _ _ _ _ _ hE HRR.out).mono ?_; rintro e w1 ⟨rfl, hb1⟩; have X1 := X.out.below hb1 X.out.lt; have R1 := R.out.below hb1 R.out.lt; have O1 := O.out.below hb1 O.out.lt; have hB1 := hB.trans (hb1.mono hB.size))
  | (refine wpList_load_row (P := Try.prog) rfl 99 (.tmp 3) rfl (w.heap.size + 1 + 1) rfl _ #[.int .u64 0, .int .u64 0, .int .u64 0, .int .u64 0, .int .u64 0, .int .u64 0, .int .u64 0, .int .u64 0, .int .u64 0, .int .u64 0, .int .u64 0, .int .u64 0, .int .u64 0, .int .u64 0, .int .u64 0, .int .u64 0] (0, 0) _ O1 Try.underlying99 rfl (by kernel_rfl) ?_)
  | (refine wpList_store_row (P := Try.prog) rfl 99 (.tmp 2) (.tmp 23) rfl (w.heap.size + 1) _ #[.int .u64 0, .int .u64 0, .int .u64 0, .int .u64 0, .int .u64 0, .int .u64 0, .int .u64 0, .int .u64 0, .int .u64 0, .int .u64 0, .int .u64 0, .int .u64 0, .int .u64 0, .int .u64 0, .int .u64 0, .int .u64 0] _ rfl rfl R1 rfl HI.out (by kernel_rfl) HONE.out ?_))
 exact bodyPost_ret (v := .agg #[.int .u64 0, .int .u64 0, .int .u64 0, .int .u64 0, .int .u64 0, .int .u64 0, .int .u64 0, .int .u64 0, .int .u64 0, .int .u64 0, .int .u64 0, .int .u64 0, .int .u64 0, .int .u64 0, .int .u64 0, .int .u64 0]) (results_cell_row rfl _ _ (w.heap.size + 1) _ #[.int .u64 0, .int .u64 0, .int .u64 0, .int .u64 0, .int .u64 0, .int .u64 0, .int .u64 0, .int .u64 0, .int .u64 0, .int .u64 0, .int .u64 0, .int .u64 0, .int .u64 0, .int .u64 0, .int .u64 0, .int .u64 0] (0, 0) _ rfl (setRow_heap _ _ _ _ _ _ R1) Try.underlying99 rfl (by kernel_rfl)) rfl ⟨rfl, below_setRow hB1 (by first | omega | (simp; done)) _⟩
theorem rslEnc_yes (E r0 r1 r2 r3 r4 r5 r6 r7 : Int) (w : World) (hE : 0 ≤ E ∧ E ≤ 18446744073709551615) (hE0 : 0 < E) (hr0 : 0 ≤ r0 ∧ r0 ≤ 131071) (hr1 : 0 ≤ r1 ∧ r1 ≤ 131071) (hr2 : 0 ≤ r2 ∧ r2 ≤ 131071) (hr3 : 0 ≤ r3 ∧ r3 ≤ 131071) (hr4 : 0 ≤ r4 ∧ r4 ≤ 131071) (hr5 : 0 ≤ r5 ∧ r5 ≤ 131071) (hr6 : 0 ≤ r6 ∧ r6 ≤ 131071) (hr7 : 0 ≤ r7 ∧ r7 ≤ 131071) :
  Calls Try.prog 116 #[.agg #[.int .u64 E, .int .i64 r0, .int .i64 r1, .int .i64 r2, .int .i64 r3, .int .i64 r4, .int .i64 r5, .int .i64 r6, .int .i64 r7]] w fun e w' => e = .returned (.agg #[.int .u64 E, .int .u64 r0, .int .u64 r1, .int .u64 r2, .int .u64 r3, .int .u64 0, .int .u64 0, .int .u64 (St.sum0 E r0 r1 r2 r3), .int .u64 E, .int .u64 r4, .int .u64 r5, .int .u64 r6, .int .u64 r7, .int .u64 1, .int .u64 0, .int .u64 (St.sum1 E r4 r5 r6 r7)]) ∧ Below w.heap.size w w' := by
 have hRb : St.okR [r0, r1, r2, r3, r4, r5, r6, r7] := by
  intro r hr
  simp at hr
  rcases hr with rfl | rfl | rfl | rfl | rfl | rfl | rfl | rfl <;> assumption
 have hrb := St.rightB_yes E _ hRb hE0
 have HRR := Lib.hid (fun r hr => (⟨by have := hRb r hr; omega, by have := hRb r hr; omega⟩ : I64 r))
 clear hRb
 obtain ⟨i0, hi0, hz0, hz1, hz2⟩ := info_parts info_u64
 obtain ⟨i16, hi16⟩ := Option.isSome_iff_exists.1 isSome16
 have HI := Lib.hid hi16
 clear hi16
 have hone : ∀ v ∈ (#[.int .u64 E, .int .u64 r0, .int .u64 r1, .int .u64 r2, .int .u64 r3, .int .u64 0, .int .u64 0, .int .u64 (St.sum0 E r0 r1 r2 r3), .int .u64 E, .int .u64 r4, .int .u64 r5, .int .u64 r6, .int .u64 r7, .int .u64 1, .int .u64 0, .int .u64 (St.sum1 E r4 r5 r6 r7)] : Array Value).toList, v.oneCell' = true := by simp [Value.oneCell']
 have HONE := Lib.hid hone
 clear hone
 have X := Lib.hid (((Blk.new w #[.int .u64 E, .int .i64 r0, .int .i64 r1, .int .i64 r2, .int .i64 r3, .int .i64 r4, .int .i64 r5, .int .i64 r6, .int .i64 r7] 89).alloc (.cells #[.int .u64 0, .int .u64 0, .int .u64 0, .int .u64 0, .int .u64 0, .int .u64 0, .int .u64 0, .int .u64 0, .int .u64 0, .int .u64 0, .int .u64 0, .int .u64 0, .int .u64 0, .int .u64 0, .int .u64 0, .int .u64 0] 99)).alloc (.cells #[.int .u64 0, .int .u64 0, .int .u64 0, .int .u64 0, .int .u64 0, .int .u64 0, .int .u64 0, .int .u64 0, .int .u64 0, .int .u64 0, .int .u64 0, .int .u64 0, .int .u64 0, .int .u64 0, .int .u64 0, .int .u64 0] 99))
 have R := Lib.hid ((Blk.new1 w (.cells #[.int .u64 E, .int .i64 r0, .int .i64 r1, .int .i64 r2, .int .i64 r3, .int .i64 r4, .int .i64 r5, .int .i64 r6, .int .i64 r7] 89) #[.int .u64 0, .int .u64 0, .int .u64 0, .int .u64 0, .int .u64 0, .int .u64 0, .int .u64 0, .int .u64 0, .int .u64 0, .int .u64 0, .int .u64 0, .int .u64 0, .int .u64 0, .int .u64 0, .int .u64 0, .int .u64 0] 99).alloc (.cells #[.int .u64 0, .int .u64 0, .int .u64 0, .int .u64 0, .int .u64 0, .int .u64 0, .int .u64 0, .int .u64 0, .int .u64 0, .int .u64 0, .int .u64 0, .int .u64 0, .int .u64 0, .int .u64 0, .int .u64 0, .int .u64 0] 99))
 have O := Lib.hid (Blk.new2 w (.cells #[.int .u64 E, .int .i64 r0, .int .i64 r1, .int .i64 r2, .int .i64 r3, .int .i64 r4, .int .i64 r5, .int .i64 r6, .int .i64 r7] 89) (.cells #[.int .u64 0, .int .u64 0, .int .u64 0, .int .u64 0, .int .u64 0, .int .u64 0, .int .u64 0, .int .u64 0, .int .u64 0, .int .u64 0, .int .u64 0, .int .u64 0, .int .u64 0, .int .u64 0, .int .u64 0, .int .u64 0] 99) #[.int .u64 0, .int .u64 0, .int .u64 0, .int .u64 0, .int .u64 0, .int .u64 0, .int .u64 0, .int .u64 0, .int .u64 0, .int .u64 0, .int .u64 0, .int .u64 0, .int .u64 0, .int .u64 0, .int .u64 0, .int .u64 0] 99)
 have hB : Below w.heap.size w (((w.alloc (.cells #[.int .u64 E, .int .i64 r0, .int .i64 r1, .int .i64 r2, .int .i64 r3, .int .i64 r4, .int .i64 r5, .int .i64 r6, .int .i64 r7] 89)).alloc (.cells #[.int .u64 0, .int .u64 0, .int .u64 0, .int .u64 0, .int .u64 0, .int .u64 0, .int .u64 0, .int .u64 0, .int .u64 0, .int .u64 0, .int .u64 0, .int .u64 0, .int .u64 0, .int .u64 0, .int .u64 0, .int .u64 0] 99)).alloc (.cells #[.int .u64 0, .int .u64 0, .int .u64 0, .int .u64 0, .int .u64 0, .int .u64 0, .int .u64 0, .int .u64 0, .int .u64 0, .int .u64 0, .int .u64 0, .int .u64 0, .int .u64 0, .int .u64 0, .int .u64 0, .int .u64 0] 99)) := (((Below.refl _ _).alloc (Nat.le_refl _) _).alloc (by simp) _).alloc (by simp; omega) _
 go_enter Try.func116, Try.ntmps116
 go_wp2_with (first
  | (go_at_call 123; refine (rslRight_any _ _ _ _ _ _ _ _ _ _ hE HRR.out).mono ?_; rintro e w1 ⟨rfl, hb1⟩; have X1 := X.out.below hb1 X.out.lt; have R1 := R.out.below hb1 R.out.lt; have O1 := O.out.below hb1 O.out.lt; have hB1 := hB.trans (hb1.mono hB.size)))
 have s9' := s9 X1 (by have := X1.lt; exact this) (Below.refl w1.heap.size w1).drew
 have hz1' : w.heap.size + 1 + 1 < w1.heap.size := O1.lt
 refine wp_region_held_drew (S := fun W => W.cell? ⟨w.heap.size, 0, none⟩ = some (.int .u64 E) ∧ W.cell? ⟨w.heap.size, 1, none⟩ = some (.int .i64 r0) ∧ W.cell? ⟨w.heap.size, 2, none⟩ = some (.int .i64 r1) ∧ W.cell? ⟨w.heap.size, 3, none⟩ = some (.int .i64 r2) ∧ W.cell? ⟨w.heap.size, 4, none⟩ = some (.int .i64 r3) ∧ W.cell? ⟨w.heap.size, 5, none⟩ = some (.int .i64 r4) ∧ W.cell? ⟨w.heap.size, 6, none⟩ = some (.int .i64 r5) ∧ W.cell? ⟨w.heap.size, 7, none⟩ = some (.int .i64 r6) ∧ W.cell? ⟨w.heap.size, 8, none⟩ = some (.int .i64 r7) ∧ Below w1.heap.size w1 W) (by kernel_rfl) ?_ (fun hHeld => ?_)
 ·(try dsimp only)
  (first | assumption | exact s9' | exact hS4)
 first | (refine wpAnyH_take (i := 0) (v := ?_) rfl (by kernel_rfl) (by kernel_rfl) (by kernel_rfl) (fun _ _ _ h => h) (Or.inl ⟨by rfl, ?_⟩) (by assumption) ?_; rotate_left; (focus (intro w hSw; (try dsimp only at hSw); go_simp; first | done | with_reducible rfl))) | (refine wpAnyH_take (i := 0) rfl (by kernel_rfl) (by kernel_rfl) (by kernel_rfl) (fun _ _ _ h => h) (Or.inr ⟨by rfl, rfl⟩) (by assumption) ?_) | fail
 try simp only [Act.put, List.getElem_toArray, List.getElem_cons_zero, List.getElem_cons_succ, List.setIfInBounds_toArray, List.set_cons_zero, List.set_cons_succ]
 first | (refine wpAnyH_take (i := 2) (v := ?_) rfl (by kernel_rfl) (by kernel_rfl) (by kernel_rfl) (fun _ _ _ h => h) (Or.inl ⟨by rfl, ?_⟩) (by assumption) ?_; rotate_left; (focus (intro w hSw; (try dsimp only at hSw); go_simp; first | done | with_reducible rfl))) | (refine wpAnyH_take (i := 2) rfl (by kernel_rfl) (by kernel_rfl) (by kernel_rfl) (fun _ _ _ h => h) (Or.inr ⟨by rfl, rfl⟩) (by assumption) ?_) | fail
 try simp only [Act.put, List.getElem_toArray, List.getElem_cons_zero, List.getElem_cons_succ, List.setIfInBounds_toArray, List.set_cons_zero, List.set_cons_succ]
 refine wpAnyH_ready (rs := [1]) (by kernel_rfl) (by simp) (AllReadyH.cons rfl (fun K hK => ?_) AllReadyH.nil)
 (try go_simp)
 have hS := (by assumption : _ ∧ _ ∧ _ ∧ _ ∧ _ ∧ _ ∧ _ ∧ _ ∧ _ ∧ Below _ _ _).2.2.2.2.2.2.2.2.2
 refine (rline0_any _ _ _ _ _ _ _ _ _ _ hE hr0 hr1 hr2 hr3 hr4 hr5 hr6 hr7).mono ?_
 rintro e w2 ⟨v2, rfl, own2, hb2⟩
 have hbe2 := hS.trans (hb2.mono hS.size)
 have own2 := own_mono own2 hS.size
 have hS' := s9 X1 X1.lt hbe2
 clear hS hb2
 refine hK.out _ _ ?_ (fun hHeld => ?_)
 ·(try dsimp only)
  (first | assumption | exact s9' | exact hS4)
 clear hK K
 try simp only [Act.put, List.getElem_toArray, List.getElem_cons_zero, List.getElem_cons_succ, List.setIfInBounds_toArray, List.set_cons_zero, List.set_cons_succ]
 refine wpAnyH_ready (rs := [3]) (by kernel_rfl) (by simp) (AllReadyH.cons rfl (fun K hK => ?_) AllReadyH.nil)
 (try go_simp)
 refine (rline1_any _ _ _ _ _ _ _ _ _ _ hE hr0 hr1 hr2 hr3 hr4 hr5 hr6 hr7).mono ?_
 rintro e w3 ⟨v3, rfl, own3, hb3⟩
 have hbe3 := hbe2.trans (hb3.mono hbe2.size)
 have own3 := own_mono own3 hbe2.size
 have own2' := own_below own2 hb3
 have hS' := s9 X1 X1.lt hbe3
 clear hb3
 obtain ⟨A3, c3, rfl, hn3, hm3, _⟩ := own_shape own3
 obtain ⟨g3, rfl, _⟩ := own_in own3 (j := 0) (by omega)
 refine hK.out _ _ ?_ (fun hHeld => ?_)
 ·(try dsimp only)
  (first | assumption | exact s9' | exact hS4)
 clear hK K
 try simp only [Act.put, List.getElem_toArray, List.getElem_cons_zero, List.getElem_cons_succ, List.setIfInBounds_toArray, List.set_cons_zero, List.set_cons_succ]
 refine wpAnyH_ready (rs := [4]) (by kernel_rfl) (by simp) (AllReadyH.cons rfl (fun K hK => ?_) AllReadyH.nil)
 refine wanted_plain rfl ?_
 refine wp_append_own (P := Try.prog) w3 (.tmp 9) (.tmp 11) 25 rfl w1.heap.size 22 i0 (.int .u64 0) 1 8 Try.underlying25 hi0 hz0 hz1 hz2 rfl (by decide) v2 8 _ rfl own2' ⟨g3, 0, none⟩ 8 c3 [.int .u64 E, .int .u64 r4, .int .u64 r5, .int .u64 r6, .int .u64 r7, .int .u64 1, .int .u64 0, .int .u64 (St.sum1 E r4 r5 r6 r7)] rfl rfl (fun j u hj => by have hl := (List.getElem?_eq_some_iff.1 hj).1; have e : ((⟨g3, 0, none⟩ : Addr).add j) = ⟨g3, j, none⟩ := (by unfold Addr.add; split <;> simp_all); rw [e, own3.cellAt j (by simpa using hl), hj]) (by simp [Value.oneCell']) (by unfold maxLen; omega) (by omega) hbe3.size ?_
 intro v4 w4 own4 hg4 _
 have hbe4 := hbe3.grown hg4 hbe3.size (fun k hk => ownBlock_ge own2' k hk)
 have hS4 := s9 X1 X1.lt hbe4
 refine hK.out _ _ ?_ (fun hHeld => ?_)
 ·(try dsimp only)
  (first | assumption | exact s9' | exact hS4)
 clear hK K
 try simp only [Act.put, List.getElem_toArray, List.getElem_cons_zero, List.getElem_cons_succ, List.setIfInBounds_toArray, List.set_cons_zero, List.set_cons_succ]
 first | (refine wpAnyH_take (i := 5) (v := ?_) rfl (by kernel_rfl) (by kernel_rfl) (by kernel_rfl) (fun _ _ _ h => h) (Or.inl ⟨by rfl, ?_⟩) (by assumption) ?_; rotate_left; (focus (intro w hSw; (try dsimp only at hSw); go_simp; first | done | with_reducible rfl))) | (refine wpAnyH_take (i := 5) rfl (by kernel_rfl) (by kernel_rfl) (by kernel_rfl) (fun _ _ _ h => h) (Or.inr ⟨by rfl, rfl⟩) (by assumption) ?_) | fail
 try simp only [Act.put, List.getElem_toArray, List.getElem_cons_zero, List.getElem_cons_succ, List.setIfInBounds_toArray, List.set_cons_zero, List.set_cons_succ]
 refine wpAnyH_done (by kernel_rfl) ?_ _
 have R4 := R1.below hbe4 R1.lt
 have O4 := O1.below hbe4 O1.lt
 have hB4 := hB1.trans (hbe4.mono hB1.size)
 replace own4 : w4.ownsRow w1.heap.size 22 1 v4 16 ([E, r0, r1, r2, r3, 0, 0, (St.sum0 E r0 r1 r2 r3), E, r4, r5, r6, r7, 1, 0, (St.sum1 E r4 r5 r6 r7)].map (Value.int .u64)) := own4
 obtain ⟨A4, c4, rfl, hn4, hm4, _⟩ := own_shape own4
 obtain ⟨g4, rfl, hg4b, _⟩ := own_in own4 (j := 0) (by omega)
 go_wp2_with fail
 have O4' : Blk w4 (w.heap.size + 1 + 1) ((([E, r0, r1, r2, r3, 0, 0, (St.sum0 E r0 r1 r2 r3), E, r4, r5, r6, r7, 1, 0, (St.sum1 E r4 r5 r6 r7)].take 0) ++ List.replicate (16 - 0) 0).map (Value.int .u64)).toArray 99 := O4
 go_loopw [5] (fun t wr => ∃ k : Nat, k ≤ 16 ∧ t = .int .i64 k ∧ Blk wr (w.heap.size + 1 + 1) ((([E, r0, r1, r2, r3, 0, 0, (St.sum0 E r0 r1 r2 r3), E, r4, r5, r6, r7, 1, 0, (St.sum1 E r4 r5 r6 r7)].take k) ++ List.replicate (16 - k) 0).map (Value.int .u64)).toArray 99 ∧ Blk wr (w.heap.size + 1) #[.int .u64 0, .int .u64 0, .int .u64 0, .int .u64 0, .int .u64 0, .int .u64 0, .int .u64 0, .int .u64 0, .int .u64 0, .int .u64 0, .int .u64 0, .int .u64 0, .int .u64 0, .int .u64 0, .int .u64 0, .int .u64 0] 99 ∧ wr.ownsRow w1.heap.size 22 1 (.slice (some ⟨g4, 0, none⟩) 16 c4) 16 ([E, r0, r1, r2, r3, 0, 0, (St.sum0 E r0 r1 r2 r3), E, r4, r5, r6, r7, 1, 0, (St.sum1 E r4 r5 r6 r7)].map (Value.int .u64)) ∧ Below w.heap.size w wr) (fun t _ => 16 - (intOf t).toNat)
 case atStart => exact ⟨0, by omega, rfl, O4', R4, own4, hB4⟩
 case round =>
  clear O4' O4 R4 own4 hB4 hS4 hbe4 hg4
  obtain ⟨k, hk, rfl, Ok, Rk, ownk, hBk⟩ := hrel
  by_cases hlt : k < 16
  ·obtain ⟨x, hx⟩ : ∃ x, [E, r0, r1, r2, r3, 0, 0, (St.sum0 E r0 r1 r2 r3), E, r4, r5, r6, r7, 1, 0, (St.sum1 E r4 r5 r6 r7)][k]? = some x := ⟨_, List.getElem?_eq_getElem hlt⟩
   have hlen : ([E, r0, r1, r2, r3, 0, 0, (St.sum0 E r0 r1 r2 r3), E, r4, r5, r6, r7, 1, 0, (St.sum1 E r4 r5 r6 r7)].take k).length = k := by rw [List.length_take]; show min k 16 = k; omega
   have hc := ownk.cellAt k (by omega)
   rw [List.getElem?_map, hx] at hc
   have hc : wr.cell? ⟨g4, k, none⟩ = some (.int .u64 x) := hc
   have hoc := Ok.cell k (.int .u64 0) (by rw [List.getElem?_toArray, List.getElem?_map, Xp.fill_get _ _ 16 k hlen hlt]; rfl)
   have hof := Ok.frozen k
   have hset := Ok.set k (.int .u64 x)
   rw [List.setIfInBounds_toArray, ← List.map_set, Xp.set_fill _ 0 x 16 k hlen hlt, ← take_succ_of hx] at hset
   have N1 := Lib.hid hset
   have N2 := Lib.hid (Rk.other ⟨w.heap.size + 1 + 1, k, none⟩ (.int .u64 x) (by simp))
   have N3 := Lib.hid (own_other ownk ⟨w.heap.size + 1 + 1, k, none⟩ (.int .u64 x) (by simpa using hz1'))
   have N4 := Lib.hid (hBk.setCell (p := ⟨w.heap.size + 1 + 1, k, none⟩) (by first | (simp; done) | (simp; omega)) (.int .u64 x))
   clear hset hx hlen
   go_wp2_with fail
   go_roundw
   case rel => exact ⟨k + 1, by omega, by go_num, N1.out, N2.out, N3.out, N4.out⟩
   case measure => simp [intOf] <;> omega
  ·obtain rfl : k = 16 := by omega
   have O5 : Blk wr (w.heap.size + 1 + 1) #[.int .u64 E, .int .u64 r0, .int .u64 r1, .int .u64 r2, .int .u64 r3, .int .u64 0, .int .u64 0, .int .u64 (St.sum0 E r0 r1 r2 r3), .int .u64 E, .int .u64 r4, .int .u64 r5, .int .u64 r6, .int .u64 r7, .int .u64 1, .int .u64 0, .int .u64 (St.sum1 E r4 r5 r6 r7)] 99 := Ok
   go_wp2_with (first
    | (refine wpList_load_row (P := Try.prog) rfl 99 (.tmp 3) rfl (w.heap.size + 1 + 1) rfl _ #[.int .u64 E, .int .u64 r0, .int .u64 r1, .int .u64 r2, .int .u64 r3, .int .u64 0, .int .u64 0, .int .u64 (St.sum0 E r0 r1 r2 r3), .int .u64 E, .int .u64 r4, .int .u64 r5, .int .u64 r6, .int .u64 r7, .int .u64 1, .int .u64 0, .int .u64 (St.sum1 E r4 r5 r6 r7)] (0, 0) _ O5 Try.underlying99 rfl (by kernel_rfl) ?_)
    | (refine wpList_store_row (P := Try.prog) rfl 99 (.tmp 2) (.tmp 23) rfl (w.heap.size + 1) _ #[.int .u64 E, .int .u64 r0, .int .u64 r1, .int .u64 r2, .int .u64 r3, .int .u64 0, .int .u64 0, .int .u64 (St.sum0 E r0 r1 r2 r3), .int .u64 E, .int .u64 r4, .int .u64 r5, .int .u64 r6, .int .u64 r7, .int .u64 1, .int .u64 0, .int .u64 (St.sum1 E r4 r5 r6 r7)] _ rfl rfl Rk rfl HI.out (by kernel_rfl) HONE.out ?_))
   exact bodyPost_ret (v := .agg #[.int .u64 E, .int .u64 r0, .int .u64 r1, .int .u64 r2, .int .u64 r3, .int .u64 0, .int .u64 0, .int .u64 (St.sum0 E r0 r1 r2 r3), .int .u64 E, .int .u64 r4, .int .u64 r5, .int .u64 r6, .int .u64 r7, .int .u64 1, .int .u64 0, .int .u64 (St.sum1 E r4 r5 r6 r7)]) (results_cell_row rfl _ _ (w.heap.size + 1) _ #[.int .u64 E, .int .u64 r0, .int .u64 r1, .int .u64 r2, .int .u64 r3, .int .u64 0, .int .u64 0, .int .u64 (St.sum0 E r0 r1 r2 r3), .int .u64 E, .int .u64 r4, .int .u64 r5, .int .u64 r6, .int .u64 r7, .int .u64 1, .int .u64 0, .int .u64 (St.sum1 E r4 r5 r6 r7)] (0, 0) _ rfl (setRow_heap _ _ _ _ _ _ Rk) Try.underlying99 rfl (by kernel_rfl)) rfl ⟨rfl, below_setRow hBk (by first | omega | (simp; done)) _⟩
end Go.Proofs.Ytmekhdclnhhhbaa
end

section
namespace Go.Proofs.Ytmekhdclnhhhbaa
open Go.RowKit
set_option maxHeartbeats 8000000
set_option maxRecDepth 100000
def U64s (x : Int) : Prop := 0 ≤ x ∧ x ≤ 18446744073709551615
theorem u64s_wf (a b c d e f g : Int) (ha : U64s a) (hb : U64s b) (hc : U64s c) (hd : U64s d) (he : U64s e) (hf : U64s f) (hg : U64s g) : Ints .u64 [a, b, c, d, e, f, g] := by
 intro x hx
 simp at hx
 apply wf_u64
 rcases hx with rfl | rfl | rfl | rfl | rfl | rfl | rfl <;> assumption
theorem slDec_sum0 (l0 l1 l2 l3 l4 l5 l6 l7 l8 l9 l10 l11 l12 l13 l14 l15 : Int) (w : World) (hl0 : U64s l0) (hl1 : U64s l1) (hl2 : U64s l2) (hl3 : U64s l3) (hl4 : U64s l4) (hl5 : U64s l5) (hl6 : U64s l6) (hl7 : U64s l7) (hl8 : U64s l8) (hl9 : U64s l9) (hl10 : U64s l10) (hl11 : U64s l11) (hl12 : U64s l12) (hl13 : U64s l13) (hl14 : U64s l14) (hl15 : U64s l15) (hne : l7 ≠ St.sum7 l0 l1 l2 l3 l4 l5 l6) :
  Calls Try.prog 118 #[.agg #[.int .u64 l0, .int .u64 l1, .int .u64 l2, .int .u64 l3, .int .u64 l4, .int .u64 l5, .int .u64 l6, .int .u64 l7, .int .u64 l8, .int .u64 l9, .int .u64 l10, .int .u64 l11, .int .u64 l12, .int .u64 l13, .int .u64 l14, .int .u64 l15]] w fun e w' => e = .returned (.tuple #[.agg #[.int .u64 0, .int .i64 0, .int .i64 0, .int .i64 0, .int .i64 0, .int .i64 0, .int .i64 0, .int .i64 0, .int .i64 0], .int .i64 25]) ∧ Below w.heap.size w w' := by
 have d0 : (l7 != St.sum7 l0 l1 l2 l3 l4 l5 l6) = true := by rw [bne_iff_ne]; exact hne
 clear hne
 have W0 := Lib.hid (u64s_wf l0 l1 l2 l3 l4 l5 l6 hl0 hl1 hl2 hl3 hl4 hl5 hl6)
 have W1 := Lib.hid (u64s_wf l8 l9 l10 l11 l12 l13 l14 hl8 hl9 hl10 hl11 hl12 hl13 hl14)
 have b0 := St.sum7_bd l0 l1 l2 l3 l4 l5 l6
 have b1 := St.sum7_bd l8 l9 l10 l11 l12 l13 l14
 have q0 : IntKind.u64.wrap (St.sum7 l0 l1 l2 l3 l4 l5 l6) = St.sum7 l0 l1 l2 l3 l4 l5 l6 := by rw [IntKind.wrap_u64]; omega
 have q1 : IntKind.u64.wrap (St.sum7 l8 l9 l10 l11 l12 l13 l14) = St.sum7 l8 l9 l10 l11 l12 l13 l14 := by rw [IntKind.wrap_u64]; omega
 have X := Lib.hid ((Blk.new w #[.int .u64 l0, .int .u64 l1, .int .u64 l2, .int .u64 l3, .int .u64 l4, .int .u64 l5, .int .u64 l6, .int .u64 l7, .int .u64 l8, .int .u64 l9, .int .u64 l10, .int .u64 l11, .int .u64 l12, .int .u64 l13, .int .u64 l14, .int .u64 l15] 99).alloc (.cells #[.int .u64 0, .int .i64 0, .int .i64 0, .int .i64 0, .int .i64 0, .int .i64 0, .int .i64 0, .int .i64 0, .int .i64 0] 144))
 have R := Lib.hid (Blk.new1 w (.cells #[.int .u64 l0, .int .u64 l1, .int .u64 l2, .int .u64 l3, .int .u64 l4, .int .u64 l5, .int .u64 l6, .int .u64 l7, .int .u64 l8, .int .u64 l9, .int .u64 l10, .int .u64 l11, .int .u64 l12, .int .u64 l13, .int .u64 l14, .int .u64 l15] 99) #[.int .u64 0, .int .i64 0, .int .i64 0, .int .i64 0, .int .i64 0, .int .i64 0, .int .i64 0, .int .i64 0, .int .i64 0] 144)
 have hB : Below w.heap.size w ((w.alloc (.cells #[.int .u64 l0, .int .u64 l1, .int .u64 l2, .int .u64 l3, .int .u64 l4, .int .u64 l5, .int .u64 l6, .int .u64 l7, .int .u64 l8, .int .u64 l9, .int .u64 l10, .int .u64 l11, .int .u64 l12, .int .u64 l13, .int .u64 l14, .int .u64 l15] 99)).alloc (.cells #[.int .u64 0, .int .i64 0, .int .i64 0, .int .i64 0, .int .i64 0, .int .i64 0, .int .i64 0, .int .i64 0, .int .i64 0] 144)) := ((Below.refl _ _).alloc (Nat.le_refl _) _).alloc (by simp) _
 generalize hZ : ((w.alloc (.cells #[.int .u64 l0, .int .u64 l1, .int .u64 l2, .int .u64 l3, .int .u64 l4, .int .u64 l5, .int .u64 l6, .int .u64 l7, .int .u64 l8, .int .u64 l9, .int .u64 l10, .int .u64 l11, .int .u64 l12, .int .u64 l13, .int .u64 l14, .int .u64 l15] 99)).alloc (.cells #[.int .u64 0, .int .i64 0, .int .i64 0, .int .i64 0, .int .i64 0, .int .i64 0, .int .i64 0, .int .i64 0, .int .i64 0] 144)) = Z at *
 have x7 := X.out.cell 7 _ rfl
 go_enter Try.func118, Try.ntmps118
 go_wp2_with fail
 refine wp_loop_rounds 3 ?_
 rw [rounds_succ]
 go_wp2_with fail
 go_region_held3 (fun W => W.cell? ⟨w.heap.size, 7, none⟩ = some (.int .u64 l7) ∧ Below Z.heap.size Z W)
  (first | assumption | exact ⟨x7, (Below.refl _ _).drew⟩)
  (first
   | (go_at_call 82; refine (crcWords_any _ 7 _ [l0, l1, l2, l3, l4, l5, l6] _ _ ((RowAt.of_blk_at X.out 0 7 (by simp)).below (by assumption : _ ∧ Below _ _ _).2) W0.out (by omega) (by assumption : _ ∧ Below _ _ _).2.size).mono ?_; rintro e w5 ⟨rfl, hb5⟩; rw [show Cr.more 0 (By.bytes [l0, l1, l2, l3, l4, l5, l6]) = St.sum7 l0 l1 l2 l3 l4 l5 l6 from rfl]; have hS := (by assumption : _ ∧ Below _ _ _); have hS' := And.intro ((hb5.cell (cell_lt hS.1)).trans hS.1) (hS.2.trans (hb5.mono hS.2.size))))
 have hSw5 := (by assumption : _ ∧ Below Z.heap.size Z _)
 have Xw5 := X.out.below hSw5.2 X.out.lt
 have Rw5 := R.out.below hSw5.2 R.out.lt
 have Bw5 := hB.trans (hSw5.2.mono hB.size)
 have r0 := Rw5.cell 0 _ rfl
 have r1 := Rw5.cell 1 _ rfl
 have r2 := Rw5.cell 2 _ rfl
 have r3 := Rw5.cell 3 _ rfl
 have r4 := Rw5.cell 4 _ rfl
 have r5 := Rw5.cell 5 _ rfl
 have r6 := Rw5.cell 6 _ rfl
 have r7 := Rw5.cell 7 _ rfl
 have r8 := Rw5.cell 8 _ rfl
 have f0 := Rw5.frozen 0
 have f1 := Rw5.frozen 1
 have f2 := Rw5.frozen 2
 have f3 := Rw5.frozen 3
 have f4 := Rw5.frozen 4
 have f5 := Rw5.frozen 5
 have f6 := Rw5.frozen 6
 have f7 := Rw5.frozen 7
 have f8 := Rw5.frozen 8
 go_wp2_with fail
 exact bodyPost_ret (v := .tuple #[.agg #[.int .u64 0, .int .i64 0, .int .i64 0, .int .i64 0, .int .i64 0, .int .i64 0, .int .i64 0, .int .i64 0, .int .i64 0], .int .i64 25]) (by simp [results, go_sem, Try.results118, r0, r1, r2, r3, r4, r5, r6, r7, r8]) rfl ⟨rfl, (((((((((Bw5).setCell (by simp) _).setCell (by simp) _).setCell (by simp) _).setCell (by simp) _).setCell (by simp) _).setCell (by simp) _).setCell (by simp) _).setCell (by simp) _).setCell (by simp) _⟩
theorem slDec_sum1 (l0 l1 l2 l3 l4 l5 l6 l8 l9 l10 l11 l12 l13 l14 l15 : Int) (w : World) (hl0 : U64s l0) (hl1 : U64s l1) (hl2 : U64s l2) (hl3 : U64s l3) (hl4 : U64s l4) (hl5 : U64s l5) (hl6 : U64s l6) (hl8 : U64s l8) (hl9 : U64s l9) (hl10 : U64s l10) (hl11 : U64s l11) (hl12 : U64s l12) (hl13 : U64s l13) (hl14 : U64s l14) (hl15 : U64s l15) (hne : l15 ≠ St.sum7 l8 l9 l10 l11 l12 l13 l14) :
  Calls Try.prog 118 #[.agg #[.int .u64 l0, .int .u64 l1, .int .u64 l2, .int .u64 l3, .int .u64 l4, .int .u64 l5, .int .u64 l6, .int .u64 (St.sum7 l0 l1 l2 l3 l4 l5 l6), .int .u64 l8, .int .u64 l9, .int .u64 l10, .int .u64 l11, .int .u64 l12, .int .u64 l13, .int .u64 l14, .int .u64 l15]] w fun e w' => e = .returned (.tuple #[.agg #[.int .u64 0, .int .i64 0, .int .i64 0, .int .i64 0, .int .i64 0, .int .i64 0, .int .i64 0, .int .i64 0, .int .i64 0], .int .i64 25]) ∧ Below w.heap.size w w' := by
 have d1 : (l15 != St.sum7 l8 l9 l10 l11 l12 l13 l14) = true := by rw [bne_iff_ne]; exact hne
 clear hne
 have W0 := Lib.hid (u64s_wf l0 l1 l2 l3 l4 l5 l6 hl0 hl1 hl2 hl3 hl4 hl5 hl6)
 have W1 := Lib.hid (u64s_wf l8 l9 l10 l11 l12 l13 l14 hl8 hl9 hl10 hl11 hl12 hl13 hl14)
 have b0 := St.sum7_bd l0 l1 l2 l3 l4 l5 l6
 have b1 := St.sum7_bd l8 l9 l10 l11 l12 l13 l14
 have q0 : IntKind.u64.wrap (St.sum7 l0 l1 l2 l3 l4 l5 l6) = St.sum7 l0 l1 l2 l3 l4 l5 l6 := by rw [IntKind.wrap_u64]; omega
 have q1 : IntKind.u64.wrap (St.sum7 l8 l9 l10 l11 l12 l13 l14) = St.sum7 l8 l9 l10 l11 l12 l13 l14 := by rw [IntKind.wrap_u64]; omega
 have X := Lib.hid ((Blk.new w #[.int .u64 l0, .int .u64 l1, .int .u64 l2, .int .u64 l3, .int .u64 l4, .int .u64 l5, .int .u64 l6, .int .u64 (St.sum7 l0 l1 l2 l3 l4 l5 l6), .int .u64 l8, .int .u64 l9, .int .u64 l10, .int .u64 l11, .int .u64 l12, .int .u64 l13, .int .u64 l14, .int .u64 l15] 99).alloc (.cells #[.int .u64 0, .int .i64 0, .int .i64 0, .int .i64 0, .int .i64 0, .int .i64 0, .int .i64 0, .int .i64 0, .int .i64 0] 144))
 have R := Lib.hid (Blk.new1 w (.cells #[.int .u64 l0, .int .u64 l1, .int .u64 l2, .int .u64 l3, .int .u64 l4, .int .u64 l5, .int .u64 l6, .int .u64 (St.sum7 l0 l1 l2 l3 l4 l5 l6), .int .u64 l8, .int .u64 l9, .int .u64 l10, .int .u64 l11, .int .u64 l12, .int .u64 l13, .int .u64 l14, .int .u64 l15] 99) #[.int .u64 0, .int .i64 0, .int .i64 0, .int .i64 0, .int .i64 0, .int .i64 0, .int .i64 0, .int .i64 0, .int .i64 0] 144)
 have hB : Below w.heap.size w ((w.alloc (.cells #[.int .u64 l0, .int .u64 l1, .int .u64 l2, .int .u64 l3, .int .u64 l4, .int .u64 l5, .int .u64 l6, .int .u64 (St.sum7 l0 l1 l2 l3 l4 l5 l6), .int .u64 l8, .int .u64 l9, .int .u64 l10, .int .u64 l11, .int .u64 l12, .int .u64 l13, .int .u64 l14, .int .u64 l15] 99)).alloc (.cells #[.int .u64 0, .int .i64 0, .int .i64 0, .int .i64 0, .int .i64 0, .int .i64 0, .int .i64 0, .int .i64 0, .int .i64 0] 144)) := ((Below.refl _ _).alloc (Nat.le_refl _) _).alloc (by simp) _
 generalize hZ : ((w.alloc (.cells #[.int .u64 l0, .int .u64 l1, .int .u64 l2, .int .u64 l3, .int .u64 l4, .int .u64 l5, .int .u64 l6, .int .u64 (St.sum7 l0 l1 l2 l3 l4 l5 l6), .int .u64 l8, .int .u64 l9, .int .u64 l10, .int .u64 l11, .int .u64 l12, .int .u64 l13, .int .u64 l14, .int .u64 l15] 99)).alloc (.cells #[.int .u64 0, .int .i64 0, .int .i64 0, .int .i64 0, .int .i64 0, .int .i64 0, .int .i64 0, .int .i64 0, .int .i64 0] 144)) = Z at *
 have x7 := X.out.cell 7 _ rfl
 go_enter Try.func118, Try.ntmps118
 go_wp2_with fail
 refine wp_loop_rounds 3 ?_
 rw [rounds_succ]
 go_wp2_with fail
 go_region_held3 (fun W => W.cell? ⟨w.heap.size, 7, none⟩ = some (.int .u64 (St.sum7 l0 l1 l2 l3 l4 l5 l6)) ∧ Below Z.heap.size Z W)
  (first | assumption | exact ⟨x7, (Below.refl _ _).drew⟩)
  (first
   | (go_at_call 82; refine (crcWords_any _ 7 _ [l0, l1, l2, l3, l4, l5, l6] _ _ ((RowAt.of_blk_at X.out 0 7 (by simp)).below (by assumption : _ ∧ Below _ _ _).2) W0.out (by omega) (by assumption : _ ∧ Below _ _ _).2.size).mono ?_; rintro e w5 ⟨rfl, hb5⟩; rw [show Cr.more 0 (By.bytes [l0, l1, l2, l3, l4, l5, l6]) = St.sum7 l0 l1 l2 l3 l4 l5 l6 from rfl]; have hS := (by assumption : _ ∧ Below _ _ _); have hS' := And.intro ((hb5.cell (cell_lt hS.1)).trans hS.1) (hS.2.trans (hb5.mono hS.2.size))))
 have hSw5 := (by assumption : _ ∧ Below Z.heap.size Z _)
 have Xw5 := X.out.below hSw5.2 X.out.lt
 have Rw5 := R.out.below hSw5.2 R.out.lt
 have Bw5 := hB.trans (hSw5.2.mono hB.size)
 have x15 := Xw5.cell 15 _ rfl
 go_wp2_with fail
 rw [rounds_succ]
 go_wp2_with fail
 go_region_held3 (fun W => W.cell? ⟨w.heap.size, 15, none⟩ = some (.int .u64 l15) ∧ Below w5.heap.size w5 W)
  (first | assumption | exact ⟨x15, (Below.refl _ _).drew⟩)
  (first
   | (go_at_call 82; refine (crcWords_any _ 7 _ [l8, l9, l10, l11, l12, l13, l14] _ _ ((RowAt.of_blk_at Xw5 8 7 (by simp)).below (by assumption : _ ∧ Below _ _ _).2) W1.out (by omega) (by assumption : _ ∧ Below _ _ _).2.size).mono ?_; rintro e w6 ⟨rfl, hb5⟩; rw [show Cr.more 0 (By.bytes [l8, l9, l10, l11, l12, l13, l14]) = St.sum7 l8 l9 l10 l11 l12 l13 l14 from rfl]; have hS := (by assumption : _ ∧ Below _ _ _); have hS' := And.intro ((hb5.cell (cell_lt hS.1)).trans hS.1) (hS.2.trans (hb5.mono hS.2.size))))
 have hSw6 := (by assumption : _ ∧ Below w5.heap.size w5 _)
 have Xw6 := Xw5.below hSw6.2 Xw5.lt
 have Rw6 := Rw5.below hSw6.2 Rw5.lt
 have Bw6 := Bw5.trans (hSw6.2.mono Bw5.size)
 have r0 := Rw6.cell 0 _ rfl
 have r1 := Rw6.cell 1 _ rfl
 have r2 := Rw6.cell 2 _ rfl
 have r3 := Rw6.cell 3 _ rfl
 have r4 := Rw6.cell 4 _ rfl
 have r5 := Rw6.cell 5 _ rfl
 have r6 := Rw6.cell 6 _ rfl
 have r7 := Rw6.cell 7 _ rfl
 have r8 := Rw6.cell 8 _ rfl
 have f0 := Rw6.frozen 0
 have f1 := Rw6.frozen 1
 have f2 := Rw6.frozen 2
 have f3 := Rw6.frozen 3
 have f4 := Rw6.frozen 4
 have f5 := Rw6.frozen 5
 have f6 := Rw6.frozen 6
 have f7 := Rw6.frozen 7
 have f8 := Rw6.frozen 8
 go_wp2_with fail
 exact bodyPost_ret (v := .tuple #[.agg #[.int .u64 0, .int .i64 0, .int .i64 0, .int .i64 0, .int .i64 0, .int .i64 0, .int .i64 0, .int .i64 0, .int .i64 0], .int .i64 25]) (by simp [results, go_sem, Try.results118, r0, r1, r2, r3, r4, r5, r6, r7, r8]) rfl ⟨rfl, (((((((((Bw6).setCell (by simp) _).setCell (by simp) _).setCell (by simp) _).setCell (by simp) _).setCell (by simp) _).setCell (by simp) _).setCell (by simp) _).setCell (by simp) _).setCell (by simp) _⟩
end Go.Proofs.Ytmekhdclnhhhbaa
end
