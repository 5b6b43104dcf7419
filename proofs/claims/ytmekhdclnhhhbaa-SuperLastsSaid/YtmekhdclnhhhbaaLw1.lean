/- A device as one entry; a device and the document's one are the same. -/
import Derived.Test.YtmekhdclnhhhbaaRef9
namespace Go.Proofs.Ytmekhdclnhhhbaa
open Go.RowKit
set_option linter.unusedSimpArgs false
set_option linter.unusedVariables false
def grp (A : List Ent) : Ent :=
  ⟨ids A, fun W => Ents A W, fun W h i hi => by
    obtain ⟨E, hE, hm⟩ := mem_ids.1 hi
    exact E.lt W (h.1 E hE) i hm, fun W W' hh h => ⟨fun E hE => E.loc W W' (fun i hi => hh i (mem_ids.2 ⟨E, hE, hi⟩)) (h.1 E hE), h.2⟩⟩
theorem Heap.grp_ents {w0 W : World} {F : List Nat} {L A : List Ent} (H : Heap w0 F L W) (k : Nat) (hk : L[k]? = some (grp A)) : Ents A W := H.ok _ (List.mem_of_getElem? hk)
theorem grp_heap {W W' : World} {F : List Nat} {A : List Ent} (h : Heap W F A W') : Heap W F [grp A] W' :=
  ⟨fun E hE => by (rw [List.mem_singleton.1 hE]; exact h.ents), by simpa [ids, grp] using h.nd, by simpa [ids, grp] using h.own, h.only⟩
theorem grp_open {W W' : World} {F : List Nat} {A : List Ent} (h : Heap W F [grp A] W') : Heap W F A W' := by
  have hE := h.grp_ents 0 rfl
  exact ⟨hE.1, hE.2, by have := h.own; simpa [ids, grp] using this, h.only⟩
theorem Heap.grp_at {w0 W W' : World} {F : List Nat} {L A A' : List Ent} (H : Heap w0 F L W) (k : Nat) (hk : L[k]? = some (grp A)) (h' : Heap W (ids A) A' W') : Heap w0 F (L.set k (grp A')) W' :=
  H.at k hk (grp_heap h') (fun i hi => hi)
theorem grp_start {w : World} {A : List Ent} (h : Ents A w) : Heap w (ids A) [grp A] w := grp_heap (Heap.start h)
section
variable {P : Program} {n : Nat} {f : Nat → Value} {W : World} {dst : Option Tmp} {ty : TypeId} {pos : String} {af : Array Edge} {g : Option (Nat × Bool)} {x y : Operand} {t t2 : TypeId}
theorem r_bneq {a b : Bool} (hx : ev n f x = .bool a) (hy : ev n f y = .bool b) (h : a = b) (ht : P.underlying t = some .bool) : (execOp (ev n f) ⟨dst, .binOp .neq t x y t2, ty, pos, af, g⟩).run P W = .ok (.value (.bool false)) W := by
  subst h
  have h : ∀ d : Nat, (Op.equalIn (d + 1) t (.bool a) (.bool a)).run P W = .ok true W := fun d => by
    simp [Op.equalIn, run_underlying ht]
  have h2 : (binOp .neq t (.bool a) (.bool a)).run P W = .ok (.bool false) W := by
    simp only [binOp]
    simp [Op.equal, Op.maxDepth, h 9999]
  have h3 : (eqGuard .neq t x y (.bool a) (.bool a)).run P W = .ok () W := by simp [eqGuard]
  simp only [execOp, hx, hy, Sem.run_bind, h3, h2, Result.andThen_ok]; rfl
end
theorem same_self (xs : List Int) : Nv.same xs xs = true := by simp [Nv.same]
theorem lSame (g : Geo) (d : Nv.D) (s : RefS) (m : Nat) (w : World) (hE : Ents (devL g d) w) (hr : RefOk w [] s d m) (hm : m ≤ 60000) :
    Calls Try.prog 56 [ptr g.p, .agg (refCells s d m).toArray].toArray w fun e w' => e = .returned (.bool true) ∧ Only [] w w' := by
  have HD := Heap.start hE
  have H := Heap.nil w
  obtain ⟨A0, c0, A1, c1, A2, c2, A3, c3, A4, c4, rf0⟩ := s
  have ho := hr.ok
  have hc := ho.hc
  have hl := ho.hl
  have hd := ho.hd
  have hLen := nLen g d
  have hLines := nLines g d
  rw [hc] at hLen
  rw [hd] at hLines
  have hDi := rDirty ⟨A0, c0, A1, c1, A2, c2, A3, c3, A4, c4, rf0⟩ d m
  have hdl := dirtyTo_len d.dirty m
  rw [refE] at hDi
  rw [refE]
  simp only at hDi ⊢
  refine k_in (N := 78) Try.func56 rfl rfl rfl ?_
  refine k_seq ?_
  refine k_rg ?_
  refine s_box H rfl rfl ?_
  intro p3 _ H'; clear H; have H := H'; clear H'
  refine s_run rfl rfl (r_as (v := .bool _) rfl) ?_
  refine k_nil ?_
  refine c_norm ?_
  refine k_seq ?_
  refine k_seq ?_
  refine k_cut (fun f' W' => f' 0 = ptr g.p ∧ f' 3 = ptr p3 ∧ f' 51 = .bool false ∧ Heap w [] [blk p3 [.slice A0 m c0, .slice A1 m c1, .slice A2 m c2, .slice A3 m c3, .slice A4 m c4, .int .i64 d.steps, .int .i64 rf0, .bool d.dead] 55] W') ?_ ?_
  · have HR := H; clear H; have H := HR.tree; refine k_tr mixed ?_
    refine t_take 0 rfl (by kernel_rfl) (by kernel_rfl) (by kernel_rfl) rfl (fun _ _ _ _ h => nomatch h.1) rfl (fun _ hS => r_mv (v := .pointer _) rfl) H.only ?_
    refine t_take 2 rfl (by kernel_rfl) (by kernel_rfl) (by kernel_rfl) rfl (fun _ _ _ _ h => nomatch h.1) rfl (fun _ hS => r_fa0 rfl fo55_0) H.only ?_
    refine t_take 3 rfl (by kernel_rfl) (by kernel_rfl) (by kernel_rfl) rfl (fun _ _ _ _ h => nomatch h.1) rfl (fun _ hS => r_lo (HR.same hS) 0 rfl rfl rfl ag52) H.only ?_
    refine t_take 4 rfl (by kernel_rfl) (by kernel_rfl) (by kernel_rfl) rfl (fun _ _ _ _ h => nomatch h.1) rfl (fun _ hS => r_len rfl Try.underlying52) H.only ?_
    refine t_take 5 rfl (by kernel_rfl) (by kernel_rfl) (by kernel_rfl) rfl (fun _ _ _ _ h => nomatch h.1) rfl (fun _ hS => r_mul rfl rfl (wI (by omega))) H.only ?_
    refine t_up1 1 (by kernel_rfl) ?_
    refine up_mk rfl ?_
    refine s_call rfl (hLen _ (HD.same (HR.only.trans H.only)).ents) (ca24 rfl) ?_
    rintro e W1 ⟨rfl, H'⟩
    refine ⟨_, rfl, ?_⟩
    have H := H.same H'; clear H'
    refine k_nil ?_
    refine t_on H.only ?_
    refine t_take 6 rfl (by kernel_rfl) (by kernel_rfl) (by kernel_rfl) rfl (fun _ _ _ _ h => nomatch h.1) rfl (fun _ hS => r_neqF rfl rfl (by omega)) H.only ?_
    refine t_take 7 rfl (by kernel_rfl) (by kernel_rfl) (by kernel_rfl) rfl (fun _ _ _ _ h => nomatch h.1) rfl (fun _ hS => r_mv (v := .bool _) rfl) H.only ?_
    refine t_take 8 rfl (by kernel_rfl) (by kernel_rfl) (by kernel_rfl) rfl (fun _ _ _ _ h => nomatch h.1) (g_on 13 (by kernel_rfl) rfl) (fun _ hS => r_mv (v := .pointer _) rfl) H.only ?_
    refine t_take 10 rfl (by kernel_rfl) (by kernel_rfl) (by kernel_rfl) rfl (fun _ _ _ _ h => nomatch h.1) (g_on 13 (by kernel_rfl) rfl) (fun _ hS => r_fa0 rfl fo55_0) H.only ?_
    refine t_take 11 rfl (by kernel_rfl) (by kernel_rfl) (by kernel_rfl) rfl (fun _ _ _ _ h => nomatch h.1) (g_on 13 (by kernel_rfl) rfl) (fun _ hS => r_lo (HR.same hS) 0 rfl rfl rfl ag52) H.only ?_
    refine t_take 12 rfl (by kernel_rfl) (by kernel_rfl) (by kernel_rfl) rfl (fun _ _ _ _ h => nomatch h.1) (g_on 13 (by kernel_rfl) rfl) (fun _ hS => r_len rfl Try.underlying52) H.only ?_
    refine t_up1 9 (by kernel_rfl) ?_
    refine up_mk rfl ?_
    refine s_call (g_on 13 (by kernel_rfl) rfl) (hLines _ (HD.same (HR.only.trans H.only)).ents) (ca23 rfl) ?_
    rintro e W1 ⟨rfl, H'⟩
    refine ⟨_, rfl, ?_⟩
    have H := H.same H'; clear H'
    refine k_nil ?_
    refine t_on H.only ?_
    refine t_take 13 rfl (by kernel_rfl) (by kernel_rfl) (by kernel_rfl) rfl (fun _ _ _ _ h => nomatch h.1) (g_on 13 (by kernel_rfl) rfl) (fun _ hS => r_neqF rfl rfl (by omega)) H.only ?_
    refine t_take 14 rfl (by kernel_rfl) (by kernel_rfl) (by kernel_rfl) rfl (fun _ _ _ _ h => nomatch h.1) rfl (fun _ hS => r_pkF (v := .bool _) rfl rfl) H.only ?_
    refine t_take 15 rfl (by kernel_rfl) (by kernel_rfl) (by kernel_rfl) rfl (fun _ _ _ _ h => nomatch h.1) rfl (fun _ hS => r_mv (v := .bool _) rfl) H.only ?_
    refine t_take 16 rfl (by kernel_rfl) (by kernel_rfl) (by kernel_rfl) rfl (fun _ _ _ _ h => nomatch h.1) (g_on 21 (by kernel_rfl) rfl) (fun _ hS => r_mv (v := .pointer _) rfl) H.only ?_
    refine t_take 18 rfl (by kernel_rfl) (by kernel_rfl) (by kernel_rfl) rfl (fun _ _ _ _ h => nomatch h.1) (g_on 21 (by kernel_rfl) rfl) (fun _ hS => r_fa0 rfl fo55_5) H.only ?_
    refine t_take 19 rfl (by kernel_rfl) (by kernel_rfl) (by kernel_rfl) rfl (fun _ _ _ _ h => nomatch h.1) (g_on 21 (by kernel_rfl) rfl) (fun _ hS => r_lo (HR.same hS) 0 rfl rfl rfl ag3) H.only ?_
    refine t_up1 17 (by kernel_rfl) ?_
    refine up_mk rfl ?_
    refine s_call (g_on 21 (by kernel_rfl) rfl) (nSteps g d _ (HD.same (HR.only.trans H.only)).ents) (ca29 rfl) ?_
    rintro e W1 ⟨rfl, H'⟩
    refine ⟨_, rfl, ?_⟩
    have H := H.same H'; clear H'
    refine k_nil ?_
    refine t_on H.only ?_
    refine t_take 20 rfl (by kernel_rfl) (by kernel_rfl) (by kernel_rfl) rfl (fun _ _ _ _ h => nomatch h.1) (g_on 21 (by kernel_rfl) rfl) (fun _ hS => r_neqF rfl rfl (by omega)) H.only ?_
    refine t_take 21 rfl (by kernel_rfl) (by kernel_rfl) (by kernel_rfl) rfl (fun _ _ _ _ h => nomatch h.1) rfl (fun _ hS => r_pkF (v := .bool _) rfl rfl) H.only ?_
    refine t_take 22 rfl (by kernel_rfl) (by kernel_rfl) (by kernel_rfl) rfl (fun _ _ _ _ h => nomatch h.1) rfl (fun _ hS => r_mv (v := .bool _) rfl) H.only ?_
    refine t_take 23 rfl (by kernel_rfl) (by kernel_rfl) (by kernel_rfl) rfl (fun _ _ _ _ h => nomatch h.1) (g_on 28 (by kernel_rfl) rfl) (fun _ hS => r_mv (v := .pointer _) rfl) H.only ?_
    refine t_take 25 rfl (by kernel_rfl) (by kernel_rfl) (by kernel_rfl) rfl (fun _ _ _ _ h => nomatch h.1) (g_on 28 (by kernel_rfl) rfl) (fun _ hS => r_fa0 rfl fo55_7) H.only ?_
    refine t_take 26 rfl (by kernel_rfl) (by kernel_rfl) (by kernel_rfl) rfl (fun _ _ _ _ h => nomatch h.1) (g_on 28 (by kernel_rfl) rfl) (fun _ hS => r_lo (HR.same hS) 0 rfl rfl rfl ag4) H.only ?_
    refine t_up1 24 (by kernel_rfl) ?_
    refine up_mk rfl ?_
    refine s_call (g_on 28 (by kernel_rfl) rfl) (nDead g d _ (HD.same (HR.only.trans H.only)).ents) (ca28 rfl) ?_
    rintro e W1 ⟨rfl, H'⟩
    refine ⟨_, rfl, ?_⟩
    have H := H.same H'; clear H'
    refine k_nil ?_
    refine t_on H.only ?_
    refine t_take 27 rfl (by kernel_rfl) (by kernel_rfl) (by kernel_rfl) rfl (fun _ _ _ _ h => nomatch h.1) (g_on 28 (by kernel_rfl) rfl) (fun _ hS => r_bneq rfl rfl rfl Try.underlying4) H.only ?_
    refine t_take 28 rfl (by kernel_rfl) (by kernel_rfl) (by kernel_rfl) rfl (fun _ _ _ _ h => nomatch h.1) rfl (fun _ hS => r_pkF (v := .bool _) rfl rfl) H.only ?_
    refine t_take 29 rfl (by kernel_rfl) (by kernel_rfl) (by kernel_rfl) rfl (fun _ _ _ _ h => nomatch h.1) rfl (fun _ hS => r_mv (v := .bool _) rfl) H.only ?_
    refine t_take 30 rfl (by kernel_rfl) (by kernel_rfl) (by kernel_rfl) rfl (fun _ _ _ _ h => nomatch h.1) (g_on 35 (by kernel_rfl) rfl) (fun _ hS => r_mv (v := .pointer _) rfl) H.only ?_
    refine t_take 32 rfl (by kernel_rfl) (by kernel_rfl) (by kernel_rfl) rfl (fun _ _ _ _ h => nomatch h.1) (g_on 35 (by kernel_rfl) rfl) (fun _ hS => r_la (HR.same hS) 0 rfl rfl rfl ag55 sz55) H.only ?_
    refine t_up1 31 (by kernel_rfl) ?_
    refine up_mk rfl ?_
    refine s_call (g_on 35 (by kernel_rfl) rfl) (nDirty' g d m _ (HD.same (HR.only.trans H.only)).ents ho (by omega)) (ca27 rfl) ?_
    rintro e W1 ⟨X1, y1, z1, rfl, hX1, H'⟩
    refine ⟨_, rfl, ?_⟩
    have H := H.more H'; clear H'; simp only [List.cons_append, List.nil_append] at H
    refine k_nil ?_
    refine t_on H.only ?_
    refine t_up1 33 (by kernel_rfl) ?_
    refine up_mk rfl ?_
    refine s_call (g_on 35 (by kernel_rfl) rfl) (hDi _ (hr.dirty.later (HR.only.trans H.only) (by simp)) hd (by omega)) (ca91 rfl) ?_
    rintro e W1 ⟨X2, y2, z2, rfl, hX2, H'⟩
    refine ⟨_, rfl, ?_⟩
    have H := H.more H'; clear H'; simp only [List.cons_append, List.nil_append] at H
    refine k_nil ?_
    refine t_on H.only ?_
    refine t_up1 34 (by kernel_rfl) ?_
    refine up_mk rfl ?_
    refine s_call (g_on 35 (by kernel_rfl) rfl) (rInts X1 X2 _ _ _ _ _ _ _ (fun h => ⟨y1, 0, hX1 h, by simp, H.reads0 1 rfl⟩) (fun h => ⟨y2, 0, hX2 h, by simp, H.reads0 0 rfl⟩) rfl rfl (by omega)) (ca90 rfl) ?_
    rintro e W1 ⟨rfl, H'⟩
    refine ⟨_, rfl, ?_⟩
    rw [same_self]; have H := H.same H'; clear H'
    refine k_nil ?_
    refine t_on H.only ?_
    refine t_take 35 rfl (by kernel_rfl) (by kernel_rfl) (by kernel_rfl) rfl (fun _ _ _ _ h => nomatch h.1) (g_on 35 (by kernel_rfl) rfl) (fun _ hS => r_notT rfl) H.only ?_
    refine t_take 36 rfl (by kernel_rfl) (by kernel_rfl) (by kernel_rfl) rfl (fun _ _ _ _ h => nomatch h.1) rfl (fun _ hS => r_pkF (v := .bool _) rfl rfl) H.only ?_
    refine t_take 37 rfl (by kernel_rfl) (by kernel_rfl) (by kernel_rfl) rfl (fun _ _ _ _ h => nomatch h.1) rfl (fun _ hS => r_mv (v := .bool _) rfl) H.only ?_
    refine t_take 38 rfl (by kernel_rfl) (by kernel_rfl) (by kernel_rfl) rfl (fun _ _ _ _ h => nomatch h.1) (g_on 43 (by kernel_rfl) rfl) (fun _ hS => r_mv (v := .pointer _) rfl) H.only ?_
    refine t_take 40 rfl (by kernel_rfl) (by kernel_rfl) (by kernel_rfl) rfl (fun _ _ _ _ h => nomatch h.1) (g_on 43 (by kernel_rfl) rfl) (fun _ hS => r_fa0 rfl fo55_1) H.only ?_
    refine t_take 41 rfl (by kernel_rfl) (by kernel_rfl) (by kernel_rfl) rfl (fun _ _ _ _ h => nomatch h.1) (g_on 43 (by kernel_rfl) rfl) (fun _ hS => r_lo (HR.same hS) 0 rfl rfl rfl ag52) H.only ?_
    refine t_up1 39 (by kernel_rfl) ?_
    refine up_mk rfl ?_
    refine s_call (g_on 43 (by kernel_rfl) rfl) (nAll g d m _ (HD.same (HR.only.trans H.only)).ents ho (by omega)) (ca47 rfl) ?_
    rintro e W1 ⟨y3, z3, rfl, _, H'⟩
    refine ⟨_, rfl, ?_⟩
    have H := H.more H'; clear H'; simp only [List.cons_append, List.nil_append] at H
    refine k_nil ?_
    refine t_on H.only ?_
    refine t_up1 42 (by kernel_rfl) ?_
    refine up_mk rfl ?_
    refine s_call (g_on 43 (by kernel_rfl) rfl) (rAll A1 m c1 d.last _ (hr.last.later (HR.only.trans H.only) (by simp)) hl (by omega)) (ca43 rfl) ?_
    rintro e W1 ⟨X4, y4, z4, rfl, hX4, H'⟩
    refine ⟨_, rfl, ?_⟩
    have H := H.more H'; clear H'; simp only [List.cons_append, List.nil_append] at H
    refine k_nil ?_
    refine t_on H.only ?_
    refine t_up1 43 (by kernel_rfl) ?_
    refine up_mk rfl ?_
    refine s_call (g_on 43 (by kernel_rfl) rfl) (rSame _ X4 _ _ _ _ _ _ _ (fun h => ⟨y3, 0, rfl, by simp, H.reads0 1 rfl⟩) (fun h => ⟨y4, 0, hX4 (by omega), by simp, H.reads0 0 rfl⟩) hl hl (by omega)) (ca42 rfl) ?_
    rintro e W1 ⟨rfl, H'⟩
    refine ⟨_, rfl, ?_⟩
    rw [same_self]; have H := H.same H'; clear H'
    refine k_nil ?_
    refine t_on H.only ?_
    refine t_take 44 rfl (by kernel_rfl) (by kernel_rfl) (by kernel_rfl) rfl (fun _ _ _ _ h => nomatch h.1) (g_on 43 (by kernel_rfl) rfl) (fun _ hS => r_notT rfl) H.only ?_
    refine t_take 45 rfl (by kernel_rfl) (by kernel_rfl) (by kernel_rfl) rfl (fun _ _ _ _ h => nomatch h.1) rfl (fun _ hS => r_pkF (v := .bool _) rfl rfl) H.only ?_
    refine t_done (by kernel_rfl) ?_
    have H := HR.more H; clear HR; simp only [List.cons_append, List.nil_append] at H
    refine k_met ?_
    exact ⟨rfl, rfl, rfl, H.drop.drop.drop.drop⟩
  clear H
  rintro f' W ⟨h0, h3, h51, H⟩
  obtain ⟨f', rfl⟩ := live3 h0 h3 h51
  clear h0 h3 h51
  refine c_norm ?_
  refine k_f rfl ?_
  refine k_skip ?_
  refine c_norm ?_
  refine k_seq ?_
  refine k_seq ?_
  refine k_rg ?_
  refine s_run rfl rfl (r_as (v := .int _ _) rfl) ?_
  refine k_nil ?_
  refine c_norm ?_
  refine k_b ?_
  refine k_loop (fun q f W => ∃ (k : Nat), k ≤ 8 * m ∧ q = 8 * m - k ∧ f 0 = ptr g.p ∧ f 3 = ptr p3 ∧ f 5 = .int .i64 k ∧ Heap w [] [blk p3 [.slice A0 m c0, .slice A1 m c1, .slice A2 m c2, .slice A3 m c3, .slice A4 m c4, .int .i64 d.steps, .int .i64 rf0, .bool d.dead] 55] W) (8 * m) ⟨0, by omega, rfl, rfl, rfl, rfl, H⟩ ?_
  clear H
  rintro q f W ⟨k, hk, rfl, h0, h3, h5, H⟩
  obtain ⟨f, rfl⟩ := live3 h0 h3 h5
  clear h0 h3 h5
  by_cases hlt : k < 8 * m
  · refine k_seq ?_
    refine k_seq ?_
    refine k_rg ?_
    refine s_run rfl rfl (r_mv (v := .int _ _) rfl) ?_
    refine s_run rfl rfl (r_fa0 rfl fo55_0) ?_
    refine s_run rfl rfl (r_lo H 0 rfl rfl rfl ag52) ?_
    refine s_run rfl rfl (r_len rfl Try.underlying52) ?_
    refine s_run rfl rfl (r_mul rfl rfl (wI (by omega))) ?_
    refine s_run rfl rfl (r_lssT rfl rfl (by omega)) ?_
    refine k_nil ?_
    refine c_norm ?_
    refine k_t rfl ?_
    refine k_skip ?_
    refine c_norm ?_
    refine k_seq ?_
    refine k_b ?_
    refine k_seq ?_
    refine k_q mixed (by kernel_rfl) H ?_
    refine q_run rfl rfl (fun _ H => r_mv (v := .pointer _) rfl) ?_
    refine q_run rfl rfl (fun _ H => r_mv (v := .int _ _) rfl) ?_
    refine q_call rfl rfl (fun _ H => nGet g d k _ (HD.same H.only).ents) (ca25 rfl) ?_
    refine q_run rfl rfl (fun _ H => r_fa0 rfl fo55_0) ?_
    refine q_run rfl rfl (fun _ H => r_lo H 0 rfl rfl rfl ag52) ?_
    refine q_run rfl rfl (fun _ H => r_mv (v := .int _ _) rfl) ?_
    refine q_call rfl rfl (fun _ H => rGet A0 m c0 k d.cache _ (hr.now.later H.only (by simp)) hc (by omega)) (ca92 rfl) ?_
    refine q_run rfl rfl (fun _ H => r_neqF rfl rfl (by omega)) ?_
    refine q_run rfl rfl (fun _ H => r_mv (v := .bool _) rfl) ?_
    refine q_run rfl (g_on 68 (by kernel_rfl) rfl) (fun _ H => r_mv (v := .pointer _) rfl) ?_
    refine q_run rfl (g_on 68 (by kernel_rfl) rfl) (fun _ H => r_mv (v := .int _ _) rfl) ?_
    refine q_call rfl (g_on 68 (by kernel_rfl) rfl) (fun _ H => nLasting g d k _ (HD.same H.only).ents) (ca26 rfl) ?_
    refine q_run rfl (g_on 68 (by kernel_rfl) rfl) (fun _ H => r_fa0 rfl fo55_1) ?_
    refine q_run rfl (g_on 68 (by kernel_rfl) rfl) (fun _ H => r_lo H 0 rfl rfl rfl ag52) ?_
    refine q_run rfl (g_on 68 (by kernel_rfl) rfl) (fun _ H => r_mv (v := .int _ _) rfl) ?_
    refine q_call rfl (g_on 68 (by kernel_rfl) rfl) (fun _ H => rGet A1 m c1 k d.last _ (hr.last.later H.only (by simp)) hl (by omega)) (ca92 rfl) ?_
    refine q_run rfl (g_on 68 (by kernel_rfl) rfl) (fun _ H => r_neqF rfl rfl (by omega)) ?_
    refine q_run rfl rfl (fun _ H => r_pkF (v := .bool _) rfl rfl) ?_
    refine q_nil ?_
    intro _ H'; clear H; have H := H'; clear H'
    refine c_norm ?_
    refine k_f rfl ?_
    refine k_skip ?_
    refine b_norm ?_
    refine c_norm ?_
    refine k_rg ?_
    refine s_run rfl rfl (r_mv (v := .int _ _) rfl) ?_
    refine s_run rfl rfl (r_add rfl rfl (wI (by omega))) ?_
    refine s_run rfl rfl (r_as (v := .int _ _) rfl) ?_
    refine k_nil ?_
    refine c_round ?_
    refine ⟨_, _, ?_, rfl, k + 1, by omega, rfl, rfl, rfl, rfl, H⟩
    omega
  · refine k_seq ?_
    refine k_seq ?_
    refine k_rg ?_
    refine s_run rfl rfl (r_mv (v := .int _ _) rfl) ?_
    refine s_run rfl rfl (r_fa0 rfl fo55_0) ?_
    refine s_run rfl rfl (r_lo H 0 rfl rfl rfl ag52) ?_
    refine s_run rfl rfl (r_len rfl Try.underlying52) ?_
    refine s_run rfl rfl (r_mul rfl rfl (wI (by omega))) ?_
    refine s_run rfl rfl (r_lssF rfl rfl (by omega)) ?_
    refine k_nil ?_
    refine c_norm ?_
    refine k_f rfl ?_
    refine k_exit ?_
    refine c_exit ?_
    refine c_exit ?_
    refine b_hit ?_
    refine c_norm ?_
    refine k_seq ?_
    refine k_rg ?_
    refine s_run rfl rfl (r_as (v := .bool _) rfl) ?_
    refine k_nil ?_
    refine c_norm ?_
    refine k_ret ?_
    refine fin1r (v := .bool _) rfl rfl ?_
    exact ⟨rfl, H.only⟩
end Go.Proofs.Ytmekhdclnhhhbaa
