/- Structs and arrays by value: loads, stores, results; rows of elements of several cells. -/
import Derived.Test.YtmekhdclnhhhbaaSp6
namespace Go.Proofs.Ytmekhdclnhhhbaa
set_option linter.unusedSimpArgs false
set_option linter.unusedVariables false
open Go.RowKit
section
variable {P : Program} {n : Nat} {f : Nat → Value} {W w0 : World} {F : List Nat} {L : List Ent} {dst : Option Tmp} {ty : TypeId} {pos : String} {af : Array Edge} {g : Option (Nat × Bool)} {x y : Operand} {v : Value} {k : IntKind} {a b : Int} {t t2 e T : TypeId} {p o m : Nat} {cs vs : List Value}
theorem run_loadPart (h : W.heap[p]? = some (.cells cs.toArray T (0, 0))) (hv : (cs.drop o).take m = vs) (hl : vs.length = m) (hagg : ∀ W, (isAgg t).run P W = .ok true W) (hsz : ∀ W, (Go.sizeOf t).run P W = .ok m W) : (loadVar t ⟨p, o, none⟩).run P W = .ok (.agg vs.toArray) W := by
  have hr := run_loadCells_list (P := P) W ⟨p, o, none⟩ vs (fun j u hj => by
    rw [add_plain, Joins.cell_of_block h]
    subst hv
    have hjm : j < m := by have := (List.getElem?_eq_some_iff.1 hj).1; simp at this; omega
    rw [List.getElem?_take_of_lt hjm, List.getElem?_drop] at hj
    simpa using hj)
  simp only [loadVar, Sem.run_bind, hagg, Result.andThen_ok, if_true, hsz]
  rw [hl] at hr
  rw [hr]; simp
theorem r_la (H : Heap w0 F L W) (j : Nat) (hx : ev n f x = .pointer (some ⟨p, 0, none⟩)) (hj : L[j]? = some (blk p cs T)) (hl : cs.length = m) (hagg : ∀ W, (isAgg t).run P W = .ok true W) (hsz : ∀ W, (Go.sizeOf t).run P W = .ok m W) :
    (execOp (ev n f) ⟨dst, .load t x, ty, pos, af, g⟩).run P W = .ok (.value (.agg cs.toArray)) W := by
  have h := run_loadPart (P := P) (t := t) (o := 0) (vs := cs) (H.blk_get j hj) (by rw [← hl]; simp) hl hagg hsz
  simp only [execOp, Instr.loadAt, hx, Instr.sureAddr, Sem.run_bind, Sem.run_pure, Result.andThen_ok, h]
theorem r_lp (H : Heap w0 F L W) (j : Nat) (hx : ev n f x = .pointer (some ⟨p, o, none⟩)) (hj : L[j]? = some (blk p cs T)) (hv : (cs.drop o).take m = vs) (hl : vs.length = m) (hagg : ∀ W, (isAgg t).run P W = .ok true W) (hsz : ∀ W, (Go.sizeOf t).run P W = .ok m W) :
    (execOp (ev n f) ⟨dst, .load t x, ty, pos, af, g⟩).run P W = .ok (.value (.agg vs.toArray)) W := by
  have h := run_loadPart (P := P) (t := t) (H.blk_get j hj) hv hl hagg hsz
  simp only [execOp, Instr.loadAt, hx, Instr.sureAddr, Sem.run_bind, Sem.run_pure, Result.andThen_ok, h]
theorem r_ext {i : Nat} (hx : ev n f x = .tuple vs.toArray) (hv : vs[i]? = some v) : (execOp (ev n f) ⟨dst, .extract x i, ty, pos, af, g⟩).run P W = .ok (.value v) W := by
  have h : vs.toArray[i]? = some v := by simpa using hv
  simp only [execOp, hx, Instr.extract, h, Sem.run_bind, Sem.run_pure, Result.andThen_ok]
/-- the address of an array's element -/
theorem r_ia {i l : Nat} (hx : ev n f x = .pointer (some ⟨p, o, none⟩)) (hy : ev n f y = .int k a) (ha : a = (i : Int)) (hi : i < l) (h : P.underlying t = some (.array l e)) (hm : ∀ W, (Go.sizeOf e).run P W = .ok m W) :
    (execOp (ev n f) ⟨dst, .indexAddr t x y, ty, pos, af, g⟩).run P W = .ok (.value (.pointer (some ⟨p, o + i * m, none⟩))) W := by
  subst ha
  have h1 : (0 : Int) ≤ i ∧ (i : Int) < l := by omega
  simp only [execOp, Instr.indexAt, hx, hy, asIntOf, Instr.sureAddr, Sem.run_bind, run_underlying h, Result.andThen_ok, Sem.run_pure, h1, and_self, if_true, hm, Int.toNat_natCast, add_plain]
theorem r_min {c : Int} (hx : ev n f x = .int k a) (hy : ev n f y = .int k b) (hc : (if b < a then b else a) = c) : (execOp (ev n f) ⟨dst, .call ⟨.builtin .min, #[x, y], #[t, t2]⟩, ty, pos, af, g⟩).run P W = .ok (.value (.int k c)) W := by
  have h3 : #[x, y].map (ev n f) = #[.int k a, .int k b] := by simp [hx, hy]
  have h4 := run_min_int2 (P := P) W #[t, t2] ty k k a b
  rw [hc] at h4
  simp only [execOp, resolve, invoke, builtin, h3, Sem.run_bind, Sem.run_pure, Result.andThen_ok, h4]
theorem r_max {c : Int} (hx : ev n f x = .int k a) (hy : ev n f y = .int k b) (hc : (if a < b then b else a) = c) : (execOp (ev n f) ⟨dst, .call ⟨.builtin .max, #[x, y], #[t, t2]⟩, ty, pos, af, g⟩).run P W = .ok (.value (.int k c)) W := by
  have h3 : #[x, y].map (ev n f) = #[.int k a, .int k b] := by simp [hx, hy]
  have h4 := run_max_int2 (P := P) W #[t, t2] ty k k a b
  have h5 : (if b > a then b else a) = c := hc
  rw [h5] at h4
  simp only [execOp, resolve, invoke, builtin, h3, Sem.run_bind, Sem.run_pure, Result.andThen_ok, h4]
theorem r_ia1 {i l : Nat} (hx : ev n f x = .pointer (some ⟨p, o, none⟩)) (hy : ev n f y = .int k a) (ha : a = (i : Int)) (hi : i < l) (h : P.underlying t = some (.array l e)) (hm : ∀ W, (Go.sizeOf e).run P W = .ok 1 W) :
    (execOp (ev n f) ⟨dst, .indexAddr t x y, ty, pos, af, g⟩).run P W = .ok (.value (.pointer (some ⟨p, o + i, none⟩))) W := by
  have := r_ia (P := P) (W := W) (dst := dst) (ty := ty) (pos := pos) (af := af) (g := g) hx hy ha hi h hm
  rw [this]; simp
theorem r_ia0 {i l : Nat} (hx : ev n f x = .pointer (some ⟨p, 0, none⟩)) (hy : ev n f y = .int k a) (ha : a = (i : Int)) (hi : i < l) (h : P.underlying t = some (.array l e)) (hm : ∀ W, (Go.sizeOf e).run P W = .ok 1 W) :
    (execOp (ev n f) ⟨dst, .indexAddr t x y, ty, pos, af, g⟩).run P W = .ok (.value (.pointer (some ⟨p, i, none⟩))) W := by
  have := r_ia1 (P := P) (W := W) (dst := dst) (ty := ty) (pos := pos) (af := af) (g := g) hx hy ha hi h hm
  rw [this]; simp
theorem r_ix0 {l c : Nat} {i : Nat} (hx : ev n f x = .slice (some ⟨p, 0, none⟩) l c) (hy : ev n f y = .int k a) (ha : a = (i : Int)) (hi : i < l) (h : P.underlying t = some (.slice e)) (hm : ∀ W, (Go.sizeOf e).run P W = .ok m W) :
    (execOp (ev n f) ⟨dst, .indexAddr t x y, ty, pos, af, g⟩).run P W = .ok (.value (.pointer (some ⟨p, i * m, none⟩))) W := by
  have := r_ix (P := P) (W := W) (dst := dst) (ty := ty) (pos := pos) (af := af) (g := g) hx hy ha hi h hm
  rw [this]; simp
/-! results -/
def RV (P : Program) (W : World) (n : Nat) (f : Nat → Value) (r : ResultVar) (v : Value) : Prop :=
  match r with
  | .tmp t => ev n f (.tmp t) = v
  | .cell a t => ∃ q, ev n f (.tmp a) = .pointer (some q) ∧ (loadVar t q).run P W = .ok v W
theorem rv_t {t : Nat} (h : ev n f (.tmp t) = v) : RV P W n f (.tmp t) v := h
theorem rv_a {q : Nat} (H : Heap w0 F L W) (j : Nat) (ha : ev n f (.tmp q) = .pointer (some ⟨p, 0, none⟩)) (hj : L[j]? = some (blk p cs T)) (hl : cs.length = m) (hagg : ∀ W, (isAgg t).run P W = .ok true W) (hsz : ∀ W, (Go.sizeOf t).run P W = .ok m W) : RV P W n f (.cell q t) (.agg cs.toArray) :=
  ⟨_, ha, run_loadPart (P := P) (t := t) (o := 0) (vs := cs) (H.blk_get j hj) (by rw [← hl]; simp) hl hagg hsz⟩
theorem rv_c {q : Nat} (H : Heap w0 F L W) (j : Nat) (ha : ev n f (.tmp q) = .pointer (some ⟨p, 0, none⟩)) (hj : L[j]? = some (blk p [v] T)) (hagg : ∀ W, (isAgg t).run P W = .ok false W) : RV P W n f (.cell q t) v := by
  refine ⟨_, ha, ?_⟩
  have hc : W.cell? ⟨p, 0, none⟩ = some v := by rw [Joins.cell_of_block (H.blk_get j hj)]; rfl
  have h2 : (load ⟨p, 0, none⟩).run P W = .ok v W := by simp [load, Sem.run, hc]
  simp only [loadVar, Sem.run_bind, Result.andThen_ok, hagg, Bool.false_eq_true, if_false, h2]
theorem ev_getD2 (t : Nat) : (Fn n f).tmps[t]?.getD undef = ev n f (.tmp t) := by rw [← ev_getD, Array.getD_eq_getD_getElem?]
theorem rv_open (r : ResultVar) (h : RV P W n f r v) : (∃ t, r = .tmp t ∧ (Fn n f).tmps[t]?.getD undef = v) ∨ (∃ a t q, r = .cell a t ∧ (Fn n f).tmps[a]?.getD undef = .pointer (some q) ∧ (loadVar t q).run P W = .ok v W) := by
  cases r with
  | tmp t => exact .inl ⟨t, rfl, by rw [ev_getD2]; exact h⟩
  | cell a t =>
    obtain ⟨q, h1, h2⟩ := h
    exact .inr ⟨a, t, q, rfl, by rw [ev_getD2]; exact h1, h2⟩
theorem run_asAddr (q : Addr) : (asAddr (.pointer (some q))).run P W = .ok q W := rfl
theorem run_results1 {fn : Func} {r : ResultVar} (hr : fn.results = #[r]) (h : RV P W n f r v) : (results fn (Fn n f).tmps).run P W = .ok v W := by
  rcases rv_open r h with ⟨t, rfl, h1⟩ | ⟨a, t, q, rfl, h1, h2⟩ <;> simp_all [results, hr, Sem.run_bind, run_asAddr]
theorem run_results2 {fn : Func} {r r2 : ResultVar} {v2 : Value} (hr : fn.results = #[r, r2]) (h : RV P W n f r v) (h2 : RV P W n f r2 v2) : (results fn (Fn n f).tmps).run P W = .ok (.tuple #[v, v2]) W := by
  rcases rv_open r h with ⟨t, rfl, h1⟩ | ⟨a, t, q, rfl, h1, h1'⟩ <;> rcases rv_open r2 h2 with ⟨t2, rfl, h3⟩ | ⟨a2, t2, q2, rfl, h3, h3'⟩ <;> simp_all [results, hr, Sem.run_bind, run_asAddr]
theorem run_results3 {fn : Func} {r r2 r3 : ResultVar} {v2 v3 : Value} (hr : fn.results = #[r, r2, r3]) (h : RV P W n f r v) (h2 : RV P W n f r2 v2) (h3 : RV P W n f r3 v3) : (results fn (Fn n f).tmps).run P W = .ok (.tuple #[v, v2, v3]) W := by
  rcases rv_open r h with ⟨t, rfl, h1⟩ | ⟨a, t, q, rfl, h1, h1'⟩ <;> rcases rv_open r2 h2 with ⟨t2, rfl, h4⟩ | ⟨a2, t2, q2, rfl, h4, h4'⟩ <;> rcases rv_open r3 h3 with ⟨t3, rfl, h5⟩ | ⟨a3, t3, q3, rfl, h5, h5'⟩ <;> simp_all [results, hr, Sem.run_bind, run_asAddr]
theorem fx1r {fn : Func} {R : Ending → World → Prop} {r : ResultVar} (hr : fn.results = #[r]) (h : RV P W n f r v) (hR : R (.returned v) W) : PQ (bodyPost P fn R) .ret n f W := ⟨bodyPost_ret (run_results1 hr h) rfl hR⟩
theorem fx1 {fn : Func} {R : Ending → World → Prop} {r : ResultVar} (hr : fn.results = #[r]) (h : RV P W n f r v) (hR : R (.returned v) W) : PQ (bodyPost P fn R) .normal n f W := ⟨bodyPost_end (run_results1 hr h) rfl hR⟩
theorem fx2r {fn : Func} {R : Ending → World → Prop} {r r2 : ResultVar} {v2 : Value} (hr : fn.results = #[r, r2]) (h : RV P W n f r v) (h2 : RV P W n f r2 v2) (hR : R (.returned (.tuple #[v, v2])) W) : PQ (bodyPost P fn R) .ret n f W := ⟨bodyPost_ret (run_results2 hr h h2) rfl hR⟩
theorem fx3r {fn : Func} {R : Ending → World → Prop} {r r2 r3 : ResultVar} {v2 v3 : Value} (hr : fn.results = #[r, r2, r3]) (h : RV P W n f r v) (h2 : RV P W n f r2 v2) (h3 : RV P W n f r3 v3) (hR : R (.returned (.tuple #[v, v2, v3])) W) : PQ (bodyPost P fn R) .ret n f W := ⟨bodyPost_ret (run_results3 hr h h2 h3) rfl hR⟩
end
section
variable {P : Program} {ops : Array Oper} {rest : List Oper} {n k k2 : Nat} {f : Nat → Value} {W w0 : World} {F : List Nat} {L : List Ent} {Q : Exit → Act → World → Prop} {ty ty2 : TypeId} {pos pos2 : String} {af af2 : Array Edge} {g : Option (Nat × Bool)} {x y s : Operand} {v u : Value} {t e : TypeId}
/-- var x T -/
theorem s_al {z : List Value} {size bytes : Nat} (H : Heap w0 F L W) (hw : Region.wanted ⟨some k, .alloc t, ty, pos, af, g⟩ (yl n f ops) = true) (hi : Inf P t (.agg z.toArray) size bytes)
    (h : ∀ p W', Heap w0 F (blk p z t :: L) W' → SL P ops Q rest n (upd f k (.pointer (some ⟨p, 0, none⟩))) W') : SL P ops Q (⟨some k, .alloc t, ty, pos, af, g⟩ :: rest) n f W := by
  obtain ⟨i, h1, h2, _, _⟩ := hi.ex
  have hz : ∀ W, (zeroValue t).run P W = .ok (.agg z.toArray) W := fun W => by simp [zeroValue, typeInfo, h1, h2]
  exact s_run rfl hw (W' := W.alloc (.cells z.toArray t)) (by simp only [execOp, Instr.alloc, Sem.run_bind, hz, Result.andThen_ok]; rfl) (h _ _ (H.alloc z t))
theorem s_al1 {z : Value} {bytes : Nat} (H : Heap w0 F L W) (hw : Region.wanted ⟨some k, .alloc t, ty, pos, af, g⟩ (yl n f ops) = true) (hi : Inf P t z 1 bytes) (hz1 : z.oneCell' = true)
    (h : ∀ p W', Heap w0 F (blk p [z] t :: L) W' → SL P ops Q rest n (upd f k (.pointer (some ⟨p, 0, none⟩))) W') : SL P ops Q (⟨some k, .alloc t, ty, pos, af, g⟩ :: rest) n f W := by
  obtain ⟨i, h1, h2, _, _⟩ := hi.ex
  have hz : ∀ W, (zeroValue t).run P W = .ok z W := fun W => by simp [zeroValue, typeInfo, h1, h2]
  exact s_run rfl hw (W' := W.alloc (.cells [z].toArray t)) (by simp only [execOp, Instr.alloc, Sem.run_bind, hz, Result.andThen_ok, newVar, one_cells hz1]; rfl) (h _ _ (H.alloc [z] t))
theorem Heap.blk_row {p o : Nat} {cs vs : List Value} {T : TypeId} (H : Heap w0 F L W) (j : Nat) (hj : L[j]? = some (blk p cs T)) : Heap w0 F (L.set j (blk p (cs.take o ++ vs ++ cs.drop (o + vs.length)) T)) (W.setRow p (cs.toArray.toList.take o ++ vs ++ cs.toArray.toList.drop (o + vs.length)).toArray) := by
  refine H.at j hj (F' := [p]) ⟨?_, by simp [ids, blk], by simp [ids, blk], rfl, rfl, rfl, by simp [World.setRow], fun k _ hk => setRow_other W p k _ (by intro e; exact hk (by simp [e]))⟩ (by simp [blk])
  intro E hE
  rw [List.mem_singleton.1 hE]
  exact setRow_heap W p _ _ T _ (H.blk_get j hj)
/-- a struct or an array is stored -/
theorem s_sa {p o m : Nat} {cs vs : List Value} {T : TypeId} (H : Heap w0 F L W) (j : Nat) (hw : Region.wanted ⟨none, .store t x y, ty, pos, af, g⟩ (yl n f ops) = true) (hx : ev n f x = .pointer (some ⟨p, o, none⟩)) (hy : ev n f y = .agg vs.toArray) (hj : L[j]? = some (blk p cs T))
    (hl : vs.length = m) (h1 : vs.all (·.oneCell') = true) (hfit : Nat.ble (o + vs.length) cs.length = true) (hs : ∀ W, (Go.sizeOf t).run P W = .ok m W)
    (h : ∀ W', Heap w0 F (L.set j (blk p (cs.take o ++ vs ++ cs.drop (o + vs.length)) T)) W' → SL P ops Q rest n f W') : SL P ops Q (⟨none, .store t x y, ty, pos, af, g⟩ :: rest) n f W := by
  have hg := H.blk_get j hj
  have hst := run_storeCells_at P p o T vs 0 cs.toArray W hg (by simpa using Nat.le_of_ble_eq_true hfit) (fun v hv => List.all_eq_true.1 h1 v hv)
  simp only [Nat.add_zero] at hst
  have hr : (Instr.storeAt t (.pointer (some ⟨p, o, none⟩)) (.agg vs.toArray)).run P W = .ok () (W.setRow p (cs.toArray.toList.take o ++ vs ++ cs.toArray.toList.drop (o + vs.length)).toArray) := by
    simp only [Instr.storeAt, storeVar, Instr.sureAddr, Value.cells, Sem.run_bind, Sem.run_pure, Result.andThen_ok, hs, List.size_toArray, hl, ne_eq, not_true, if_false]
    rw [← hl]; exact hst
  exact s_do rfl hw (by simp only [execOp, hx, hy, Sem.run_bind, hr, Result.andThen_ok]; rfl) (h _ (H.blk_row j hj))
theorem s_sw {p m : Nat} {cs vs : List Value} {T : TypeId} (H : Heap w0 F L W) (j : Nat) (hw : Region.wanted ⟨none, .store t x y, ty, pos, af, g⟩ (yl n f ops) = true) (hx : ev n f x = .pointer (some ⟨p, 0, none⟩)) (hy : ev n f y = .agg vs.toArray) (hj : L[j]? = some (blk p cs T))
    (hl : vs.length = m) (h1 : vs.all (·.oneCell') = true) (hfit : cs.length = m) (hs : ∀ W, (Go.sizeOf t).run P W = .ok m W)
    (h : ∀ W', Heap w0 F (L.set j (blk p vs T)) W' → SL P ops Q rest n f W') : SL P ops Q (⟨none, .store t x y, ty, pos, af, g⟩ :: rest) n f W := by
  refine s_sa H j hw hx hy hj hl h1 (by rw [Nat.zero_add, hl, hfit]; exact Nat.ble_self_eq_true m) hs fun W' H' => h W' ?_
  rw [Nat.zero_add, List.take_zero, List.nil_append, hl, ← hfit, List.drop_length, List.append_nil] at H'
  exact H'
/-- a cell of a row of the call's own -/
theorem s_so {α : Type} {enc : α → Value} {size m i p c : Nat} {xs : List α} {T : TypeId} {z : α} (H : Heap w0 F L W) (j : Nat) (hw : Region.wanted ⟨none, .store t x y, ty, pos, af, g⟩ (yl n f ops) = true) (hx : ev n f x = .pointer (some ⟨p, i, none⟩)) (hy : ev n f y = u) (hj : L[j]? = some (ownN size (.slice (some ⟨p, 0, none⟩) m c) m (xs.map enc) T)) (hz : u = enc z) (hi : i < xs.length) (h1 : (enc z).oneCell' = true) (hs : ∀ W, (Go.sizeOf t).run P W = .ok 1 W)
    (h : ∀ W', Heap w0 F (L.set j (ownN size (.slice (some ⟨p, 0, none⟩) m c) m ((xs.set i z).map enc) T)) W' → SL P ops Q rest n f W') : SL P ops Q (⟨none, .store t x y, ty, pos, af, g⟩ :: rest) n f W := by
  subst hz
  have ho := H.own_get j hj
  have hcell := ho.cellAt i (by rw [← ho.1]; simpa using hi)
  have hfr := ho.frozenAt i
  rw [List.getElem?_map, List.getElem?_eq_getElem hi] at hcell
  have hr := run_storeAt_cell (P := P) (t := t) (u := enc z) hs hcell hfr h1
  refine s_do (W' := W.setCell ⟨p, i, none⟩ (enc z)) rfl hw (by simp only [execOp, hx, hy, Sem.run_bind, hr, Result.andThen_ok]; rfl) (h _ ?_)
  have hst := (ho.stored i (enc z)).1
  refine H.at j hj (F' := [p]) ⟨fun E hE => ?_, by simp [ids, ownN, Value.ownBlock], by simp [ids, ownN, Value.ownBlock], only_set W p i _⟩ (by simp [ownN, Value.ownBlock])
  rw [List.mem_singleton.1 hE]
  show World.ownsRow _ _ _ _ _ _ _
  rw [List.map_set]; exact hst
/-- append(s, y): y an array of several cells -/
theorem s_appN {α : Type} {enc : α → Value} {z0 : Value} {size bytes m : Nat} {xs zs : List α} (H : Heap w0 F L W) (j : Nat) (hj : L[j]? = some (ownN size v m (xs.map enc) e))
    (hw : Region.wanted ⟨some k, .buildSlice t 1 #[(0, x)], ty, pos, af, g⟩ (yl n f ops) = true) (hx : ev n f x = .agg (zs.map enc).toArray) (hzl : zs.length = size) (h1 : ∀ z, (enc z).oneCell' = true) (hsz : 0 < size ∧ size ≤ 1000)
    (hfill : Instr.fill (fun i => some (i * size, size)) ((Array.range size).map (z0.cells[· % z0.cells.size]!)) [(0, .agg (zs.map enc).toArray)] = some (zs.map enc).toArray)
    (hw2 : Region.wanted ⟨some k2, .call ⟨.builtin .append, #[s, .tmp k], #[t, t]⟩, ty2, pos2, af2, g⟩ (yl n (upd f k (.slice (some ⟨W.heap.size, 0, none⟩) 1 1)) ops) = true) (hs : ev n (upd f k (.slice (some ⟨W.heap.size, 0, none⟩) 1 1)) s = v) (hk : Nat.blt k n = true)
    (hm : m + 1 ≤ 100000000000 ∧ (m + 1) * bytes ≤ 140737488355328) (ht : P.underlying t = some (.slice e)) (hi : Inf P e z0 size bytes) (hz : z0.cells.size = size)
    (h : ∀ q b c W', Heap w0 F (L.set j (ownN size (.slice (some ⟨b, 0, none⟩) (m + 1) c) (m + 1) ((xs ++ zs).map enc) e)) W' → SL P ops Q rest n (upd (upd f k q) k2 (.slice (some ⟨b, 0, none⟩) (m + 1) c)) W') :
    SL P ops Q (⟨some k, .buildSlice t 1 #[(0, x)], ty, pos, af, g⟩ :: ⟨some k2, .call ⟨.builtin .append, #[s, .tmp k], #[t, t]⟩, ty2, pos2, af2, g⟩ :: rest) n f W := by
  obtain ⟨i, hi0, hz0, hisz, hby⟩ := hi.ex
  have hzs2 : (zs.map enc).length = size := by simpa using hzl
  have hbig : ¬ (1 * size > 2 ^ 24) := by omega
  have hne : ¬ (1 * size = 0) := by omega
  have r1 : (Instr.buildSlice t 1 #[(0, .agg (zs.map enc).toArray)]).run P W = .ok (.slice (some ⟨W.heap.size, 0, none⟩) 1 1) (W.alloc (.cells (zs.map enc).toArray e)) := by
    have hz1 : (zeroValue e).run P W = .ok z0 W := by simp [zeroValue, typeInfo, hi0, hz0]
    have hs1 : (Go.sizeOf e).run P W = .ok size W := by simp [Go.sizeOf, typeInfo, hi0, hisz]
    simp only [Instr.buildSlice, Sem.run_bind, run_underlying ht, Result.andThen_ok, hs1, hbig, if_false, hne, hz1, Sem.run_pure]
    rw [show (1 * size) = size from by omega, hfill]
    rfl
  refine s_run rfl hw (W' := W.alloc (.cells (zs.map enc).toArray e)) (v := .slice (some ⟨W.heap.size, 0, none⟩) 1 1) (by simp only [execOp, List.map_toArray, List.map_cons, List.map_nil, hx, Sem.run_bind, r1, Result.andThen_ok]; rfl) ?_
  have H2 := H.alloc (zs.map enc) e
  obtain ⟨v', W2, hr, o1, o2, o3⟩ := app_run (P := P) t ty2 e ht hi hz hsz.1 v m (xs.map enc) (H2.own_get (j + 1) (by simpa using hj)) ⟨W.heap.size, 0, none⟩ 1 1 (zs.map enc) (by rw [hzs2]; omega)
    (fun q u hq => by
      rw [add_plain]
      have hc := (Heap.blk_get H2 0 rfl)
      rw [Joins.cell_of_block hc]
      simpa using hq) (fun u hu => by
      obtain ⟨z, _, rfl⟩ := List.mem_map.1 hu; exact h1 z) (by unfold maxLen; omega) hm.2
  have H3 := (H2.app (j + 1) (by simpa using hj) (m := 1) o1 o2 o3)
  rw [List.set_cons_succ] at H3
  obtain ⟨b', c', rfl⟩ : ∃ b c, v' = .slice (some ⟨b, 0, none⟩) (m + 1) c := by
    rcases o1.2 with ⟨rfl, h0⟩ | ⟨g, cap, cur, rfl, _⟩
    · omega
    · exact ⟨_, _, rfl⟩
  have hkk : ev n (upd f k (.slice (some ⟨W.heap.size, 0, none⟩) 1 1)) (.tmp k) = .slice (some ⟨W.heap.size, 0, none⟩) 1 1 := by simp [ev, hk, upd]
  refine s_run rfl hw2 (W' := W2) (v := .slice (some ⟨b', 0, none⟩) (m + 1) c') (by
    simp only [execOp, resolve, invoke, builtin, List.map_toArray, List.map_cons, List.map_nil, hs, hkk, Sem.run_bind, Sem.run_pure, Result.andThen_ok, hr]) (h _ b' c' W2 ?_)
  have H4 := H3.drop
  rwa [List.map_append]
/-- append(s, y...) of elements of several cells -/
theorem s_apsN {α : Type} {enc : α → Value} {z0 : Value} {size bytes m l c : Nat} {A : Option Addr} {xs zs : List α} (H : Heap w0 F L W) (j : Nat) (hj : L[j]? = some (ownN size v m (xs.map enc) e))
    (hw : Region.wanted ⟨some k, .call ⟨.builtin .append, #[s, y], #[t, t]⟩, ty, pos, af, g⟩ (yl n f ops) = true) (hs : ev n f s = v) (hy : ev n f y = .slice A l c) (hz : Sees enc w0 F A zs) (hl : zs.length = l * size) (h1 : ∀ z, (enc z).oneCell' = true) (hsz : 0 < size)
    (hm : m + l ≤ 100000000000 ∧ (m + l) * bytes ≤ 140737488355328) (ht : P.underlying t = some (.slice e)) (hi : Inf P e z0 size bytes) (hz0 : z0.cells.size = size)
    (h : ∀ A' c' W', Heap w0 F (L.set j (ownN size (.slice A' (m + l) c') (m + l) ((xs ++ zs).map enc) e)) W' → SL P ops Q rest n (upd f k (.slice A' (m + l) c')) W') :
    SL P ops Q (⟨some k, .call ⟨.builtin .append, #[s, y], #[t, t]⟩, ty, pos, af, g⟩ :: rest) n f W := by
  have hown := H.own_get j hj
  obtain ⟨i, hi0, hzz, hisz, hby⟩ := hi.ex
  have key : ∃ v' W', (Builtin.append_ #[t, t] ty #[v, .slice A l c]).run P W = .ok v' W' ∧ W'.ownsRow 0 e size v' (m + l) (xs.map enc ++ zs.map enc) ∧ W.grownBy W' v.ownBlock ∧ (∀ k, v'.ownBlock = some k → v.ownBlock = some k ∨ W.heap.size ≤ k) := by
    have hlen0 : zs.length = 0 → l = 0 ∧ zs = [] := fun h0 => ⟨by
      rcases Nat.eq_zero_or_pos l with h2 | h2
      · exact h2
      · have := Nat.mul_pos h2 hsz; omega, List.eq_nil_of_length_eq_zero h0⟩
    cases A with
    | some p =>
      by_cases h0 : zs.length = 0
      · obtain ⟨rfl, rfl⟩ := hlen0 h0
        exact app_run (P := P) t ty e ht hi hz0 hsz v m (xs.map enc) hown p 0 c [] (by simp) (fun _ _ hq => by simp at hq) (by simp) (by unfold maxLen; omega) hm.2
      · obtain ⟨q, r, e0, hq, hr⟩ := hz h0
        injection e0 with e0
        subst e0
        have hr2 := hr.later H.only hq
        refine app_run (P := P) t ty e ht hi hz0 hsz v m (xs.map enc) hown ⟨q, r, none⟩ l c (zs.map enc) (by simpa using hl) (fun a u ha => ?_) (fun u hu => ?_) (by unfold maxLen; omega) hm.2
        · rw [List.getElem?_map] at ha
          cases hza : zs[a]? with
          | none => rw [hza] at ha; simp at ha
          | some z => rw [hza] at ha; rw [add_plain, hr2 a z hza]; simpa using ha
        · obtain ⟨z, _, rfl⟩ := List.mem_map.1 hu; exact h1 z
    | none =>
      have h0 : zs.length = 0 := by
        rcases Nat.eq_zero_or_pos zs.length with h0 | h0
        · exact h0
        · obtain ⟨q, r, e0, _⟩ := hz (by omega); cases e0
      obtain ⟨rfl, rfl⟩ := hlen0 h0
      refine ⟨v, W, ?_, by simpa using hown, ⟨rfl, rfl, rfl, Nat.le_refl _, fun _ _ _ => rfl⟩, fun k hk => .inl hk⟩
      rcases hown.2 with ⟨rfl, rfl⟩ | ⟨q, cap, cur, rfl, _, hg, hnc, _⟩
      · simp [Builtin.append_, run_underlying ht, Go.sizeOf, typeInfo, hi0, Builtin.lenOf, Builtin.firstCells]
      · simp [Builtin.append_, run_underlying ht, Go.sizeOf, typeInfo, hi0, Builtin.lenOf, Builtin.firstCells, hnc, storeCells]
  obtain ⟨v', W2, hr, o1, o2, o3⟩ := key
  have H3 := H.app j hj (m := l) o1 o2 o3
  rw [← List.map_append] at H3
  obtain ⟨A', c', rfl⟩ : ∃ A' c', v' = .slice A' (m + l) c' := by
    rcases o1.2 with ⟨rfl, h0⟩ | ⟨q, cap, cur, rfl, _⟩
    · exact ⟨none, 0, by rw [h0]⟩
    · exact ⟨_, cap, rfl⟩
  exact s_run rfl hw (W' := W2) (by simp only [execOp, resolve, invoke, builtin, List.map_toArray, List.map_cons, List.map_nil, hs, hy, Sem.run_bind, Sem.run_pure, Result.andThen_ok, hr]) (h A' c' W2 H3)
/-- a row of several-celled elements that grew reads as a row of cells -/
theorem own_vecN {α : Type} {enc : α → Value} {size : Nat} {A : Option Addr} {m c : Nat} {xs : List α} {T : TypeId} (hsz : 0 < size) (H : Heap w0 F (ownN size (.slice A m c) m (xs.map enc) T :: L) W) :
    ∃ b, (m ≠ 0 → A = some ⟨b, 0, none⟩) ∧ xs.length = m * size ∧ Heap w0 F (vec enc b xs T :: L) W := by
  have ho := H.own_get 0 rfl
  have hlen : xs.length = m * size := by have := ho.1; simpa using this
  rcases ho.2 with ⟨e1, h0⟩ | ⟨q, cap, cur, e1, _, hg, hnc, hcm, hcs, ht⟩
  · subst h0
    obtain rfl : xs = [] := List.eq_nil_of_length_eq_zero (by simpa using hlen)
    refine ⟨0, fun h => absurd rfl h, by simp, ?_⟩
    refine Heap.step (A := [ownN size (.slice A 0 c) 0 ([].map enc) T]) (A' := [vec enc 0 [] T]) (F' := []) H ⟨fun E hE => ?_, by simp [ids, vec], by simp [ids, vec], Only.refl _ _⟩ (by simp)
    rw [List.mem_singleton.1 hE]; exact fun h => absurd rfl h
  · injection e1 with e1 _ e2
    subst e1; subst e2
    refine ⟨q, fun _ => rfl, hlen, ?_⟩
    refine Heap.step (A := [ownN size (.slice (some ⟨q, 0, none⟩) m c) m (xs.map enc) T]) (A' := [vec enc q xs T]) (F' := [q]) H ⟨?_, ?_, ?_, Only.refl _ _⟩ (by simp [ids, ownN, Value.ownBlock])
    · intro E hE
      rw [List.mem_singleton.1 hE]
      intro _
      refine ⟨cur.toList.drop (m * size), ?_⟩
      rw [hg]
      congr 2
      rw [← ht]
      simp
    · simp [ids, vec]; split <;> simp
    · intro i hi; simp [ids, vec] at hi; left; simp [hi.2]
theorem madeCells_rep (z : Value) (size k : Nat) (u : Value) (h : z.cells = (List.replicate size u).toArray) (h0 : 0 < size) : madeCells z.cells k = (List.replicate k u).toArray := by
  apply Array.ext_getElem?
  intro i
  simp only [madeCells, h, Array.getElem?_map, Array.getElem?_range, List.getElem?_toArray, List.getElem?_replicate]
  by_cases hi : i < k
  · have : i % size < size := Nat.mod_lt _ h0
    simp [hi, this]
  · simp [hi]
theorem s_mkN {α : Type} (enc : α → Value) (z : α) (size : Nat) {kl kc : IntKind} {a b : Int} (m : Nat) {bytes : Nat} {z0 : Value} (H : Heap w0 F L W) (hw : Region.wanted ⟨some k, .makeSlice t x y, ty, pos, af, g⟩ (yl n f ops) = true)
    (hx : ev n f x = .int kl a) (hy : ev n f y = .int kc b) (ha : a = (m : Int)) (hb : b = (m : Int)) (hm : m * bytes ≤ 140737488355328 ∧ m ≤ 9223372036854775807) (ht : P.underlying t = some (.slice e)) (hi : Inf P e z0 size bytes) (hz0 : z0.cells = (List.replicate size (enc z)).toArray) (h0 : 0 < size)
    (h : ∀ p W', Heap w0 F (vec enc p (List.replicate (m * size) z) e :: L) W' → SL P ops Q rest n (upd f k (.slice (some ⟨p, 0, none⟩) m m)) W') : SL P ops Q (⟨some k, .makeSlice t x y, ty, pos, af, g⟩ :: rest) n f W := by
  subst ha; subst hb
  obtain ⟨i, hi, hz, hs, hby⟩ := hi.ex
  have hb' : (i.bytes : Int) * (m : Int) ≤ 281474976710656 := by
    have h2 : ((i.bytes * m : Nat) : Int) ≤ 281474976710656 := by rw [hby, Nat.mul_comm]; omega
    rwa [Int.natCast_mul] at h2
  have hr := run_make (P := P) W t e i z0 ht hi hz kl kc m m (by omega) (Int.le_refl _) hb' (by omega)
  simp only [Int.toNat_natCast, hs, madeCells_rep z0 size _ _ hz0 h0] at hr
  exact s_run rfl hw (W' := W.alloc (.cells (List.replicate (m * size) (enc z)).toArray e)) (by simp only [execOp, hx, hy, Sem.run_bind, hr, Result.andThen_ok]; rfl) (h _ _ (H.made (m * size) z e))
theorem Heap.sees {α : Type} {enc : α → Value} {w W : World} {L : List Ent} (H : Heap w [] L W) (j : Nat) {b : Nat} {xs : List α} {T : TypeId} (hj : L[j]? = some (vec enc b xs T)) {F : List Nat} (hF : ∀ i ∈ F, i < w.heap.size) {A : Option Addr} {m : Nat} (hA : m ≠ 0 → A = some ⟨b, 0, none⟩) (hm : xs.length ≠ 0 → m ≠ 0) : Sees enc W F A xs := by
  intro h0
  refine ⟨b, 0, hA (hm h0), fun hm => ?_, by simpa using H.reads0 j hj⟩
  have h1 := hF b hm
  have hmem : b ∈ ids L := mem_ids.2 ⟨_, List.mem_of_getElem? hj, by simp [vec, h0]⟩
  rcases H.own b hmem with h2 | h2
  · cases h2
  · omega
end
end Go.Proofs.Ytmekhdclnhhhbaa
