/- Parts of the proof, one behind the other. -/
import Derived.Shelf.Sort.Plain
import Derived.Shelf.Slices.In.SortNone
import Derived.Sort.OwnSortedInts
import Derived.Test.YtpbimgopiammaaaKOrderMendsa
set_option linter.unusedSimpArgs false
set_option linter.unusedVariables false
set_option linter.unusedSectionVars false
section
namespace Go.Proofs.Ytpbimgopiammaaa
open Go.RowKit Go.MapKept
open Go.Maps (Keyed)
open Go.ChangeMaps (setBlock)
section
variable {P : Program} {kt : TypeId} {α β : Type}
/-- a map -/
def mp (C : KC P kt α) (venc : β → Value) (b : Nat) (l : List (α × β)) : Ent :=
 ⟨[b], fun W => ∃ es clock, W.heap[b]? = some (.map es clock) ∧ MapOk C venc es clock l, by
  rintro W ⟨es, clock, h, _⟩ i hi
  rw [List.mem_singleton.1 hi]; exact arr_lt h, by
  rintro W W' h ⟨es, clock, hb, hk⟩
  exact ⟨es, clock, by rw [h b (by simp)]; exact hb, hk⟩⟩
/-- a map that is ranged over -/
def mi (C : KC P kt α) (venc : β → Value) (b r : Nat) (lb : List ((α × β) × Bool)) (cur : Option (α × β)) : Ent :=
 ⟨[b, r], fun W => ∃ es clock since seen c0, W.heap[b]? = some (.map es clock) ∧ W.heap[r]? = some (.mapIter (some b) since seen c0) ∧ IterOk C venc es clock since seen c0 lb ∧
   ∀ p, cur = some p → ∃ (e : MapEntry) (seen' : Array Nat), seen = seen'.push e.born ∧ c0 = clock ∧ e ∈ es.toList ∧ e.key = C.enc p.1 ∧ e.val = venc p.2, by
  rintro W ⟨es, clock, since, seen, c0, h, hr, _⟩ i hi
  rcases List.mem_cons.1 hi with rfl | hi
  ·exact arr_lt h
  ·rw [List.mem_singleton.1 hi]; exact arr_lt hr, by
  rintro W W' h ⟨es, clock, since, seen, c0, hb, hr, hk⟩
  exact ⟨es, clock, since, seen, c0, by rw [h b (by simp)]; exact hb, by rw [h r (by simp)]; exact hr, hk⟩⟩
end
theorem only_sb (W : World) (b : Nat) (o : Obj) : Only [b] W (setBlock W b o) :=
 ⟨rfl, rfl, rfl, by simp [setBlock], fun i _ hi => by
  have : b ≠ i := fun e => hi (by rw [e]; simp)
  simp [setBlock, Array.getElem?_setIfInBounds, this]⟩
theorem set_at (W : World) (b : Nat) (o o1 : Obj) (h : W.heap[b]? = some o1) : (setBlock W b o).heap[b]? = some o := by
 have := arr_lt h
 simp [setBlock, Array.getElem?_setIfInBounds, this]
theorem set_off (W : World) (b : Nat) (o : Obj) {i : Nat} (h : i ≠ b) : (setBlock W b o).heap[i]? = W.heap[i]? := by
 have : b ≠ i := fun e => h e.symm
 simp [setBlock, Array.getElem?_setIfInBounds, this]
section
variable {P : Program} {kt : TypeId} {α β : Type} [DecidableEq α] {C : KC P kt α} {venc : β → Value} {b r : Nat} {l : List (α × β)} {lb : List ((α × β) × Bool)} {cur : Option (α × β)} {W w0 : World} {F : List Nat} {L : List Ent}
theorem Heap.mp_get (H : Heap w0 F L W) (j : Nat) (hj : L[j]? = some (mp C venc b l)) : ∃ es clock, W.heap[b]? = some (.map es clock) ∧ MapOk C venc es clock l := H.ok _ (List.mem_of_getElem? hj)
theorem Heap.mi_get (H : Heap w0 F L W) (j : Nat) (hj : L[j]? = some (mi C venc b r lb cur)) : ∃ es clock since seen c0, W.heap[b]? = some (.map es clock) ∧ W.heap[r]? = some (.mapIter (some b) since seen c0) ∧ IterOk C venc es clock since seen c0 lb ∧
   ∀ p, cur = some p → ∃ (e : MapEntry) (seen' : Array Nat), seen = seen'.push e.born ∧ c0 = clock ∧ e ∈ es.toList ∧ e.key = C.enc p.1 ∧ e.val = venc p.2 := H.ok _ (List.mem_of_getElem? hj)
theorem Heap.mp_set (H : Heap w0 F L W) (j : Nat) (hj : L[j]? = some (mp C venc b l)) {es : Array MapEntry} {clock : Nat} {l' : List (α × β)} (hk : MapOk C venc es clock l') : Heap w0 F (L.set j (mp C venc b l')) (setBlock W b (.map es clock)) := by
 obtain ⟨es0, clock0, hb, _⟩ := H.mp_get j hj
 refine H.at j hj (F' := [b]) ⟨?_, by simp [ids, mp], by simp [ids, mp], only_sb W b _⟩ (by simp [mp])
 intro E hE
 rw [List.mem_singleton.1 hE]
 exact ⟨es, clock, set_at W b _ _ hb, hk⟩
theorem mi_ne (H : Heap w0 F L W) (j : Nat) (hj : L[j]? = some (mi C venc b r lb cur)) : r ≠ b := by
 obtain ⟨es, clock, since, seen, c0, hb, hr, _⟩ := H.mi_get j hj
 intro e
 rw [e, hb] at hr
 cases hr
/-- the loop is over: the map alone -/
theorem Heap.mi_done (H : Heap w0 F L W) (j : Nat) (hj : L[j]? = some (mi C venc b r lb cur)) : Heap w0 F (L.set j (mp C venc b (lb.map (·.1)))) W := by
 obtain ⟨es, clock, since, seen, c0, hb, hr, hk, _⟩ := H.mi_get j hj
 refine H.at j hj (F' := [b]) ⟨?_, by simp [ids, mp], by simp [ids, mp], Only.refl _ _⟩ (by simp [mi])
 intro E hE
 rw [List.mem_singleton.1 hE]
 exact ⟨es, clock, hb, hk.ok⟩
end
section
variable {P : Program} {ops : Array Oper} {rest : List Oper} {n : Sz} {k : Nat} {f : Nat → Value} {W W' w0 : World} {F : List Nat} {L : List Ent} {Q : Exit → Act → World → Prop} {ty : TypeId} {pos : String} {af : Array Edge} {g : Option (Nat × Bool)} {dst : Option Tmp} {x y u : Operand} {v z : Value} {t e kt : TypeId}
variable {α β : Type} [DecidableEq α] {C : KC P kt α} {venc : β → Value} {b r : Nat} {l : List (α × β)} {lb : List ((α × β) × Bool)} {cur : Option (α × β)} {a : α} {q : β}
theorem s_dv {o : Oper} (hd : o.dst = none) (hw : Region.wanted o (yl n f ops) = true) (hr : (execOp (ev n f) o).run P W = .ok (.value v) W') (h : SL P ops Q rest n f W') : SL P ops Q (o :: rest) n f W := by
 have hy : yielded ops (Fn n f).tmps = yl n f ops := funext (yl_eq n f ops)
 have hr' : (execOp (Fn n f).eval o).run P W = .ok (.value v) W' := by rw [Fn_eval]; exact hr
 refine ⟨?_, fun l0 m => ?_⟩
 ·unfold wpList
  rw [hy, if_pos hw]
  refine .inl ?_
  unfold Oper.wp
  rw [hr', Oper.upon_value, hd]
  exact h.out
 ·unfold wpListIn
  rw [hy, if_pos hw]
  refine inr_step hr' (fun d => by intro e; cases e) ?_
  rw [Oper.uponIn_value, hd]
  exact h.inr l0 m
/-- make(map[K]V) -/
theorem s_mm (C : KC P kt α) (venc : β → Value) (H : Heap w0 F L W) (hw : Region.wanted ⟨some k, .makeMap t none, ty, pos, af, g⟩ (yl n f ops) = true)
  (h : ∀ b W', Heap w0 F (mp C venc b ([] : List (α × β)) :: L) W' → SL P ops Q rest n (upd f k (.map (some b))) W') : SL P ops Q (⟨some k, .makeMap t none, ty, pos, af, g⟩ :: rest) n f W := by
 refine s_run rfl hw (W' := W.alloc (.map #[] 0)) rfl (h _ _ (H.more (A := [mp C venc W.heap.size []]) ⟨?_, by simp [ids, mp], by simp [ids, mp], ?_⟩))
 ·intro E hE
  rw [List.mem_singleton.1 hE]
  exact ⟨#[], 0, heap_alloc_new W _, MapOk.nil⟩
 ·exact Only.of_below ((Below.refl _ _).alloc (Nat.le_refl _) _) _
/-- m[a] -/
theorem r_lk (H : Heap w0 F L W) (j : Nat) (hj : L[j]? = some (mp C venc b l)) (hx : ev n f x = .map (some b)) (hy : ev n f y = C.enc a) (ga : C.Gd a) (ht : P.underlying t = some (.map kt e)) (hz : ∀ W, (zeroValue e).run P W = .ok z W) (ok : Bool) :
  (execOp (ev n f) ⟨dst, .lookup t x y ok, ty, pos, af, g⟩).run P W = .ok (.value (if ok then .tuple #[((mget l a).map venc).getD z, .bool (mget l a).isSome] else ((mget l a).map venc).getD z)) W := by
 obtain ⟨es, clock, hb, hk⟩ := H.mp_get j hj
 have h := hk.look ht (hz W) hb a ga ok
 simp only [execOp, hx, hy, Sem.run_bind, h, Result.andThen_ok, Sem.run_pure]
theorem r_lkS (H : Heap w0 F L W) (j : Nat) (hj : L[j]? = some (mp C venc b l)) (hx : ev n f x = .map (some b)) (hy : ev n f y = C.enc a) (ga : C.Gd a) (hm : mget l a = some q) (ht : P.underlying t = some (.map kt e)) (hz : ∀ W, (zeroValue e).run P W = .ok z W) (hv : venc q = v) :
  (execOp (ev n f) ⟨dst, .lookup t x y false, ty, pos, af, g⟩).run P W = .ok (.value v) W := by
 have h := r_lk (dst := dst) (ty := ty) (pos := pos) (af := af) (g := g) H j hj hx hy ga ht hz false
 rw [h, hm, ← hv]; rfl
theorem r_lkN (H : Heap w0 F L W) (j : Nat) (hj : L[j]? = some (mp C venc b l)) (hx : ev n f x = .map (some b)) (hy : ev n f y = C.enc a) (ga : C.Gd a) (hm : mget l a = none) (ht : P.underlying t = some (.map kt e)) (hz : ∀ W, (zeroValue e).run P W = .ok z W) :
  (execOp (ev n f) ⟨dst, .lookup t x y false, ty, pos, af, g⟩).run P W = .ok (.value z) W := by
 have h := r_lk (dst := dst) (ty := ty) (pos := pos) (af := af) (g := g) H j hj hx hy ga ht hz false
 rw [h, hm]; rfl
/-- m[a] = q -/
theorem s_mu (H : Heap w0 F L W) (j : Nat) (hw : Region.wanted ⟨none, .mapUpdate t x y u, ty, pos, af, g⟩ (yl n f ops) = true) (hj : L[j]? = some (mp C venc b l)) (hx : ev n f x = .map (some b)) (hy : ev n f y = C.enc a) (hu : ev n f u = venc q) (ga : C.Gd a) (ht : P.underlying t = some (.map kt e))
  (h : ∀ W', Heap w0 F (L.set j (mp C venc b (mput l a q))) W' → SL P ops Q rest n f W') : SL P ops Q (⟨none, .mapUpdate t x y u, ty, pos, af, g⟩ :: rest) n f W := by
 obtain ⟨es, clock, hb, hk⟩ := H.mp_get j hj
 obtain ⟨es', clock', hrun, hk'⟩ := hk.put ht hb a ga q
 exact s_do rfl hw (by simp only [execOp, hx, hy, hu, Sem.run_bind, hrun, Result.andThen_ok, Sem.run_pure]) (h _ (H.mp_set j hj hk'))
/-- clear(m) -/
theorem s_cm (H : Heap w0 F L W) (j : Nat) (hw : Region.wanted ⟨none, .call ⟨.builtin .clear, #[x], #[t]⟩, ty, pos, af, g⟩ (yl n f ops) = true) (hx : ev n f x = .map (some b)) (hj : L[j]? = some (mp C venc b l)) (ht : P.underlying t = some (.map kt e))
  (h : ∀ W', Heap w0 F (L.set j (mp C venc b ([] : List (α × β)))) W' → SL P ops Q rest n f W') : SL P ops Q (⟨none, .call ⟨.builtin .clear, #[x], #[t]⟩, ty, pos, af, g⟩ :: rest) n f W := by
 obtain ⟨es, clock, hb, hk⟩ := H.mp_get j hj
 have hrun : (Builtin.clear_ #[t] ty #[.map (some b)]).run P W = .ok (.tuple #[]) (setBlock W b (.map #[] clock)) := by
  simp [Builtin.clear_, run_underlying ht, MapKept.run_getObj_map hb, MapKept.run_setObj_map _ hb, Result.andThen, setBlock]
 have hk' : MapOk C venc #[] clock ([] : List (α × β)) := ⟨rfl, by simp, by simp, by simp, by simp⟩
 exact s_dv (v := .tuple #[]) rfl hw (by simp only [execOp, resolve, invoke, builtin, List.map_toArray, List.map_cons, List.map_nil, hx, Sem.run_bind, Sem.run_pure, Result.andThen_ok, hrun]) (h _ (H.mp_set j hj hk'))
/-- range m -/
theorem s_rm (H : Heap w0 F L W) (j : Nat) (hw : Region.wanted ⟨some k, .range t x, ty, pos, af, g⟩ (yl n f ops) = true) (hx : ev n f x = .map (some b)) (hj : L[j]? = some (mp C venc b l)) (ht : P.underlying t = some (.map kt e))
  (h : ∀ r W', Heap w0 F (L.set j (mi C venc b r (l.map fun p => (p, true)) none)) W' → SL P ops Q rest n (upd f k (.pointer (some ⟨r, 0, none⟩))) W') : SL P ops Q (⟨some k, .range t x, ty, pos, af, g⟩ :: rest) n f W := by
 obtain ⟨es, clock, hb, hk⟩ := H.mp_get j hj
 have hlt := arr_lt hb
 have hrun := run_range_map (P := P) W t kt e b es clock ht hb
 refine s_run rfl hw (W' := W.alloc (.mapIter (some b) clock #[] clock)) (by simp only [execOp, hx, Sem.run_bind, hrun, Result.andThen_ok, Sem.run_pure]) (h W.heap.size _ (H.at j hj (F' := [b]) ⟨?_, ?_, ?_, ?_⟩ (by simp [mp])))
 ·intro E hE
  rw [List.mem_singleton.1 hE]
  exact ⟨es, clock, clock, #[], clock, ((MapKept.heap_alloc W _).2 b hlt).trans hb, (MapKept.heap_alloc W _).1, IterOk.start hk, fun p hp => by cases hp⟩
 ·have : b ≠ W.heap.size := by omega
  simp [ids, mi, this]
 ·intro i hi
  simp [ids, mi] at hi
  rcases hi with rfl | rfl
  ·exact .inl (by simp)
  ·exact .inr (Nat.le_refl _)
 ·exact (Only.of_below ((Below.refl _ _).alloc (Nat.le_refl _) _) _)
/-- the step: nothing is left -/
theorem s_nx0 (H : Heap w0 F L W) (j : Nat) (hl : mleft lb = []) (hw : Region.wanted ⟨some k, .next x false, ty, pos, af, g⟩ (yl n f ops) = true) (hx : ev n f x = .pointer (some ⟨r, 0, none⟩)) (hj : L[j]? = some (mi C venc b r lb cur))
  (h : SL P ops Q rest n (upd f k (.tuple [.bool false].toArray)) W) : SL P ops Q (⟨some k, .next x false, ty, pos, af, g⟩ :: rest) n f W := by
 obtain ⟨es, clock, since, seen, c0, hb, hr, hk, _⟩ := H.mi_get j hj
 rcases hk.next hb hr ty with ⟨_, hrun⟩ | ⟨hn, _⟩
 ·exact s_run rfl hw (by simp only [execOp, hx, Sem.run_bind, hrun, Result.andThen_ok, Sem.run_pure]) h
 ·exact absurd hl hn
/-- the step: one that is left, whichever -/
theorem s_nx1 (H : Heap w0 F L W) (j : Nat) (hl : mleft lb ≠ []) (hw : Region.wanted ⟨some k, .next x false, ty, pos, af, g⟩ (yl n f ops) = true) (hx : ev n f x = .pointer (some ⟨r, 0, none⟩)) (hj : L[j]? = some (mi C venc b r lb cur))
  (h : ∀ i p W', lb[i]? = some (p, true) → C.Gd p.1 → Heap w0 F (L.set j (mi C venc b r (lb.set i (p, false)) (some p))) W' → SL P ops Q rest n (upd f k (.tuple [.bool true, C.enc p.1, venc p.2].toArray)) W') : SL P ops Q (⟨some k, .next x false, ty, pos, af, g⟩ :: rest) n f W := by
 obtain ⟨es, clock, since, seen, c0, hb, hr, hk, _⟩ := H.mi_get j hj
 have hne := mi_ne H j hj
 rcases hk.next hb hr ty with ⟨hn, _⟩ | ⟨_, i, p, e0, w1, hal, hp, hem, hkey, hval, hrun, hk'⟩
 ·exact absurd hn hl
 ·have hr1 : w1.heap[r]? = some (.mapIter (some b) since seen c0) := by rcases hal with rfl | rfl <;> exact hr
  have hb1 : w1.heap[b]? = some (.map es clock) := by rcases hal with rfl | rfl <;> exact hb
  have ho : Only [] W w1 := by
   rcases hal with rfl | rfl
   ·exact Only.refl _ _
   ·exact ⟨rfl, rfl, rfl, Nat.le_refl _, fun _ _ _ => rfl⟩
  have gp : C.Gd p.1 := hk.ok.gd p (List.mem_map.2 ⟨(p, true), List.mem_of_getElem? hp, rfl⟩)
  refine s_run rfl hw (W' := setBlock w1 r (.mapIter (some b) since (seen.push e0.born) clock)) (by simp only [execOp, hx, Sem.run_bind, hrun, Result.andThen_ok, Sem.run_pure]) (h i p _ hp gp (H.at j hj (F' := [b, r]) ⟨?_, ?_, ?_, ?_⟩ (by simp [mi])))
  ·intro E hE
   rw [List.mem_singleton.1 hE]
   exact ⟨es, clock, since, seen.push e0.born, clock, (set_off w1 r _ (fun e => hne e.symm)).trans hb1, set_at w1 r _ _ hr1, hk', fun p' hp' => by
    injection hp' with hp'
    subst hp'
    exact ⟨e0, seen, rfl, rfl, hem, hkey, hval⟩⟩
  ·have : b ≠ r := fun e => hne e.symm
   simp [ids, mi, this]
  ·intro i hi
   simp [ids, mi] at hi
   rcases hi with rfl | rfl
   ·exact .inl (by simp)
   ·exact .inl (by simp)
  ·exact (ho.mono (by simp)).trans ((only_sb w1 r _).mono (by simp))
/-- the round's key and value -/
theorem r_en {p : α × β} (H : Heap w0 F L W) (j : Nat) (hj : L[j]? = some (mi C venc b r lb (some p))) (hx : ev n f x = .pointer (some ⟨r, 0, none⟩)) : (execOp (ev n f) ⟨dst, .entry x, ty, pos, af, g⟩).run P W = .ok (.value (.tuple [C.enc p.1, venc p.2].toArray)) W := by
 obtain ⟨es, clock, since, seen, c0, hb, hr, hk, hc⟩ := H.mi_get j hj
 obtain ⟨e0, seen', rfl, rfl, hem, hkey, hval⟩ := hc p rfl
 have hrun := run_entry_at (P := P) W r b since seen' es c0 e0 hr hb hem hk.ok.bn
 rw [hkey, hval] at hrun
 simp only [execOp, hx, Sem.run_bind, hrun, Result.andThen_ok, Sem.run_pure]
/-- delete(m, a) in a round -/
theorem s_di (H : Heap w0 F L W) (j : Nat) (hw : Region.wanted ⟨none, .call ⟨.builtin .delete, #[x, y], #[t, kt]⟩, ty, pos, af, g⟩ (yl n f ops) = true) (hj : L[j]? = some (mi C venc b r lb cur)) (hx : ev n f x = .map (some b)) (hy : ev n f y = C.enc a) (ga : C.Gd a) (ht : P.underlying t = some (.map kt e))
  (h : ∀ W', Heap w0 F (L.set j (mi C venc b r (lb.filter (fun x => decide (x.1.1 ≠ a))) none)) W' → SL P ops Q rest n f W') : SL P ops Q (⟨none, .call ⟨.builtin .delete, #[x, y], #[t, kt]⟩, ty, pos, af, g⟩ :: rest) n f W := by
 obtain ⟨es, clock, since, seen, c0, hb, hr, hk, _⟩ := H.mi_get j hj
 have hne := mi_ne H j hj
 obtain ⟨es', hrun, hk'⟩ := hk.del (ty := ty) ht hb a ga
 refine s_dv (v := .tuple #[]) rfl hw (W' := setBlock W b (.map es' clock)) (by simp only [execOp, resolve, invoke, builtin, List.map_toArray, List.map_cons, List.map_nil, hx, hy, Sem.run_bind, Sem.run_pure, Result.andThen_ok, hrun]) (h _ (H.at j hj (F' := [b, r]) ⟨?_, ?_, ?_, (only_sb W b _).mono (by simp)⟩ (by simp [mi])))
 ·intro E hE
  rw [List.mem_singleton.1 hE]
  exact ⟨es', clock, since, seen, c0, set_at W b _ _ hb, (set_off W b _ hne).trans hr, hk', fun p hp => by cases hp⟩
 ·have : b ≠ r := fun e => hne e.symm
  simp [ids, mi, this]
 ·intro i hi
  simp [ids, mi] at hi
  rcases hi with rfl | rfl
  ·exact .inl (by simp)
  ·exact .inl (by simp)
end
theorem zv_of {P : Program} {t : TypeId} {z : Value} {size bytes : Nat} (hi : Inf P t z size bytes) : ∀ W, (zeroValue t).run P W = .ok z W := by
 obtain ⟨i, h1, h2, _, _⟩ := hi.ex
 exact fun W => by simp [zeroValue, typeInfo, h1, h2]
/-- keys that are ints -/
def kI (P : Program) (kt : TypeId) (h : P.underlying kt = some (.int .i64)) : KC P kt Int :=
 ⟨Value.int .i64, fun a => -9223372036854775808 ≤ a ∧ a ≤ 9223372036854775807, Go.Maps.int_keyed h, fun a ha => ⟨_, Go.Maps.keyOf_int_mk h (wf_i64 ha)⟩, fun a b e => by injection e⟩
end Go.Proofs.Ytpbimgopiammaaa
end

section
namespace Go.Proofs.Ytpbimgopiammaaa
open Go.RowKit
theorem ag3 (W : World) : (isAgg 3).run Try.prog W = .ok false W := by kernel_rfl
theorem sz3 (W : World) : (Go.sizeOf 3).run Try.prog W = .ok 1 W := by kernel_rfl
theorem ag4 (W : World) : (isAgg 4).run Try.prog W = .ok false W := by kernel_rfl
theorem sz4 (W : World) : (Go.sizeOf 4).run Try.prog W = .ok 1 W := by kernel_rfl
theorem ag44 (W : World) : (isAgg 44).run Try.prog W = .ok false W := by kernel_rfl
theorem sz44 (W : World) : (Go.sizeOf 44).run Try.prog W = .ok 1 W := by kernel_rfl
theorem ag45 (W : World) : (isAgg 45).run Try.prog W = .ok false W := by kernel_rfl
theorem sz45 (W : World) : (Go.sizeOf 45).run Try.prog W = .ok 1 W := by kernel_rfl
theorem ag49 (W : World) : (isAgg 49).run Try.prog W = .ok true W := by kernel_rfl
theorem sz49 (W : World) : (Go.sizeOf 49).run Try.prog W = .ok 2 W := by kernel_rfl
theorem fo49_0 (a : Addr) (W : World) : (Instr.fieldAt 49 (.pointer (some a)) 0).run Try.prog W = .ok (.pointer (some (a.add 0))) W := by kernel_rfl
theorem fo49_1 (a : Addr) (W : World) : (Instr.fieldAt 49 (.pointer (some a)) 1).run Try.prog W = .ok (.pointer (some (a.add 1))) W := by kernel_rfl
theorem ag58 (W : World) : (isAgg 58).run Try.prog W = .ok false W := by kernel_rfl
theorem sz58 (W : World) : (Go.sizeOf 58).run Try.prog W = .ok 1 W := by kernel_rfl
theorem ag67 (W : World) : (isAgg 67).run Try.prog W = .ok true W := by kernel_rfl
theorem sz67 (W : World) : (Go.sizeOf 67).run Try.prog W = .ok 2 W := by kernel_rfl
theorem fo67_0 (a : Addr) (W : World) : (Instr.fieldAt 67 (.pointer (some a)) 0).run Try.prog W = .ok (.pointer (some (a.add 0))) W := by kernel_rfl
theorem fo67_1 (a : Addr) (W : World) : (Instr.fieldAt 67 (.pointer (some a)) 1).run Try.prog W = .ok (.pointer (some (a.add 1))) W := by kernel_rfl
theorem ag69 (W : World) : (isAgg 69).run Try.prog W = .ok true W := by kernel_rfl
theorem sz69 (W : World) : (Go.sizeOf 69).run Try.prog W = .ok 3 W := by kernel_rfl
theorem fo69_2 (a : Addr) (W : World) : (Instr.fieldAt 69 (.pointer (some a)) 2).run Try.prog W = .ok (.pointer (some (a.add 2))) W := by kernel_rfl
theorem ag87 (W : World) : (isAgg 87).run Try.prog W = .ok false W := by kernel_rfl
theorem ag88 (W : World) : (isAgg 88).run Try.prog W = .ok false W := by kernel_rfl
theorem fo90_0 (a : Addr) (W : World) : (Instr.fieldAt 90 (.pointer (some a)) 0).run Try.prog W = .ok (.pointer (some (a.add 0))) W := by kernel_rfl
theorem fo90_1 (a : Addr) (W : World) : (Instr.fieldAt 90 (.pointer (some a)) 1).run Try.prog W = .ok (.pointer (some (a.add 1))) W := by kernel_rfl
theorem fo90_2 (a : Addr) (W : World) : (Instr.fieldAt 90 (.pointer (some a)) 2).run Try.prog W = .ok (.pointer (some (a.add 2))) W := by kernel_rfl
theorem fo90_3 (a : Addr) (W : World) : (Instr.fieldAt 90 (.pointer (some a)) 3).run Try.prog W = .ok (.pointer (some (a.add 3))) W := by kernel_rfl
theorem fo90_4 (a : Addr) (W : World) : (Instr.fieldAt 90 (.pointer (some a)) 4).run Try.prog W = .ok (.pointer (some (a.add 4))) W := by kernel_rfl
theorem inf3 : Inf Try.prog 3 (.int .i64 0) 1 8 := inf_of (by kernel_rfl)
theorem inf4 : Inf Try.prog 4 (.bool false) 1 1 := inf_of (by kernel_rfl)
theorem inf44 : Inf Try.prog 44 (.slice none 0 0) 1 24 := inf_of (by kernel_rfl)
theorem inf45 : Inf Try.prog 45 (.pointer none) 1 8 := inf_of (by kernel_rfl)
theorem inf49 : Inf Try.prog 49 (.agg [.int .i64 0, .int .i64 0].toArray) 2 16 := inf_of (by kernel_rfl)
theorem inf67 : Inf Try.prog 67 (.agg [.int .i64 0, .int .i64 0].toArray) 2 16 := inf_of (by kernel_rfl)
theorem inf69 : Inf Try.prog 69 (.agg [.int .i64 0, .int .i64 0, .int .i64 0].toArray) 3 24 := inf_of (by kernel_rfl)
theorem inf92 : Inf Try.prog 92 (.int .i64 0) 1 8 := inf_of (by kernel_rfl)
theorem bd49_0 (z0 : Int) (W : World) : (Instr.build 49 ([(0, .int .i64 z0)] : List (Nat × Value)).toArray).run Try.prog W = .ok (.agg ([(.int .i64 z0), (.int .i64 0)] : List Value).toArray) W := by kernel_rfl
theorem bd49_0_1 (z0 : Int) (z1 : Int) (W : World) : (Instr.build 49 ([(0, .int .i64 z0), (1, .int .i64 z1)] : List (Nat × Value)).toArray).run Try.prog W = .ok (.agg ([(.int .i64 z0), (.int .i64 z1)] : List Value).toArray) W := by kernel_rfl
theorem bd67_0 (z0 : Int) (W : World) : (Instr.build 67 ([(0, .int .i64 z0)] : List (Nat × Value)).toArray).run Try.prog W = .ok (.agg ([(.int .i64 z0), (.int .i64 0)] : List Value).toArray) W := by kernel_rfl
theorem bd67_0_1 (z0 : Int) (z1 : Int) (W : World) : (Instr.build 67 ([(0, .int .i64 z0), (1, .int .i64 z1)] : List (Nat × Value)).toArray).run Try.prog W = .ok (.agg ([(.int .i64 z0), (.int .i64 z1)] : List Value).toArray) W := by kernel_rfl
theorem bd69_0_1_2 (z0 : Int) (z1 : Int) (z2 : Int) (W : World) : (Instr.build 69 ([(0, .int .i64 z0), (1, .int .i64 z1), (2, .int .i64 z2)] : List (Nat × Value)).toArray).run Try.prog W = .ok (.agg ([(.int .i64 z0), (.int .i64 z1), (.int .i64 z2)] : List Value).toArray) W := by kernel_rfl
theorem bd90_0_1 (z0 : Option Nat) (z1 : Option Nat) (W : World) : (Instr.build 90 ([(0, .map z0), (1, .map z1)] : List (Nat × Value)).toArray).run Try.prog W = .ok (.agg ([(.map z0), (.map z1), (.bool false), (.int .i64 0), (.slice none 0 0)] : List Value).toArray) W := by kernel_rfl
theorem mixed : Try.prog.follows .mixedOrders = true := by kernel_rfl
variable {n : Nat} {f : Nat → Value} {ty : TypeId} {pos : String} {af : Array Edge} {g : Option (Nat × Bool)} {xs : Array Operand} {tys : Array TypeId} {dst : Option Tmp} {vs : List Value}
theorem ca17 {n : Sz} {f : Nat → Value} {ty : TypeId} {pos : String} {af : Array Edge} {g : Option (Nat × Bool)} {xs : Array Operand} {tys : Array TypeId} {dst : Option Tmp} {vs : List Value} (hv : xs.toList.map (ev n f) = vs) (W : World) : (execOp (ev n f) ⟨dst, .call ⟨.value (.func 17), xs, tys⟩, ty, pos, af, g⟩).run Try.prog W = .ok (.enter 17 vs.toArray) W := r_call Try.func17 (by kernel_rfl) (by kernel_rfl) hv W
theorem ca18 {n : Sz} {f : Nat → Value} {ty : TypeId} {pos : String} {af : Array Edge} {g : Option (Nat × Bool)} {xs : Array Operand} {tys : Array TypeId} {dst : Option Tmp} {vs : List Value} (hv : xs.toList.map (ev n f) = vs) (W : World) : (execOp (ev n f) ⟨dst, .call ⟨.value (.func 18), xs, tys⟩, ty, pos, af, g⟩).run Try.prog W = .ok (.enter 18 vs.toArray) W := r_call Try.func18 (by kernel_rfl) (by kernel_rfl) hv W
theorem ca19 {n : Sz} {f : Nat → Value} {ty : TypeId} {pos : String} {af : Array Edge} {g : Option (Nat × Bool)} {xs : Array Operand} {tys : Array TypeId} {dst : Option Tmp} {vs : List Value} (hv : xs.toList.map (ev n f) = vs) (W : World) : (execOp (ev n f) ⟨dst, .call ⟨.value (.func 19), xs, tys⟩, ty, pos, af, g⟩).run Try.prog W = .ok (.enter 19 vs.toArray) W := r_call Try.func19 (by kernel_rfl) (by kernel_rfl) hv W
theorem ca21 {n : Sz} {f : Nat → Value} {ty : TypeId} {pos : String} {af : Array Edge} {g : Option (Nat × Bool)} {xs : Array Operand} {tys : Array TypeId} {dst : Option Tmp} {vs : List Value} (hv : xs.toList.map (ev n f) = vs) (W : World) : (execOp (ev n f) ⟨dst, .call ⟨.value (.func 21), xs, tys⟩, ty, pos, af, g⟩).run Try.prog W = .ok (.enter 21 vs.toArray) W := r_call Try.func21 (by kernel_rfl) (by kernel_rfl) hv W
theorem ca23 {n : Sz} {f : Nat → Value} {ty : TypeId} {pos : String} {af : Array Edge} {g : Option (Nat × Bool)} {xs : Array Operand} {tys : Array TypeId} {dst : Option Tmp} {vs : List Value} (hv : xs.toList.map (ev n f) = vs) (W : World) : (execOp (ev n f) ⟨dst, .call ⟨.value (.func 23), xs, tys⟩, ty, pos, af, g⟩).run Try.prog W = .ok (.enter 23 vs.toArray) W := r_call Try.func23 (by kernel_rfl) (by kernel_rfl) hv W
theorem ca26 {n : Sz} {f : Nat → Value} {ty : TypeId} {pos : String} {af : Array Edge} {g : Option (Nat × Bool)} {xs : Array Operand} {tys : Array TypeId} {dst : Option Tmp} {vs : List Value} (hv : xs.toList.map (ev n f) = vs) (W : World) : (execOp (ev n f) ⟨dst, .call ⟨.value (.func 26), xs, tys⟩, ty, pos, af, g⟩).run Try.prog W = .ok (.enter 26 vs.toArray) W := r_call Try.func26 (by kernel_rfl) (by kernel_rfl) hv W
theorem ca27 {n : Sz} {f : Nat → Value} {ty : TypeId} {pos : String} {af : Array Edge} {g : Option (Nat × Bool)} {xs : Array Operand} {tys : Array TypeId} {dst : Option Tmp} {vs : List Value} (hv : xs.toList.map (ev n f) = vs) (W : World) : (execOp (ev n f) ⟨dst, .call ⟨.value (.func 27), xs, tys⟩, ty, pos, af, g⟩).run Try.prog W = .ok (.enter 27 vs.toArray) W := r_call Try.func27 (by kernel_rfl) (by kernel_rfl) hv W
theorem ca29 {n : Sz} {f : Nat → Value} {ty : TypeId} {pos : String} {af : Array Edge} {g : Option (Nat × Bool)} {xs : Array Operand} {tys : Array TypeId} {dst : Option Tmp} {vs : List Value} (hv : xs.toList.map (ev n f) = vs) (W : World) : (execOp (ev n f) ⟨dst, .call ⟨.value (.func 29), xs, tys⟩, ty, pos, af, g⟩).run Try.prog W = .ok (.enter 29 vs.toArray) W := r_call Try.func29 (by kernel_rfl) (by kernel_rfl) hv W
theorem ca30 {n : Sz} {f : Nat → Value} {ty : TypeId} {pos : String} {af : Array Edge} {g : Option (Nat × Bool)} {xs : Array Operand} {tys : Array TypeId} {dst : Option Tmp} {vs : List Value} (hv : xs.toList.map (ev n f) = vs) (W : World) : (execOp (ev n f) ⟨dst, .call ⟨.value (.func 30), xs, tys⟩, ty, pos, af, g⟩).run Try.prog W = .ok (.enter 30 vs.toArray) W := r_call Try.func30 (by kernel_rfl) (by kernel_rfl) hv W
theorem ca40 {n : Sz} {f : Nat → Value} {ty : TypeId} {pos : String} {af : Array Edge} {g : Option (Nat × Bool)} {xs : Array Operand} {tys : Array TypeId} {dst : Option Tmp} {vs : List Value} (hv : xs.toList.map (ev n f) = vs) (W : World) : (execOp (ev n f) ⟨dst, .call ⟨.value (.func 40), xs, tys⟩, ty, pos, af, g⟩).run Try.prog W = .ok (.enter 40 vs.toArray) W := r_call Try.func40 (by kernel_rfl) (by kernel_rfl) hv W
theorem ca41 {n : Sz} {f : Nat → Value} {ty : TypeId} {pos : String} {af : Array Edge} {g : Option (Nat × Bool)} {xs : Array Operand} {tys : Array TypeId} {dst : Option Tmp} {vs : List Value} (hv : xs.toList.map (ev n f) = vs) (W : World) : (execOp (ev n f) ⟨dst, .call ⟨.value (.func 41), xs, tys⟩, ty, pos, af, g⟩).run Try.prog W = .ok (.enter 41 vs.toArray) W := r_call Try.func41 (by kernel_rfl) (by kernel_rfl) hv W
theorem ca42 {n : Sz} {f : Nat → Value} {ty : TypeId} {pos : String} {af : Array Edge} {g : Option (Nat × Bool)} {xs : Array Operand} {tys : Array TypeId} {dst : Option Tmp} {vs : List Value} (hv : xs.toList.map (ev n f) = vs) (W : World) : (execOp (ev n f) ⟨dst, .call ⟨.value (.func 42), xs, tys⟩, ty, pos, af, g⟩).run Try.prog W = .ok (.enter 42 vs.toArray) W := r_call Try.func42 (by kernel_rfl) (by kernel_rfl) hv W
theorem ca43 {n : Sz} {f : Nat → Value} {ty : TypeId} {pos : String} {af : Array Edge} {g : Option (Nat × Bool)} {xs : Array Operand} {tys : Array TypeId} {dst : Option Tmp} {vs : List Value} (hv : xs.toList.map (ev n f) = vs) (W : World) : (execOp (ev n f) ⟨dst, .call ⟨.value (.func 43), xs, tys⟩, ty, pos, af, g⟩).run Try.prog W = .ok (.enter 43 vs.toArray) W := r_call Try.func43 (by kernel_rfl) (by kernel_rfl) hv W
theorem ca44 {n : Sz} {f : Nat → Value} {ty : TypeId} {pos : String} {af : Array Edge} {g : Option (Nat × Bool)} {xs : Array Operand} {tys : Array TypeId} {dst : Option Tmp} {vs : List Value} (hv : xs.toList.map (ev n f) = vs) (W : World) : (execOp (ev n f) ⟨dst, .call ⟨.value (.func 44), xs, tys⟩, ty, pos, af, g⟩).run Try.prog W = .ok (.enter 44 vs.toArray) W := r_call Try.func44 (by kernel_rfl) (by kernel_rfl) hv W
theorem ca45 {n : Sz} {f : Nat → Value} {ty : TypeId} {pos : String} {af : Array Edge} {g : Option (Nat × Bool)} {xs : Array Operand} {tys : Array TypeId} {dst : Option Tmp} {vs : List Value} (hv : xs.toList.map (ev n f) = vs) (W : World) : (execOp (ev n f) ⟨dst, .call ⟨.value (.func 45), xs, tys⟩, ty, pos, af, g⟩).run Try.prog W = .ok (.enter 45 vs.toArray) W := r_call Try.func45 (by kernel_rfl) (by kernel_rfl) hv W
theorem ca47 {n : Sz} {f : Nat → Value} {ty : TypeId} {pos : String} {af : Array Edge} {g : Option (Nat × Bool)} {xs : Array Operand} {tys : Array TypeId} {dst : Option Tmp} {vs : List Value} (hv : xs.toList.map (ev n f) = vs) (W : World) : (execOp (ev n f) ⟨dst, .call ⟨.value (.func 47), xs, tys⟩, ty, pos, af, g⟩).run Try.prog W = .ok (.enter 47 vs.toArray) W := r_call Try.func47 (by kernel_rfl) (by kernel_rfl) hv W
end Go.Proofs.Ytpbimgopiammaaa
end

section
namespace Go.Proofs.Ytpbimgopiammaaa
open Go.RowKit

end Go.Proofs.Ytpbimgopiammaaa
end

section
namespace Go.Proofs.Ytpbimgopiammaaa
open Go.RowKit
set_option maxRecDepth 100000
set_option maxHeartbeats 1000000
abbrev ptr (p : Nat) : Value := .pointer (some ⟨p, 0, none⟩)
/-- a fault -/
structure Flt where
 at_ : Int
 line : Int
 kind : Int
def Flt.cells (x : Flt) : List C1 := [C1.i .i64 x.at_, C1.i .i64 x.line, C1.i .i64 x.kind]
def fltN (l : List Flt) : List C1 := l.flatMap Flt.cells
/-- what a checker knows -/
structure Ck where
 lines : List (Int × Int)
 marked : List (Int × Bool)
 flush : Bool
 at_ : Nat
 faults : List Flt
def kS : KC Try.prog 3 Int := kI Try.prog 3 Try.underlying3
/-- .. in memory -/
def ckE (p b1 b2 : Nat) (A : Option Addr) (c : Nat) (s : Ck) : List Ent :=
 [blk p [.map (some b1), .map (some b2), .bool s.flush, .int .i64 s.at_, .slice A s.faults.length c] 90, mp kS (Value.int .i64) b1 s.lines, mp kS Value.bool b2 s.marked, ownN 3 (.slice A s.faults.length c) s.faults.length ((fltN s.faults).map C1.v) 69]
def Ck.fault (s : Ck) (line kind : Int) : Ck := { s with faults := s.faults ++ [⟨s.at_, line, kind⟩] }
theorem ckE_fault (p b1 b2 : Nat) (A : Option Addr) (c : Nat) (s : Ck) (line kind : Int) : ckE p b1 b2 A c (s.fault line kind) = [blk p [.map (some b1), .map (some b2), .bool s.flush, .int .i64 s.at_, .slice A (s.faults.length + 1) c] 90, mp kS (Value.int .i64) b1 s.lines, mp kS Value.bool b2 s.marked, ownN 3 (.slice A (s.faults.length + 1) c) (s.faults.length + 1) ((fltN s.faults ++ [C1.i .i64 s.at_, C1.i .i64 line, C1.i .i64 kind]).map C1.v) 69] := by
 unfold ckE Ck.fault
 simp [fltN, Flt.cells]
theorem nd_eq {α β : Type} : ∀ {l : List (α × β)}, (l.map Prod.fst).Nodup → ∀ {p q : α × β}, p ∈ l → q ∈ l → p.1 = q.1 → p = q
 | [], _, p, q, hp, _, _ => by simp at hp
 | x :: l, h, p, q, hp, hq, e => by
  simp only [List.map_cons, List.nodup_cons] at h
  rcases List.mem_cons.1 hp with rfl | hp
  ·rcases List.mem_cons.1 hq with rfl | hq
   ·rfl
   ·exact (h.1 (List.mem_map.2 ⟨q, by assumption, e.symm⟩)).elim
  ·rcases List.mem_cons.1 hq with rfl | hq
   ·exact (h.1 (List.mem_map.2 ⟨p, by assumption, e⟩)).elim
   ·exact nd_eq h.2 hp hq e
theorem mleft_filter_le {α β : Type} (q : (α × β) × Bool → Bool) : ∀ lb : List ((α × β) × Bool), (mleft (lb.filter q)).length ≤ (mleft lb).length := fun lb => by
 unfold mleft
 rw [List.length_map, List.length_map]
 exact (List.Sublist.filter _ List.filter_sublist).length_le
theorem mleft_set_len {α β : Type} {lb : List ((α × β) × Bool)} {j : Nat} {p : α × β} (h : lb[j]? = some (p, true)) : (mleft lb).length = (mleft (lb.set j (p, false))).length + 1 := by
 have := (mleft_set lb j p h).length_eq; simpa using this
theorem mset_fst {α β : Type} {lb : List ((α × β) × Bool)} {j : Nat} {p : α × β} (h : lb[j]? = some (p, true)) : (lb.set j (p, false)).map (·.1) = lb.map (·.1) := by
 rw [List.map_set]
 apply List.ext_getElem?
 intro i
 rw [List.getElem?_set]
 by_cases e : j = i
 ·subst e
  rw [if_pos rfl, List.getElem?_map, h]
  have := (List.getElem?_eq_some_iff.1 h).1
  rw [if_pos (by simpa using this)]; rfl
 ·rw [if_neg e]
theorem Heap.mi_nd {P : Program} {kt : TypeId} {α β : Type} {C : KC P kt α} {venc : β → Value} {b r : Nat} {lb : List ((α × β) × Bool)} {cur : Option (α × β)} {W w0 : World} {F : List Nat} {L : List Ent} (H : Heap w0 F L W) (j : Nat) (hj : L[j]? = some (mi C venc b r lb cur)) : ((lb.map (·.1)).map Prod.fst).Nodup := by
 obtain ⟨es, clock, since, seen, c0, hb, hr, hk, _⟩ := H.ok _ (List.mem_of_getElem? hj)
 exact hk.ok.nd
theorem oFault (p b1 b2 : Nat) (A : Option Addr) (c : Nat) (s : Ck) (line kind : Int) (w : World) (hE : Ents (ckE p b1 b2 A c s) w) (hf : s.faults.length ≤ 1000000) :
  Calls Try.prog 40 [ptr p, .int .i64 line, .int .i64 kind].toArray w fun e w' => e = .returned (.tuple #[]) ∧ ∃ A' c', Heap w (ids (ckE p b1 b2 A c s)) (ckE p b1 b2 A' c' (s.fault line kind)) w' := by
 have H := Heap.start hE
 unfold ckE at H
 refine k_in (N := 22) Try.func40 rfl rfl rfl ?_
 refine k_trF mixed ?_; have H' := H.drew; clear H; have H := H'; clear H'
 refine tqh 0 rfl rfl rfl (fun _ hS => r_mv (v := .pointer _) rfl) trivial ?_
 refine tqh 1 rfl rfl rfl (fun _ hS => r_mv (v := .pointer _) rfl) trivial ?_
 refine tqh 2 rfl rfl rfl (fun _ hS => r_nc rfl) trivial ?_
 refine tqh 3 rfl rfl rfl (fun _ hS => r_fa0 rfl fo90_4) trivial ?_
 refine tqh 5 rfl rfl rfl (fun _ hS => r_mv (v := .pointer _) rfl) trivial ?_
 refine tqh 6 rfl rfl rfl (fun _ hS => r_nc rfl) trivial ?_
 refine tqh 7 rfl rfl rfl (fun _ hS => r_fa0 rfl fo90_3) trivial ?_
 refine tqh 9 rfl rfl rfl (fun _ hS => r_mv (v := .int _ _) rfl) trivial ?_
 refine tqh 10 rfl rfl rfl (fun _ hS => r_mv (v := .int _ _) rfl) trivial ?_
 refine t_up2 4 8 (by kernel_rfl) ?_ ?_
 ·refine up_mk rfl ?_
  refine s_run rfl rfl (r_lo H 0 rfl rfl rfl ag58) ?_
  refine k_nil ?_
  refine t_on trivial ?_
  refine t_up1 8 (by kernel_rfl) ?_
  refine up_mk rfl ?_
  refine s_run rfl rfl (r_lo H 0 rfl rfl rfl ag3) ?_
  refine k_nil ?_
  refine t_on trivial ?_
  refine tqh 11 rfl rfl rfl (fun _ hS => r_bd (bd69_0_1_2 _ _ _) rfl) trivial ?_
  refine t_up1 12 (by kernel_rfl) ?_
  refine up_mk rfl ?_
  refine s_bsN (enc := C1.v) (size := 3) (zs := [C1.i .i64 s.at_, C1.i .i64 line, C1.i .i64 kind]) H rfl rfl rfl (by omega) (by kernel_rfl) Try.underlying58 inf69 ?_
  intro _ _ H'; clear H; have H := H'; clear H'
  refine k_nil ?_
  refine t_on trivial ?_
  refine t_up1 13 (by kernel_rfl) ?_
  refine up_mk rfl ?_
  refine s_apB (enc := C1.v) (size := 3) H 3 rfl rfl rfl rfl C1.one (by omega) (by omega) Try.underlying58 inf69 rfl ?_
  intro FA fc _ H'; simp only [List.set_cons_zero, List.set_cons_succ, List.take_succ_cons, List.take_zero, List.drop_succ_cons, List.drop_zero, List.cons_append, List.nil_append, List.append_nil, List.length_cons, List.length_nil, Nat.reduceAdd] at H'; clear H; have H := H'; clear H'
  refine k_nil ?_
  refine t_on trivial ?_
  refine tqh 14 rfl rfl rfl (fun _ hS => r_nc rfl) trivial ?_
  refine tqh 15 rfl rfl rfl (fun _ hS => r_fa0 rfl fo90_4) trivial ?_
  refine t_up1 16 (by kernel_rfl) ?_
  refine up_mk rfl ?_
  refine s_st (u := .slice _ _ _) H 0 rfl rfl rfl rfl rfl rfl sz58 ?_
  clear H; intro _ H; simp only [jA, jB, jC, jD, jE, jF, jG, jH, jI, jJ, jK, Nat.reduceAdd] at H
  refine k_nil ?_
  refine t_on trivial ?_
  refine t_done (by kernel_rfl) ?_
  refine fin0  rfl ?_
  exact ⟨rfl, FA, fc, by rw [ckE_fault]; exact H⟩
 ·refine up_mk rfl ?_
  refine s_run rfl rfl (r_lo H 0 rfl rfl rfl ag3) ?_
  refine k_nil ?_
  refine t_on trivial ?_
  refine tqh 11 rfl rfl rfl (fun _ hS => r_bd (bd69_0_1_2 _ _ _) rfl) trivial ?_
  refine t_up2 4 12 (by kernel_rfl) ?_ ?_
  ·refine up_mk rfl ?_
   refine s_run rfl rfl (r_lo H 0 rfl rfl rfl ag58) ?_
   refine k_nil ?_
   refine t_on trivial ?_
   refine t_up1 12 (by kernel_rfl) ?_
   refine up_mk rfl ?_
   refine s_bsN (enc := C1.v) (size := 3) (zs := [C1.i .i64 s.at_, C1.i .i64 line, C1.i .i64 kind]) H rfl rfl rfl (by omega) (by kernel_rfl) Try.underlying58 inf69 ?_
   intro _ _ H'; clear H; have H := H'; clear H'
   refine k_nil ?_
   refine t_on trivial ?_
   refine t_up1 13 (by kernel_rfl) ?_
   refine up_mk rfl ?_
   refine s_apB (enc := C1.v) (size := 3) H 3 rfl rfl rfl rfl C1.one (by omega) (by omega) Try.underlying58 inf69 rfl ?_
   intro FA fc _ H'; simp only [List.set_cons_zero, List.set_cons_succ, List.take_succ_cons, List.take_zero, List.drop_succ_cons, List.drop_zero, List.cons_append, List.nil_append, List.append_nil, List.length_cons, List.length_nil, Nat.reduceAdd] at H'; clear H; have H := H'; clear H'
   refine k_nil ?_
   refine t_on trivial ?_
   refine tqh 14 rfl rfl rfl (fun _ hS => r_nc rfl) trivial ?_
   refine tqh 15 rfl rfl rfl (fun _ hS => r_fa0 rfl fo90_4) trivial ?_
   refine t_up1 16 (by kernel_rfl) ?_
   refine up_mk rfl ?_
   refine s_st (u := .slice _ _ _) H 0 rfl rfl rfl rfl rfl rfl sz58 ?_
   clear H; intro _ H; simp only [jA, jB, jC, jD, jE, jF, jG, jH, jI, jJ, jK, Nat.reduceAdd] at H
   refine k_nil ?_
   refine t_on trivial ?_
   refine t_done (by kernel_rfl) ?_
   refine fin0  rfl ?_
   exact ⟨rfl, FA, fc, by rw [ckE_fault]; exact H⟩
  ·refine up_mk rfl ?_
   refine s_bsN (enc := C1.v) (size := 3) (zs := [C1.i .i64 s.at_, C1.i .i64 line, C1.i .i64 kind]) H rfl rfl rfl (by omega) (by kernel_rfl) Try.underlying58 inf69 ?_
   intro _ _ H'; clear H; have H := H'; clear H'
   refine k_nil ?_
   refine t_on trivial ?_
   refine t_up1 4 (by kernel_rfl) ?_
   refine up_mk rfl ?_
   refine s_run rfl rfl (r_lo H 1 rfl rfl rfl ag58) ?_
   refine k_nil ?_
   refine t_on trivial ?_
   refine t_up1 13 (by kernel_rfl) ?_
   refine up_mk rfl ?_
   refine s_apB (enc := C1.v) (size := 3) H 3 rfl rfl rfl rfl C1.one (by omega) (by omega) Try.underlying58 inf69 rfl ?_
   intro FA fc _ H'; simp only [List.set_cons_zero, List.set_cons_succ, List.take_succ_cons, List.take_zero, List.drop_succ_cons, List.drop_zero, List.cons_append, List.nil_append, List.append_nil, List.length_cons, List.length_nil, Nat.reduceAdd] at H'; clear H; have H := H'; clear H'
   refine k_nil ?_
   refine t_on trivial ?_
   refine tqh 14 rfl rfl rfl (fun _ hS => r_nc rfl) trivial ?_
   refine tqh 15 rfl rfl rfl (fun _ hS => r_fa0 rfl fo90_4) trivial ?_
   refine t_up1 16 (by kernel_rfl) ?_
   refine up_mk rfl ?_
   refine s_st (u := .slice _ _ _) H 0 rfl rfl rfl rfl rfl rfl sz58 ?_
   clear H; intro _ H; simp only [jA, jB, jC, jD, jE, jF, jG, jH, jI, jJ, jK, Nat.reduceAdd] at H
   refine k_nil ?_
   refine t_on trivial ?_
   refine t_done (by kernel_rfl) ?_
   refine fin0  rfl ?_
   exact ⟨rfl, FA, fc, by rw [ckE_fault]; exact H⟩
def keepQ (p : Int × Int) : Bool := decide (p.2 ≠ 2)
def Ck.fence (s : Ck) : Ck := { (if s.flush then s else s.fault 0 4) with flush := false, lines := s.lines.filter keepQ }
theorem del_keep {l : List (Int × Int)} (hd : (l.map Prod.fst).Nodup) {q : Int × Int} (hq : q ∈ l) (h2 : keepQ q = false) : (l.filter (fun y => decide (y.1 ≠ q.1))).filter keepQ = l.filter keepQ := by
 rw [List.filter_filter]
 apply List.filter_congr
 intro y hy
 by_cases e : y.1 = q.1
 ·rw [nd_eq hd hy hq e, h2]; rfl
 ·rw [decide_eq_true e, Bool.and_true]
theorem bdel_fst {β : Type} (lb : List ((Int × β) × Bool)) (a : Int) : (lb.filter (fun x => decide (x.1.1 ≠ a))).map (·.1) = (lb.map (·.1)).filter (fun y => decide (y.1 ≠ a)) := by
 rw [List.filter_map]; rfl
theorem iter_start {α β : Type} (l : List (α × β)) : (l.map fun p => (p, true)).map (fun x : (α × β) × Bool => x.1) = l := by rw [List.map_map]; exact List.map_id' l
theorem oFence (p b1 b2 : Nat) (A : Option Addr) (c : Nat) (s : Ck) (w : World) (hE : Ents (ckE p b1 b2 A c s) w) (hf : s.faults.length ≤ 1000000) :
  Calls Try.prog 41 [ptr p].toArray w fun e w' => e = .returned (.tuple #[]) ∧ ∃ A' c', Heap w (ids (ckE p b1 b2 A c s)) (ckE p b1 b2 A' c' s.fence) w' := by
 have hFl := fun {W : World} hE => oFault p b1 b2 A c s 0 4 W hE hf
 have H := Heap.start hE
 obtain ⟨ls, ms, fl, at0, fs⟩ := s
 simp only at hf
 cases fl with
 | true =>
  unfold ckE at H
  refine k_in (N := 31) Try.func41 rfl rfl rfl ?_
  refine k_seq ?_
  refine k_sg ?_
  refine s_run rfl rfl (rmp rfl) ?_
  refine s_run rfl rfl (r_nc rfl) ?_
  refine s_run rfl rfl (r_fa0 rfl fo90_2) ?_
  refine s_run rfl rfl (r_lo H 0 rfl rfl rfl ag4) ?_
  refine s_run rfl rfl (r_notT rfl) ?_
  refine k_nc ?_
  refine k_f rfl ?_
  refine k_skip ?_
  refine c_norm ?_
  refine k_sg ?_
  refine s_run rfl rfl (rmp rfl) ?_
  refine s_run rfl rfl (r_nc rfl) ?_
  refine s_run rfl rfl (r_fa0 rfl fo90_2) ?_
  refine s_st (u := .bool _) H 0 rfl rfl rfl rfl rfl rfl sz4 ?_
  clear H; intro _ H; simp only [jA, jB, jC, jD, jE, jF, jG, jH, jI, jJ, jK, Nat.reduceAdd] at H
  refine k_nc ?_
  refine k_sg ?_
  refine s_run rfl rfl (rmp rfl) ?_
  refine s_run rfl rfl (r_nc rfl) ?_
  refine s_run rfl rfl (r_fa0 rfl fo90_0) ?_
  refine s_run rfl rfl (r_lo H 0 rfl rfl rfl ag87) ?_
  refine s_rm H 1 rfl rfl rfl Try.underlying87 ?_
  intro r _ H'; simp only [List.set_cons_zero, List.set_cons_succ, List.take_succ_cons, List.take_zero, List.drop_succ_cons, List.drop_zero, List.cons_append, List.nil_append, List.append_nil, List.length_cons, List.length_nil, Nat.reduceAdd] at H'; clear H; have H := H'; clear H'
  refine k_nc ?_
  refine k_b ?_
  refine k_loop (fun z f W => ∃ lb cur, z = (mleft lb).length ∧ (lb.map (·.1)).filter keepQ = ls.filter keepQ ∧ (∀ x ∈ lb, x.2 = false → keepQ x.1 = true) ∧ f 0 = ptr p ∧ f 18 = ptr r ∧ Heap w (ids (ckE p b1 b2 A c ⟨ls, ms, true, at0, fs⟩)) [blk p [.map (some b1), .map (some b2), .bool false, .int .i64 at0, .slice A fs.length c] 90, mi kS (Value.int .i64) b1 r lb cur, mp kS Value.bool b2 ms, ownN 3 (.slice A fs.length c) fs.length ((fltN fs).map C1.v) 69] W) _ ⟨ls.map fun p => (p, true), none, rfl, by rw [iter_start], (fun x hx h => by obtain ⟨y, _, rfl⟩ := List.mem_map.1 hx; cases h), rfl, rfl, H⟩ ?_
  clear H
  rintro z f W ⟨lb, cur, rfl, hlb, hdone, f0, f18, H⟩
  obtain ⟨f, rfl⟩ := live2 f0 f18
  clear f0 f18
  by_cases hl : mleft lb = []
  ·refine k_sg ?_
   refine s_nx0 H 1 (hl) rfl rfl rfl ?_
   refine s_run rfl rfl (r_ext (v := .bool _) rfl rfl) ?_
   refine k_nc ?_
   refine k_seq ?_
   refine k_f rfl ?_
   refine k_exit ?_
   refine c_exit ?_
   refine c_exit ?_
   refine b_hit ?_
   refine fin0  rfl ?_
   have H2 := H.mi_done 1 rfl
   have e : lb.map (·.1) = ls.filter keepQ := by
    rw [← hlb]
    exact (List.filter_eq_self.2 fun x hx => by
     obtain ⟨y, hy, rfl⟩ := List.mem_map.1 hx
     exact hdone y hy ((mleft_nil lb).1 hl y hy)).symm
   rw [e] at H2
   exact ⟨rfl, A, c, H2⟩
  ·refine k_sg ?_
   refine s_nx1 H 1 (hl) rfl rfl rfl ?_
   intro j q _ hq gq H'; simp only [List.set_cons_zero, List.set_cons_succ, List.take_succ_cons, List.take_zero, List.drop_succ_cons, List.drop_zero, List.cons_append, List.nil_append, List.append_nil, List.length_cons, List.length_nil, Nat.reduceAdd] at H'; clear H; have H := H'; clear H'
   refine s_run rfl rfl (r_ext (v := .bool _) rfl rfl) ?_
   refine k_nc ?_
   refine k_seq ?_
   refine k_t rfl ?_
   refine k_skip ?_
   refine c_norm ?_
   refine k_b ?_
   refine k_sg ?_
   refine s_run rfl rfl (r_en H 1 rfl rfl) ?_
   refine s_run rfl rfl (r_ext (v := .int _ _) rfl rfl) ?_
   refine s_run rfl rfl (r_ext (v := .int _ _) rfl rfl) ?_
   refine s_run rfl rfl (rai rfl) ?_
   refine s_run rfl rfl (rai rfl) ?_
   refine k_nc ?_
   refine k_seq ?_
   have hnd := H.mi_nd 1 rfl
   have hfs := mset_fst hq
   have hml := mleft_set_len hq
   obtain ⟨q1, q2⟩ := q
   by_cases h2 : q2 = 2
   ·subst h2
    refine k_rg ?_
    refine s_run rfl rfl (rmi rfl) ?_
    refine s_run rfl rfl (r_eqlT rfl rfl (by omega)) ?_
    refine k_nc ?_
    refine k_t rfl ?_
    refine k_rg ?_
    refine s_run rfl rfl (rmp rfl) ?_
    refine s_run rfl rfl (r_nc rfl) ?_
    refine s_run rfl rfl (r_fa0 rfl fo90_0) ?_
    refine s_run rfl rfl (r_lo H 0 rfl rfl rfl ag87) ?_
    refine s_run rfl rfl (rmi rfl) ?_
    refine s_di H 1 rfl rfl rfl rfl (gq) Try.underlying87 ?_
    clear H; intro _ H; simp only [jA, jB, jC, jD, jE, jF, jG, jH, jI, jJ, jK, Nat.reduceAdd] at H
    refine k_nil ?_
    refine b_norm ?_
    refine c_round ?_
    have hml2 := mleft_filter_le (fun x : (Int × Int) × Bool => decide (x.1.1 ≠ q1)) (lb.set j ((q1, 2), false))
    have hqm : (q1, (2 : Int)) ∈ lb.map (·.1) := List.mem_map.2 ⟨_, List.mem_of_getElem? hq, rfl⟩
    refine ⟨_, _, ?_, rfl, _, none, rfl, ?_, fun x hx hx2 => ?_, rfl, rfl, H⟩
    ·omega
    ·rw [bdel_fst, hfs, ← hlb]
     rw [hfs] at hnd
     exact del_keep hnd hqm rfl
    ·obtain ⟨hx, hne⟩ := List.mem_filter.1 hx
     rcases List.mem_or_eq_of_mem_set hx with hx | rfl
     ·exact hdone x hx hx2
     ·simp at hne
   ·refine k_rg ?_
    refine s_run rfl rfl (rmi rfl) ?_
    refine s_run rfl rfl (r_eqlF rfl rfl (by omega)) ?_
    refine k_nc ?_
    refine k_f rfl ?_
    refine k_skip ?_
    refine b_norm ?_
    refine c_round ?_
    refine ⟨_, _, ?_, rfl, _, _, rfl, by rw [hfs]; exact hlb, fun x hx hx2 => ?_, rfl, rfl, H⟩
    ·omega
    ·rcases List.mem_or_eq_of_mem_set hx with hx | rfl
     ·exact hdone x hx hx2
     ·exact decide_eq_true h2
 | false =>
  unfold ckE at H
  refine k_in (N := 31) Try.func41 rfl rfl rfl ?_
  refine k_seq ?_
  refine k_sg ?_
  refine s_run rfl rfl (rmp rfl) ?_
  refine s_run rfl rfl (r_nc rfl) ?_
  refine s_run rfl rfl (r_fa0 rfl fo90_2) ?_
  refine s_run rfl rfl (r_lo H 0 rfl rfl rfl ag4) ?_
  refine s_run rfl rfl (r_notF rfl) ?_
  refine k_nc ?_
  refine k_t rfl ?_
  refine k_rg ?_
  refine s_run rfl rfl (rmp rfl) ?_
  refine s_call rfl (hFl H.ents) (ca40 rfl) ?_
  rintro e W1 ⟨rfl, FA, fc, H'⟩
  refine ⟨_, rfl, ?_⟩
  have H := H.whole H'; clear H'; have H : Heap w (ids (ckE p b1 b2 A c ⟨ls, ms, false, at0, fs⟩)) (ckE p b1 b2 FA fc ⟨ls, ms, false, at0, fs ++ [⟨at0, 0, 4⟩]⟩) _ := H; generalize hfs2 : fs ++ [Flt.mk at0 0 4] = fs2 at H; unfold ckE at H
  refine k_nc ?_
  refine k_sg ?_
  refine s_run rfl rfl (rmp rfl) ?_
  refine s_run rfl rfl (r_nc rfl) ?_
  refine s_run rfl rfl (r_fa0 rfl fo90_2) ?_
  refine s_st (u := .bool _) H 0 rfl rfl rfl rfl rfl rfl sz4 ?_
  clear H; intro _ H; simp only [jA, jB, jC, jD, jE, jF, jG, jH, jI, jJ, jK, Nat.reduceAdd] at H
  refine k_nc ?_
  refine k_sg ?_
  refine s_run rfl rfl (rmp rfl) ?_
  refine s_run rfl rfl (r_nc rfl) ?_
  refine s_run rfl rfl (r_fa0 rfl fo90_0) ?_
  refine s_run rfl rfl (r_lo H 0 rfl rfl rfl ag87) ?_
  refine s_rm H 1 rfl rfl rfl Try.underlying87 ?_
  intro r _ H'; simp only [List.set_cons_zero, List.set_cons_succ, List.take_succ_cons, List.take_zero, List.drop_succ_cons, List.drop_zero, List.cons_append, List.nil_append, List.append_nil, List.length_cons, List.length_nil, Nat.reduceAdd] at H'; clear H; have H := H'; clear H'
  refine k_nc ?_
  refine k_b ?_
  refine k_loop (fun z f W => ∃ lb cur, z = (mleft lb).length ∧ (lb.map (·.1)).filter keepQ = ls.filter keepQ ∧ (∀ x ∈ lb, x.2 = false → keepQ x.1 = true) ∧ f 0 = ptr p ∧ f 18 = ptr r ∧ Heap w (ids (ckE p b1 b2 A c ⟨ls, ms, false, at0, fs⟩)) [blk p [.map (some b1), .map (some b2), .bool false, .int .i64 at0, .slice FA fs2.length fc] 90, mi kS (Value.int .i64) b1 r lb cur, mp kS Value.bool b2 ms, ownN 3 (.slice FA fs2.length fc) fs2.length ((fltN fs2).map C1.v) 69] W) _ ⟨ls.map fun p => (p, true), none, rfl, by rw [iter_start], (fun x hx h => by obtain ⟨y, _, rfl⟩ := List.mem_map.1 hx; cases h), rfl, rfl, H⟩ ?_
  clear H
  rintro z f W ⟨lb, cur, rfl, hlb, hdone, f0, f18, H⟩
  obtain ⟨f, rfl⟩ := live2 f0 f18
  clear f0 f18
  by_cases hl : mleft lb = []
  ·refine k_sg ?_
   refine s_nx0 H 1 (hl) rfl rfl rfl ?_
   refine s_run rfl rfl (r_ext (v := .bool _) rfl rfl) ?_
   refine k_nc ?_
   refine k_seq ?_
   refine k_f rfl ?_
   refine k_exit ?_
   refine c_exit ?_
   refine c_exit ?_
   refine b_hit ?_
   refine fin0  rfl ?_
   have H2 := H.mi_done 1 rfl
   have e : lb.map (·.1) = ls.filter keepQ := by
    rw [← hlb]
    exact (List.filter_eq_self.2 fun x hx => by
     obtain ⟨y, hy, rfl⟩ := List.mem_map.1 hx
     exact hdone y hy ((mleft_nil lb).1 hl y hy)).symm
   rw [e] at H2
   subst hfs2
   exact ⟨rfl, FA, fc, H2⟩
  ·refine k_sg ?_
   refine s_nx1 H 1 (hl) rfl rfl rfl ?_
   intro j q _ hq gq H'; simp only [List.set_cons_zero, List.set_cons_succ, List.take_succ_cons, List.take_zero, List.drop_succ_cons, List.drop_zero, List.cons_append, List.nil_append, List.append_nil, List.length_cons, List.length_nil, Nat.reduceAdd] at H'; clear H; have H := H'; clear H'
   refine s_run rfl rfl (r_ext (v := .bool _) rfl rfl) ?_
   refine k_nc ?_
   refine k_seq ?_
   refine k_t rfl ?_
   refine k_skip ?_
   refine c_norm ?_
   refine k_b ?_
   refine k_sg ?_
   refine s_run rfl rfl (r_en H 1 rfl rfl) ?_
   refine s_run rfl rfl (r_ext (v := .int _ _) rfl rfl) ?_
   refine s_run rfl rfl (r_ext (v := .int _ _) rfl rfl) ?_
   refine s_run rfl rfl (rai rfl) ?_
   refine s_run rfl rfl (rai rfl) ?_
   refine k_nc ?_
   refine k_seq ?_
   have hnd := H.mi_nd 1 rfl
   have hfs := mset_fst hq
   have hml := mleft_set_len hq
   obtain ⟨q1, q2⟩ := q
   by_cases h2 : q2 = 2
   ·subst h2
    refine k_rg ?_
    refine s_run rfl rfl (rmi rfl) ?_
    refine s_run rfl rfl (r_eqlT rfl rfl (by omega)) ?_
    refine k_nc ?_
    refine k_t rfl ?_
    refine k_rg ?_
    refine s_run rfl rfl (rmp rfl) ?_
    refine s_run rfl rfl (r_nc rfl) ?_
    refine s_run rfl rfl (r_fa0 rfl fo90_0) ?_
    refine s_run rfl rfl (r_lo H 0 rfl rfl rfl ag87) ?_
    refine s_run rfl rfl (rmi rfl) ?_
    refine s_di H 1 rfl rfl rfl rfl (gq) Try.underlying87 ?_
    clear H; intro _ H; simp only [jA, jB, jC, jD, jE, jF, jG, jH, jI, jJ, jK, Nat.reduceAdd] at H
    refine k_nil ?_
    refine b_norm ?_
    refine c_round ?_
    have hml2 := mleft_filter_le (fun x : (Int × Int) × Bool => decide (x.1.1 ≠ q1)) (lb.set j ((q1, 2), false))
    have hqm : (q1, (2 : Int)) ∈ lb.map (·.1) := List.mem_map.2 ⟨_, List.mem_of_getElem? hq, rfl⟩
    refine ⟨_, _, ?_, rfl, _, none, rfl, ?_, fun x hx hx2 => ?_, rfl, rfl, H⟩
    ·omega
    ·rw [bdel_fst, hfs, ← hlb]
     rw [hfs] at hnd
     exact del_keep hnd hqm rfl
    ·obtain ⟨hx, hne⟩ := List.mem_filter.1 hx
     rcases List.mem_or_eq_of_mem_set hx with hx | rfl
     ·exact hdone x hx hx2
     ·simp at hne
   ·refine k_rg ?_
    refine s_run rfl rfl (rmi rfl) ?_
    refine s_run rfl rfl (r_eqlF rfl rfl (by omega)) ?_
    refine k_nc ?_
    refine k_f rfl ?_
    refine k_skip ?_
    refine b_norm ?_
    refine c_round ?_
    refine ⟨_, _, ?_, rfl, _, _, rfl, by rw [hfs]; exact hlb, fun x hx hx2 => ?_, rfl, rfl, H⟩
    ·omega
    ·rcases List.mem_or_eq_of_mem_set hx with hx | rfl
     ·exact hdone x hx hx2
     ·exact decide_eq_true h2
end Go.Proofs.Ytpbimgopiammaaa
end

section
namespace Go.Proofs.Ytpbimgopiammaaa
open Go.Sort Go.RowKit
set_option maxRecDepth 100000
def lays189_ren : Go.Shelf.Ren := ⟨fun | 189 => 43 | 125 => 56 | 257 => 55 | 128 => 66 | 129 => 67 | 294 => 57 | 295 => 58 | 296 => 59 | 297 => 60 | 298 => 61 | 299 => 62 | 216 => 63 | 300 => 64 | 301 => 65 | 328 => 68 | 329 => 69 | 330 => 70 | 331 => 71 | 332 => 72 | 215 => 73 | 343 => 74 | n => n, fun | 28 => 22 | 3 => 3 | 46 => 104 | 0 => 0 | 51 => 114 | 53 => 116 | 4 => 4 | 183 => 107 | 182 => 106 | 131 => 84 | 5 => 5 | 9 => 9 | 218 => 117 | 222 => 121 | 228 => 123 | 229 => 124 | n => n, fun | n => n⟩
theorem lays189 : Go.Proofs.Lays.n189 Try.prog lays189_ren := {
  mixed := by kernel_rfl
  f125 := Try.func56.trans (congrArg some (by kernel_rfl))
  f128 := Try.func66.trans (congrArg some (by kernel_rfl))
  f129 := Try.func67.trans (congrArg some (by kernel_rfl))
  f189 := Try.func43.trans (congrArg some (by kernel_rfl))
  f215 := Try.func73.trans (congrArg some (by kernel_rfl))
  f216 := Try.func63.trans (congrArg some (by kernel_rfl))
  f257 := Try.func55.trans (congrArg some (by kernel_rfl))
  f294 := Try.func57.trans (congrArg some (by kernel_rfl))
  f295 := Try.func58.trans (congrArg some (by kernel_rfl))
  f296 := Try.func59.trans (congrArg some (by kernel_rfl))
  f297 := Try.func60.trans (congrArg some (by kernel_rfl))
  f298 := Try.func61.trans (congrArg some (by kernel_rfl))
  f299 := Try.func62.trans (congrArg some (by kernel_rfl))
  f300 := Try.func64.trans (congrArg some (by kernel_rfl))
  f301 := Try.func65.trans (congrArg some (by kernel_rfl))
  f328 := Try.func68.trans (congrArg some (by kernel_rfl))
  f329 := Try.func69.trans (congrArg some (by kernel_rfl))
  f330 := Try.func70.trans (congrArg some (by kernel_rfl))
  f331 := Try.func71.trans (congrArg some (by kernel_rfl))
  f332 := Try.func72.trans (congrArg some (by kernel_rfl))
  f343 := Try.func74.trans (congrArg some (by kernel_rfl))
  t0 := Try.underlying0
  a0 := Try.isAgg0
  z0 := Try.sizeOf0
  v0 := Try.zeroValue0
  t3 := Try.underlying3
  a3 := Try.isAgg3
  z3 := Try.sizeOf3
  v3 := Try.zeroValue3
  t4 := Try.underlying4
  a4 := Try.isAgg4
  z4 := Try.sizeOf4
  v4 := Try.zeroValue4
  t5 := Try.underlying5
  a5 := Try.isAgg5
  z5 := Try.sizeOf5
  v5 := Try.zeroValue5
  t9 := Try.underlying9
  a9 := Try.isAgg9
  z9 := Try.sizeOf9
  v9 := Try.zeroValue9
  t28 := Try.underlying22
  a28 := Try.isAgg22
  z28 := Try.sizeOf22
  v28 := Try.zeroValue22
  t46 := Try.underlying104
  a46 := Try.isAgg104
  z46 := Try.sizeOf104
  v46 := Try.zeroValue104
  t51 := Try.underlying114
  a51 := Try.isAgg114
  z51 := Try.sizeOf114
  v51 := Try.zeroValue114
  t53 := Try.underlying116
  a53 := Try.isAgg116
  z53 := Try.sizeOf116
  v53 := Try.zeroValue116
  t131 := Try.underlying84
  a131 := Try.isAgg84
  z131 := Try.sizeOf84
  v131 := Try.zeroValue84
  t182 := Try.underlying106
  a182 := Try.isAgg106
  z182 := Try.sizeOf106
  v182 := Try.zeroValue106
  t183 := Try.underlying107
  a183 := Try.isAgg107
  z183 := Try.sizeOf107
  v183 := Try.zeroValue107
  t218 := Try.underlying117
  a218 := Try.isAgg117
  z218 := Try.sizeOf117
  v218 := Try.zeroValue117
  t222 := Try.underlying121
  a222 := Try.isAgg121
  z222 := Try.sizeOf121
  v222 := Try.zeroValue121
  t228 := Try.underlying123
  a228 := Try.isAgg123
  z228 := Try.sizeOf123
  v228 := Try.zeroValue123
  t229 := Try.underlying124
  a229 := Try.isAgg124
  z229 := Try.sizeOf124
  v229 := Try.zeroValue124 }
theorem gSort0 (blk off cap : Nat) (zs : List Int) (w : World) (hH : Holds (Value.int .i64) w blk off zs.toArray) (hblk : blk < w.heap.size) (hsz : zs.length < 4611686018427387904) :
  Calls Try.prog 43 #[.slice (some ⟨blk, off, none⟩) zs.length cap] w fun e w' =>
   e = .returned (.tuple #[]) ∧ ∃ n os, w' = grow (putRow (Value.int .i64) (Sort.ahead w n) blk off (zs.mergeSort fun x y => decide (x ≤ y)).toArray) os := Any.slices_Sort_int lays189 blk off cap zs w hH hblk hsz
def srt (l : List Int) : List Int := l.mergeSort fun x y => decide (x ≤ y)
theorem srt_perm (l : List Int) : (srt l).Perm l := List.mergeSort_perm _ _
theorem srt_len (l : List Int) : (srt l).length = l.length := (srt_perm l).length_eq
/-- a row of the call's own is sorted -/
theorem gSort (A : Option Addr) (n c : Nat) (zs : List Int) (T : TypeId) (w : World) (hE : Ents [ownN 1 (.slice A n c) n (zs.map (Value.int .i64)) T] w) (hn : n ≤ 1000000) :
  Calls Try.prog 43 [.slice A n c].toArray w fun e w' => e = .returned (.tuple #[]) ∧ Heap w (ids [ownN 1 (.slice A n c) n (zs.map (Value.int .i64)) T]) [ownN 1 (.slice A n c) n ((srt zs).map (Value.int .i64)) T] w' := by
 have H := Heap.start hE
 have ho := H.own_get 0 rfl
 have hl : zs.length = n := by have := ho.1; simpa using this
 rcases ho.2 with ⟨hv, h0⟩ | ⟨g, cap, cur, hv, _, hg, hnc, hcm, hcs, htk⟩
 ·injection hv with h1 h2 h3
  subst h1; subst h2; subst h3
  have hz : zs = [] := List.eq_nil_of_length_eq_zero hl
  subst hz
  refine (Any.slices_Sort_int_none lays189 none 0 w).mono ?_
  rintro e w' ⟨rfl, rfl⟩
  have e0 : srt [] = [] := by simp [srt]
  rw [e0]
  exact ⟨rfl, H⟩
 ·injection hv with h1 h2 h3
  subst h1; subst h3
  subst hl
  have htk' : cur.toList.take zs.length = zs.map (Value.int .i64) := by rw [Nat.mul_one] at htk; exact htk
  refine (gSort0 g 0 c zs w (holds_of_blockI hg htk') (arr_lt hg) (by omega)).mono ?_
  rintro e w' ⟨rfl, m, os, rfl⟩
  have hs := ownsRow_sortedI (w := w) (base := 0) (n := m) (e := T) (os := os) (ss := zs) (ts := srt zs) (srt_len zs) (Nat.zero_le _) hg hnc hcm hcs
  have hgr : w.grownBy (grow (putRow (Value.int .i64) (Sort.ahead w m) g 0 (srt zs).toArray) os) (some g) := grownBy_sortedI _
  refine ⟨rfl, H.at 0 rfl (F' := [g]) ⟨?_, by simp [ids, ownN, Value.ownBlock], by simp [ids, ownN, Value.ownBlock], ⟨hgr.os, hgr.tape, hgr.output, hgr.size, fun k hk hne => hgr.block k hk (fun e => hne (by injection e with e; rw [e]; simp))⟩⟩ (by simp [ownN, Value.ownBlock])⟩
  intro E hE
  rw [List.mem_singleton.1 hE]
  exact hs
end Go.Proofs.Ytpbimgopiammaaa
end

section
namespace Go.Proofs.Ytpbimgopiammaaa
open Go.RowKit
set_option maxRecDepth 100000
set_option maxHeartbeats 2000000
def Ck.cm1 (s : Ck) (line : Int) : Ck := if mget s.lines line = some 1 then s.fault line 1 else if mget s.lines line = some 2 then s.fault line 2 else s
def Ck.commit (s : Ck) : Ck := { (srt (s.marked.map Prod.fst)).foldl Ck.cm1 s with marked := [] }
theorem cm1_same (s : Ck) (x : Int) : (s.cm1 x).lines = s.lines ∧ (s.cm1 x).marked = s.marked ∧ (s.cm1 x).flush = s.flush ∧ (s.cm1 x).at_ = s.at_ ∧ (s.cm1 x).faults.length ≤ s.faults.length + 1 := by
 unfold Ck.cm1 Ck.fault
 split
 ·exact ⟨rfl, rfl, rfl, rfl, by simp⟩
 ·split
  ·exact ⟨rfl, rfl, rfl, rfl, by simp⟩
  ·exact ⟨rfl, rfl, rfl, rfl, by omega⟩
theorem snoc_foldl {α β : Type} (f : β → α → β) (b : β) (xs : List α) (i : Nat) (x : α) (h : xs[i]? = some x) : (xs.take (i + 1)).foldl f b = f ((xs.take i).foldl f b) x := by
 rw [List.take_add_one, h, List.foldl_append]; rfl
theorem sorted_eq : ∀ {a b : List Int}, a.Perm b → a.Pairwise (· ≤ ·) → b.Pairwise (· ≤ ·) → a = b
 | [], b, h, _, _ => (List.nil_perm.1 h).symm
 | x :: a, [], h, _, _ => by have := h.length_eq; simp at this
 | x :: a, y :: b, h, ha, hb => by
  obtain ⟨a1, a2⟩ := List.pairwise_cons.1 ha
  obtain ⟨b1, b2⟩ := List.pairwise_cons.1 hb
  have e : x = y := by
   have h1 : x ∈ y :: b := h.mem_iff.1 (by simp)
   have h2 : y ∈ x :: a := h.mem_iff.2 (by simp)
   rcases List.mem_cons.1 h1 with h1 | h1
   ·exact h1
   ·rcases List.mem_cons.1 h2 with h2 | h2
    ·exact h2.symm
    ·have := a1 y h2; have := b1 x h1; omega
  subst e
  rw [sorted_eq (List.Perm.cons_inv h) a2 b2]
theorem srt_sorted (l : List Int) : (srt l).Pairwise (· ≤ ·) := by
 have h := List.pairwise_mergeSort (le := fun x y : Int => decide (x ≤ y)) (fun a b c h1 h2 => by simp at *; omega) (fun a b => by simp; omega) l
 exact h.imp fun h => by simpa using h
theorem srt_eq {a b : List Int} (h : a.Perm b) : srt a = srt b := sorted_eq ((srt_perm a).trans (h.trans (srt_perm b).symm)) (srt_sorted a) (srt_sorted b)
theorem Heap.one1 {w0 W : World} {F : List Nat} {L : List Ent} {E : Ent} (H : Heap w0 F L W) (k : Nat) (hk : L[k]? = some E) : Ents [E] W := Heap.part (A := [E]) (H.pick k hk)
theorem oCommit (p b1 b2 : Nat) (A : Option Addr) (c : Nat) (s : Ck) (w : World) (hE : Ents (ckE p b1 b2 A c s) w) (hf : s.faults.length ≤ 500000) (hm : s.marked.length ≤ 100000) :
  Calls Try.prog 42 [ptr p].toArray w fun e w' => e = .returned (.tuple #[]) ∧ ∃ A' c', Heap w (ids (ckE p b1 b2 A c s)) (ckE p b1 b2 A' c' s.commit) w' := by
 have H := Heap.start hE
 unfold ckE at H
 refine k_in (N := 48) Try.func42 rfl rfl rfl ?_
 refine k_sg ?_
 refine s_run rfl rfl (ras rfl) ?_
 refine k_nc ?_
 refine k_seq ?_
 refine k_sg ?_
 refine s_run rfl rfl (rmp rfl) ?_
 refine s_run rfl rfl (r_nc rfl) ?_
 refine s_run rfl rfl (r_fa0 rfl fo90_1) ?_
 refine s_run rfl rfl (r_lo H 0 rfl rfl rfl ag88) ?_
 refine s_rm H 2 rfl rfl rfl Try.underlying88 ?_
 intro r _ H'; simp only [List.set_cons_zero, List.set_cons_succ, List.take_succ_cons, List.take_zero, List.drop_succ_cons, List.drop_zero, List.cons_append, List.nil_append, List.append_nil, List.length_cons, List.length_nil, Nat.reduceAdd] at H'; clear H; have H := H'; clear H'
 refine k_nc ?_
 refine k_b ?_
 replace H := H.own_nil 1 3
 replace H := H.order [1, 2, 3, 4, 0] rfl rfl
 refine k_loop (fun z f W => ∃ (lb : List ((Int × Bool) × Bool)) (cur : Option (Int × Bool)) (OA : Option Addr) (co : Nat) (out : List Int), z = (mleft lb).length ∧ lb.map (·.1) = s.marked ∧ (out ++ (mleft lb).map Prod.fst).Perm (s.marked.map Prod.fst) ∧ (∀ x ∈ out, kS.Gd x) ∧ f 0 = ptr p ∧ f 2 = .slice OA out.length co ∧ f 10 = ptr r ∧ Heap w (ids (ckE p b1 b2 A c s)) [blk p [.map (some b1), .map (some b2), .bool s.flush, .int .i64 s.at_, .slice A s.faults.length c] 90, mp kS (Value.int .i64) b1 s.lines, mi kS Value.bool b2 r lb cur, ownN 3 (.slice A s.faults.length c) s.faults.length ((fltN s.faults).map C1.v) 69, ownN 1 (.slice OA out.length co) out.length (out.map (Value.int .i64)) 3] W) _ ⟨s.marked.map fun p => (p, true), none, none, 0, [], rfl, iter_start _, by rw [mleft_all]; exact List.Perm.refl _, by simp, rfl, rfl, rfl, H⟩ ?_
 clear H
 rintro z f W ⟨lb, cur, OA, co, out, rfl, hlb, hpm, hgd, f0, f2, f10, H⟩
 have hol : out.length ≤ 100000 := by have := hpm.length_eq; simp at this; omega
 obtain ⟨f, rfl⟩ := live3 f0 f2 f10
 clear f0 f2 f10
 by_cases hl : mleft lb = []
 ·refine k_sg ?_
  refine s_nx0 H 2 (hl) rfl rfl rfl ?_
  refine s_run rfl rfl (r_ext (v := .bool _) rfl rfl) ?_
  refine k_nc ?_
  refine k_seq ?_
  refine k_f rfl ?_
  refine k_exit ?_
  refine c_exit ?_
  refine c_exit ?_
  refine b_hit ?_
  refine c_norm ?_
  refine k_seq ?_
  replace H := H.mi_done 2 rfl
  rw [hlb] at H
  rw [hl, List.map_nil, List.append_nil] at hpm
  have hsrt : srt out = srt (s.marked.map Prod.fst) := srt_eq hpm
  have hsl := srt_len out
  have hsg : ∀ x ∈ srt out, kS.Gd x := fun x hx => hgd x ((srt_perm out).mem_iff.1 hx)
  have hS := fun {W : World} hE => gSort OA out.length co out 3 W hE (by omega)
  refine k_rg ?_
  refine s_run rfl rfl (rms rfl) ?_
  refine s_call rfl (hS (H.one1 4 rfl)) (ca43 rfl) ?_
  rintro e W1 ⟨rfl, H'⟩
  refine ⟨_, rfl, ?_⟩
  have H := H.at 4 rfl H' (fun i hi => by simpa [ids] using hi); clear H'
  refine k_nc ?_
  refine k_seq ?_
  refine k_sg ?_
  refine s_run rfl rfl (rms rfl) ?_
  refine s_run rfl rfl (r_len rfl Try.underlying22) ?_
  refine s_run rfl rfl (rmi rfl) ?_
  refine k_nc ?_
  refine k_b ?_
  have hcm : s.commit = { (srt out).foldl Ck.cm1 s with marked := [] } := by unfold Ck.commit; rw [hsrt]
  rw [hcm]
  clear hcm hsrt hS hpm
  generalize srt out = so at *
  refine k_loop (fun z f W => ∃ (i : Nat) (A2 : Option Addr) (c2 : Nat) (u : Ck), i ≤ out.length ∧ z = out.length - i ∧ u = (so.take i).foldl Ck.cm1 s ∧ u.lines = s.lines ∧ u.faults.length ≤ s.faults.length + i ∧ f 0 = ptr p ∧ f 21 = .slice OA out.length co ∧ f 22 = .int .i64 out.length ∧ f 23 = .int .i64 i ∧ Heap w (ids (ckE p b1 b2 A c s)) (ckE p b1 b2 A2 c2 u ++ [ownN 1 (.slice OA out.length co) out.length (so.map (Value.int .i64)) 3]) W) out.length ⟨0, A, c, s, by omega, rfl, rfl, rfl, by omega, rfl, rfl, rfl, rfl, H⟩ ?_
  clear H
  rintro z f W ⟨i, A2, c2, u, hi, rfl, hu, hul, huf, f0, f21, f22, f23, H⟩
  unfold ckE at H
  simp only [List.cons_append, List.nil_append] at H
  by_cases hlt : i < out.length
  ·obtain ⟨y, hy⟩ : ∃ y, so[i]? = some y := ⟨_, List.getElem?_eq_getElem (by omega)⟩
   have gy := hsg y (List.mem_of_getElem? hy)
   have hst := snoc_foldl Ck.cm1 s _ _ _ hy
   rw [← hu] at hst
   obtain ⟨g1, g2, g3, g4, g5⟩ := cm1_same u y
   have hF1 := fun {W : World} hE => oFault p b1 b2 A2 c2 u y 1 W hE (by omega)
   have hF2 := fun {W : World} hE => oFault p b1 b2 A2 c2 u y 2 W hE (by omega)
   obtain ⟨pa, hpa⟩ := H.own_some 4 rfl (by omega)
   rw [hpa] at H f21
   obtain ⟨f, rfl⟩ := live4 f0 f21 f22 f23
   clear f0 f21 f22 f23
   cases hmg : mget s.lines y with
   | none =>
    have e : u.cm1 y = u := by unfold Ck.cm1; rw [hul, hmg]; rfl
    rw [e] at hst
    refine k_sg ?_
    refine s_run rfl rfl (r_lssT rfl rfl (by omega)) ?_
    refine k_nc ?_
    refine k_seq ?_
    refine k_t rfl ?_
    refine k_skip ?_
    refine c_norm ?_
    refine k_seq ?_
    refine k_b ?_
    refine k_sg ?_
    refine s_run rfl rfl (r_ix1 (i := i) rfl rfl (by omega) (by omega) Try.underlying22 sz3) ?_
    refine s_run rfl rfl (r_ow H 4 rfl rfl hy ag3) ?_
    refine s_run rfl rfl (rai rfl) ?_
    refine k_nc ?_
    refine k_sg ?_
    refine s_run rfl rfl (rmp rfl) ?_
    refine s_run rfl rfl (r_nc rfl) ?_
    refine s_run rfl rfl (r_fa0 rfl fo90_0) ?_
    refine s_run rfl rfl (r_lo H 0 rfl rfl rfl ag87) ?_
    refine s_run rfl rfl (rmi rfl) ?_
    refine s_run rfl rfl (r_lkN H 1 rfl rfl rfl (gy) ((by rw [hul]; exact hmg)) Try.underlying87 (zv_of inf92)) ?_
    refine k_nc ?_
    refine k_b ?_
    refine k_sg ?_
    refine s_run rfl rfl (r_eqlF rfl rfl (by omega)) ?_
    refine s_run rfl rfl (rab rfl) ?_
    refine k_nc ?_
    refine k_f rfl ?_
    refine k_sg ?_
    refine s_run rfl rfl (r_eqlF rfl rfl (by omega)) ?_
    refine s_run rfl rfl (rab rfl) ?_
    refine k_nc ?_
    refine k_f rfl ?_
    refine k_skip ?_
    refine b_norm ?_
    refine b_norm ?_
    refine c_norm ?_
    refine k_rg ?_
    refine s_run rfl rfl (r_add rfl rfl (wI (by omega))) ?_
    refine s_run rfl rfl (rmi rfl) ?_
    refine k_nil ?_
    refine c_round ?_
    refine ⟨_, _, ?_, rfl, i + 1, A2, c2, u, by omega, rfl, hst.symm, hul, by omega, rfl, by rw [hpa]; rfl, rfl, rfl, by rw [hpa]; exact H⟩
    omega
   | some v =>
    by_cases h1 : v = 1
    ·subst h1
     have e : u.cm1 y = u.fault y 1 := by unfold Ck.cm1; rw [hul, hmg, if_pos rfl]
     rw [e] at hst g1 g5
     refine k_sg ?_
     refine s_run rfl rfl (r_lssT rfl rfl (by omega)) ?_
     refine k_nc ?_
     refine k_seq ?_
     refine k_t rfl ?_
     refine k_skip ?_
     refine c_norm ?_
     refine k_seq ?_
     refine k_b ?_
     refine k_sg ?_
     refine s_run rfl rfl (r_ix1 (i := i) rfl rfl (by omega) (by omega) Try.underlying22 sz3) ?_
     refine s_run rfl rfl (r_ow H 4 rfl rfl hy ag3) ?_
     refine s_run rfl rfl (rai rfl) ?_
     refine k_nc ?_
     refine k_sg ?_
     refine s_run rfl rfl (rmp rfl) ?_
     refine s_run rfl rfl (r_nc rfl) ?_
     refine s_run rfl rfl (r_fa0 rfl fo90_0) ?_
     refine s_run rfl rfl (r_lo H 0 rfl rfl rfl ag87) ?_
     refine s_run rfl rfl (rmi rfl) ?_
     refine s_run rfl rfl (r_lkS H 1 rfl rfl rfl (gy) ((by rw [hul]; exact hmg)) Try.underlying87 (zv_of inf92) rfl) ?_
     refine k_nc ?_
     refine k_b ?_
     refine k_sg ?_
     refine s_run rfl rfl (r_eqlT rfl rfl (by omega)) ?_
     refine s_run rfl rfl (rab rfl) ?_
     refine k_nc ?_
     refine k_t rfl ?_
     refine k_rg ?_
     refine s_run rfl rfl (rmp rfl) ?_
     refine s_run rfl rfl (rmi rfl) ?_
     refine s_call rfl (hF1 (H.part (A := ckE p b1 b2 A2 c2 u))) (ca40 rfl) ?_
     rintro e W1 ⟨rfl, FA, fc, H'⟩
     refine ⟨_, rfl, ?_⟩
     have H := H.step (A := ckE p b1 b2 A2 c2 u) (L := [_]) H' (fun _ h => h); clear H'
     refine k_nil ?_
     refine b_norm ?_
     refine b_norm ?_
     refine c_norm ?_
     refine k_rg ?_
     refine s_run rfl rfl (r_add rfl rfl (wI (by omega))) ?_
     refine s_run rfl rfl (rmi rfl) ?_
     refine k_nil ?_
     refine c_round ?_
     refine ⟨_, _, ?_, rfl, i + 1, FA, fc, _, by omega, rfl, hst.symm, g1.trans hul, by omega, rfl, by rw [hpa]; rfl, rfl, rfl, by rw [hpa]; exact H⟩
     omega
    ·by_cases h2 : v = 2
     ·subst h2
      have e : u.cm1 y = u.fault y 2 := by unfold Ck.cm1; rw [hul, hmg, if_neg (by simp), if_pos rfl]
      rw [e] at hst g1 g5
      refine k_sg ?_
      refine s_run rfl rfl (r_lssT rfl rfl (by omega)) ?_
      refine k_nc ?_
      refine k_seq ?_
      refine k_t rfl ?_
      refine k_skip ?_
      refine c_norm ?_
      refine k_seq ?_
      refine k_b ?_
      refine k_sg ?_
      refine s_run rfl rfl (r_ix1 (i := i) rfl rfl (by omega) (by omega) Try.underlying22 sz3) ?_
      refine s_run rfl rfl (r_ow H 4 rfl rfl hy ag3) ?_
      refine s_run rfl rfl (rai rfl) ?_
      refine k_nc ?_
      refine k_sg ?_
      refine s_run rfl rfl (rmp rfl) ?_
      refine s_run rfl rfl (r_nc rfl) ?_
      refine s_run rfl rfl (r_fa0 rfl fo90_0) ?_
      refine s_run rfl rfl (r_lo H 0 rfl rfl rfl ag87) ?_
      refine s_run rfl rfl (rmi rfl) ?_
      refine s_run rfl rfl (r_lkS H 1 rfl rfl rfl (gy) ((by rw [hul]; exact hmg)) Try.underlying87 (zv_of inf92) rfl) ?_
      refine k_nc ?_
      refine k_b ?_
      refine k_sg ?_
      refine s_run rfl rfl (r_eqlF rfl rfl (by omega)) ?_
      refine s_run rfl rfl (rab rfl) ?_
      refine k_nc ?_
      refine k_f rfl ?_
      refine k_sg ?_
      refine s_run rfl rfl (r_eqlT rfl rfl (by omega)) ?_
      refine s_run rfl rfl (rab rfl) ?_
      refine k_nc ?_
      refine k_t rfl ?_
      refine k_rg ?_
      refine s_run rfl rfl (rmp rfl) ?_
      refine s_run rfl rfl (rmi rfl) ?_
      refine s_call rfl (hF2 (H.part (A := ckE p b1 b2 A2 c2 u))) (ca40 rfl) ?_
      rintro e W1 ⟨rfl, FA, fc, H'⟩
      refine ⟨_, rfl, ?_⟩
      have H := H.step (A := ckE p b1 b2 A2 c2 u) (L := [_]) H' (fun _ h => h); clear H'
      refine k_nil ?_
      refine b_norm ?_
      refine b_norm ?_
      refine c_norm ?_
      refine k_rg ?_
      refine s_run rfl rfl (r_add rfl rfl (wI (by omega))) ?_
      refine s_run rfl rfl (rmi rfl) ?_
      refine k_nil ?_
      refine c_round ?_
      refine ⟨_, _, ?_, rfl, i + 1, FA, fc, _, by omega, rfl, hst.symm, g1.trans hul, by omega, rfl, by rw [hpa]; rfl, rfl, rfl, by rw [hpa]; exact H⟩
      omega
     ·have e : u.cm1 y = u := by
       unfold Ck.cm1
       rw [hul, hmg, if_neg (fun h => h1 (by injection h)), if_neg (fun h => h2 (by injection h))]
      rw [e] at hst
      refine k_sg ?_
      refine s_run rfl rfl (r_lssT rfl rfl (by omega)) ?_
      refine k_nc ?_
      refine k_seq ?_
      refine k_t rfl ?_
      refine k_skip ?_
      refine c_norm ?_
      refine k_seq ?_
      refine k_b ?_
      refine k_sg ?_
      refine s_run rfl rfl (r_ix1 (i := i) rfl rfl (by omega) (by omega) Try.underlying22 sz3) ?_
      refine s_run rfl rfl (r_ow H 4 rfl rfl hy ag3) ?_
      refine s_run rfl rfl (rai rfl) ?_
      refine k_nc ?_
      refine k_sg ?_
      refine s_run rfl rfl (rmp rfl) ?_
      refine s_run rfl rfl (r_nc rfl) ?_
      refine s_run rfl rfl (r_fa0 rfl fo90_0) ?_
      refine s_run rfl rfl (r_lo H 0 rfl rfl rfl ag87) ?_
      refine s_run rfl rfl (rmi rfl) ?_
      refine s_run rfl rfl (r_lkS H 1 rfl rfl rfl (gy) ((by rw [hul]; exact hmg)) Try.underlying87 (zv_of inf92) rfl) ?_
      refine k_nc ?_
      refine k_b ?_
      refine k_sg ?_
      refine s_run rfl rfl (r_eqlF rfl rfl (by omega)) ?_
      refine s_run rfl rfl (rab rfl) ?_
      refine k_nc ?_
      refine k_f rfl ?_
      refine k_sg ?_
      refine s_run rfl rfl (r_eqlF rfl rfl (by omega)) ?_
      refine s_run rfl rfl (rab rfl) ?_
      refine k_nc ?_
      refine k_f rfl ?_
      refine k_skip ?_
      refine b_norm ?_
      refine b_norm ?_
      refine c_norm ?_
      refine k_rg ?_
      refine s_run rfl rfl (r_add rfl rfl (wI (by omega))) ?_
      refine s_run rfl rfl (rmi rfl) ?_
      refine k_nil ?_
      refine c_round ?_
      refine ⟨_, _, ?_, rfl, i + 1, A2, c2, u, by omega, rfl, hst.symm, hul, by omega, rfl, by rw [hpa]; rfl, rfl, rfl, by rw [hpa]; exact H⟩
      omega
  ·obtain rfl : i = out.length := by omega
   rw [← hsl, List.take_length] at hu
   rw [← hu]
   obtain ⟨f, rfl⟩ := live4 f0 f21 f22 f23
   clear f0 f21 f22 f23
   refine k_sg ?_
   refine s_run rfl rfl (r_lssF rfl rfl (by omega)) ?_
   refine k_nc ?_
   refine k_seq ?_
   refine k_f rfl ?_
   refine k_exit ?_
   refine c_exit ?_
   refine c_exit ?_
   refine b_hit ?_
   refine c_norm ?_
   refine k_rg ?_
   refine s_run rfl rfl (rmp rfl) ?_
   refine s_run rfl rfl (r_nc rfl) ?_
   refine s_run rfl rfl (r_fa0 rfl fo90_1) ?_
   refine s_run rfl rfl (r_lo H 0 rfl rfl rfl ag88) ?_
   refine s_cm H 2 rfl rfl rfl Try.underlying88 ?_
   clear H; intro _ H; simp only [jA, jB, jC, jD, jE, jF, jG, jH, jI, jJ, jK, Nat.reduceAdd] at H
   refine k_nil ?_
   refine fin0  rfl ?_
   exact ⟨rfl, A2, c2, (H : Heap w _ ([_, _, _, _] ++ [_]) _).drops⟩
 ·refine k_sg ?_
  refine s_nx1 H 2 (hl) rfl rfl rfl ?_
  intro j q _ hq gq H'; simp only [List.set_cons_zero, List.set_cons_succ, List.take_succ_cons, List.take_zero, List.drop_succ_cons, List.drop_zero, List.cons_append, List.nil_append, List.append_nil, List.length_cons, List.length_nil, Nat.reduceAdd] at H'; clear H; have H := H'; clear H'
  refine s_run rfl rfl (r_ext (v := .bool _) rfl rfl) ?_
  refine k_nc ?_
  refine k_seq ?_
  refine k_t rfl ?_
  refine k_skip ?_
  refine c_norm ?_
  refine k_b ?_
  refine k_sg ?_
  refine s_run rfl rfl (r_en H 2 rfl rfl) ?_
  refine s_run rfl rfl (r_ext (v := .int _ _) rfl rfl) ?_
  refine s_run rfl rfl (rai rfl) ?_
  refine k_nc ?_
  refine k_rg ?_
  refine s_run rfl rfl (rms rfl) ?_
  refine s_run rfl rfl (rmi rfl) ?_
  refine s_app1 (enc := (Value.int .i64)) H 4 rfl rfl rfl rfl rfl rfl rfl (by omega) Try.underlying22 inf3 rfl ?_
  intro _ An cn _ H'; simp only [List.set_cons_zero, List.set_cons_succ, List.take_succ_cons, List.take_zero, List.drop_succ_cons, List.drop_zero, List.cons_append, List.nil_append, List.append_nil, List.length_cons, List.length_nil, Nat.reduceAdd] at H'; clear H; have H := H'; clear H'
  refine s_run rfl rfl (ras rfl) ?_
  refine k_nil ?_
  refine b_norm ?_
  refine c_round ?_
  have hfs := mset_fst hq
  have hml := mleft_set_len hq
  refine ⟨_, _, ?_, rfl, lb.set j (q, false), some q, An, cn, out ++ [q.1], rfl, by rw [hfs]; exact hlb, ?_, fun x hx => ?_, rfl, by rw [List.length_append]; rfl, rfl, by rw [List.length_append]; exact H⟩
  ·omega
  ·have hp := (mleft_set lb j q hq).map Prod.fst
   rw [List.append_assoc]
   exact (List.Perm.append_left out hp.symm).trans hpm
  ·rcases List.mem_append.1 hx with hx | hx
   ·exact hgd x hx
   ·rw [List.mem_singleton.1 hx]; exact gq
end Go.Proofs.Ytpbimgopiammaaa
end

section
namespace Go.Proofs.Ytpbimgopiammaaa
open Go.RowKit
set_option maxRecDepth 100000
set_option maxHeartbeats 2000000
def Ck.bump (u : Ck) : Ck := { u with at_ := u.at_ + 1 }
def Ck.step (s : Ck) (k n : Int) : Ck :=
 if k < 1 ∨ 5 < k ∨ n < 0 then (s.fault n 5).bump
 else if k = 1 then Ck.bump { s with lines := mput s.lines n 1 }
 else if k = 2 then Ck.bump { (if mget s.lines n = some 1 then { s with lines := mput s.lines n 2 } else s.fault n 3) with flush := true }
 else if k = 3 then s.fence.bump
 else if k = 4 then Ck.bump { s with marked := mput s.marked n true }
 else s.commit.bump
theorem cms_at (s : Ck) : ∀ l : List Int, (l.foldl Ck.cm1 s).at_ = s.at_ := fun l => by
 induction l generalizing s with
 | nil => rfl
 | cons x l ih => rw [List.foldl_cons, ih, (cm1_same s x).2.2.2.1]
theorem oDo (p b1 b2 : Nat) (A : Option Addr) (c : Nat) (s : Ck) (k n : Int) (w : World) (hE : Ents (ckE p b1 b2 A c s) w) (hf : s.faults.length ≤ 400000) (hm : s.marked.length ≤ 100000) (ha : s.at_ ≤ 1000000) (hn : -9223372036854775808 ≤ n ∧ n ≤ 9223372036854775807) :
  Calls Try.prog 19 [ptr p, .agg [.int .i64 k, .int .i64 n].toArray].toArray w fun e w' => e = .returned (.tuple #[]) ∧ ∃ A' c', Heap w (ids (ckE p b1 b2 A c s)) (ckE p b1 b2 A' c' (s.step k n)) w' := by
 have H := Heap.start hE
 have gn : kS.Gd n := hn
 have hF5 := fun {W : World} hE => oFault p b1 b2 A c s n 5 W hE (by omega)
 have hF3 := fun {W : World} hE => oFault p b1 b2 A c s n 3 W hE (by omega)
 have hFe := fun {W : World} hE => oFence p b1 b2 A c s W hE (by omega)
 have hCo := fun {W : World} hE => oCommit p b1 b2 A c s W hE (by omega) hm
 unfold ckE at H
 refine k_in (N := 82) Try.func19 rfl rfl rfl ?_
 refine k_sg ?_
 refine s_box H rfl rfl ?_
 intro p3 _ H'; clear H; have H := H'; clear H'
 refine k_nc ?_
 refine k_seq ?_
 refine k_b ?_
 refine k_seq ?_
 replace H := (H.order [1, 2, 3, 4, 0] rfl rfl : Heap w _ [_, _, _, _, _] _)
 have hat5 : (s.fault n 5).at_ = s.at_ := rfl
 have hat3 : (s.fault n 3).at_ = s.at_ := rfl
 have hatf : s.fence.at_ = s.at_ := by unfold Ck.fence; cases s.flush <;> rfl
 have hatc : s.commit.at_ = s.at_ := cms_at s _
 by_cases h1 : k < 1
 ·
  have e : s.step k n = (s.fault n 5).bump := by unfold Ck.step; rw [if_pos (.inl h1)]
  rw [e]
  refine k_rg ?_
  refine s_run rfl rfl (r_fa0 rfl fo49_0) ?_
  refine s_run rfl rfl (r_lo H 4 rfl rfl rfl ag3) ?_
  refine s_run rfl rfl (r_lssT rfl rfl (by omega)) ?_
  refine s_run rfl rfl (rmb rfl) ?_
  refine s_off rfl (g_off 10 (by kernel_rfl) rfl rfl) ?_
  refine s_off rfl (g_off 10 (by kernel_rfl) rfl rfl) ?_
  refine s_off rfl (g_off 10 (by kernel_rfl) rfl rfl) ?_
  refine s_run rfl rfl (r_pkT (v := .bool _) rfl rfl) ?_
  refine s_run rfl rfl (rmb rfl) ?_
  refine s_off rfl (g_off 15 (by kernel_rfl) rfl rfl) ?_
  refine s_off rfl (g_off 15 (by kernel_rfl) rfl rfl) ?_
  refine s_off rfl (g_off 15 (by kernel_rfl) rfl rfl) ?_
  refine s_run rfl rfl (r_pkT (v := .bool _) rfl rfl) ?_
  refine s_run rfl rfl (rab rfl) ?_
  refine k_nc ?_
  refine k_t rfl ?_
  refine k_rg ?_
  refine s_run rfl rfl (rmp rfl) ?_
  refine s_run rfl rfl (r_fa0 rfl fo49_1) ?_
  refine s_run rfl rfl (r_lo H 4 rfl rfl rfl ag3) ?_
  refine s_call rfl (hF5 (H.part (A := ckE p b1 b2 A c s))) (ca40 rfl) ?_
  rintro e W1 ⟨rfl, FA, fc, H'⟩
  refine ⟨_, rfl, ?_⟩
  have H := H.step (A := ckE p b1 b2 A c s) (L := [_]) H' (fun _ h => h); clear H'; unfold ckE at H; simp only [List.cons_append, List.nil_append] at H
  refine k_nil ?_
  refine b_norm ?_
  refine c_norm ?_
  refine k_rg ?_
  refine s_run rfl rfl (rmp rfl) ?_
  refine s_run rfl rfl (r_nc rfl) ?_
  refine s_run rfl rfl (r_fa0 rfl fo90_3) ?_
  refine s_run rfl rfl (r_lo H 0 rfl rfl rfl ag3) ?_
  refine s_run rfl rfl (r_add rfl rfl (wI (by omega))) ?_
  refine s_run rfl rfl (r_nc rfl) ?_
  refine s_run rfl rfl (r_fa0 rfl fo90_3) ?_
  refine s_st (u := .int _ _) H 0 rfl rfl rfl rfl rfl rfl sz3 ?_
  clear H; intro _ H; simp only [jA, jB, jC, jD, jE, jF, jG, jH, jI, jJ, jK, Nat.reduceAdd] at H
  refine k_nil ?_
  refine fin0  rfl ?_
  exact ⟨rfl, FA, fc, (H : Heap w _ ([_, _, _, _] ++ [_]) _).drops⟩
 by_cases h5 : 5 < k
 ·
  have e : s.step k n = (s.fault n 5).bump := by unfold Ck.step; rw [if_pos (.inr (.inl h5))]
  rw [e]
  refine k_rg ?_
  refine s_run rfl rfl (r_fa0 rfl fo49_0) ?_
  refine s_run rfl rfl (r_lo H 4 rfl rfl rfl ag3) ?_
  refine s_run rfl rfl (r_lssF rfl rfl (by omega)) ?_
  refine s_run rfl rfl (rmb rfl) ?_
  refine s_run rfl (g_on 10 (by kernel_rfl) rfl) (r_fa0 rfl fo49_0) ?_
  refine s_run rfl (g_on 10 (by kernel_rfl) rfl) (r_lo H 4 rfl rfl rfl ag3) ?_
  refine s_run rfl (g_on 10 (by kernel_rfl) rfl) (r_gtrT rfl rfl (by omega)) ?_
  refine s_run rfl rfl (r_pkF (v := .bool _) rfl rfl) ?_
  refine s_run rfl rfl (rmb rfl) ?_
  refine s_off rfl (g_off 15 (by kernel_rfl) rfl rfl) ?_
  refine s_off rfl (g_off 15 (by kernel_rfl) rfl rfl) ?_
  refine s_off rfl (g_off 15 (by kernel_rfl) rfl rfl) ?_
  refine s_run rfl rfl (r_pkT (v := .bool _) rfl rfl) ?_
  refine s_run rfl rfl (rab rfl) ?_
  refine k_nc ?_
  refine k_t rfl ?_
  refine k_rg ?_
  refine s_run rfl rfl (rmp rfl) ?_
  refine s_run rfl rfl (r_fa0 rfl fo49_1) ?_
  refine s_run rfl rfl (r_lo H 4 rfl rfl rfl ag3) ?_
  refine s_call rfl (hF5 (H.part (A := ckE p b1 b2 A c s))) (ca40 rfl) ?_
  rintro e W1 ⟨rfl, FA, fc, H'⟩
  refine ⟨_, rfl, ?_⟩
  have H := H.step (A := ckE p b1 b2 A c s) (L := [_]) H' (fun _ h => h); clear H'; unfold ckE at H; simp only [List.cons_append, List.nil_append] at H
  refine k_nil ?_
  refine b_norm ?_
  refine c_norm ?_
  refine k_rg ?_
  refine s_run rfl rfl (rmp rfl) ?_
  refine s_run rfl rfl (r_nc rfl) ?_
  refine s_run rfl rfl (r_fa0 rfl fo90_3) ?_
  refine s_run rfl rfl (r_lo H 0 rfl rfl rfl ag3) ?_
  refine s_run rfl rfl (r_add rfl rfl (wI (by omega))) ?_
  refine s_run rfl rfl (r_nc rfl) ?_
  refine s_run rfl rfl (r_fa0 rfl fo90_3) ?_
  refine s_st (u := .int _ _) H 0 rfl rfl rfl rfl rfl rfl sz3 ?_
  clear H; intro _ H; simp only [jA, jB, jC, jD, jE, jF, jG, jH, jI, jJ, jK, Nat.reduceAdd] at H
  refine k_nil ?_
  refine fin0  rfl ?_
  exact ⟨rfl, FA, fc, (H : Heap w _ ([_, _, _, _] ++ [_]) _).drops⟩
 by_cases h0 : n < 0
 ·
  have e : s.step k n = (s.fault n 5).bump := by unfold Ck.step; rw [if_pos (.inr (.inr h0))]
  rw [e]
  refine k_rg ?_
  refine s_run rfl rfl (r_fa0 rfl fo49_0) ?_
  refine s_run rfl rfl (r_lo H 4 rfl rfl rfl ag3) ?_
  refine s_run rfl rfl (r_lssF rfl rfl (by omega)) ?_
  refine s_run rfl rfl (rmb rfl) ?_
  refine s_run rfl (g_on 10 (by kernel_rfl) rfl) (r_fa0 rfl fo49_0) ?_
  refine s_run rfl (g_on 10 (by kernel_rfl) rfl) (r_lo H 4 rfl rfl rfl ag3) ?_
  refine s_run rfl (g_on 10 (by kernel_rfl) rfl) (r_gtrF rfl rfl (by omega)) ?_
  refine s_run rfl rfl (r_pkF (v := .bool _) rfl rfl) ?_
  refine s_run rfl rfl (rmb rfl) ?_
  refine s_run rfl (g_on 15 (by kernel_rfl) rfl) (r_fa0 rfl fo49_1) ?_
  refine s_run rfl (g_on 15 (by kernel_rfl) rfl) (r_lo H 4 rfl rfl rfl ag3) ?_
  refine s_run rfl (g_on 15 (by kernel_rfl) rfl) (r_lssT rfl rfl (by omega)) ?_
  refine s_run rfl rfl (r_pkF (v := .bool _) rfl rfl) ?_
  refine s_run rfl rfl (rab rfl) ?_
  refine k_nc ?_
  refine k_t rfl ?_
  refine k_rg ?_
  refine s_run rfl rfl (rmp rfl) ?_
  refine s_run rfl rfl (r_fa0 rfl fo49_1) ?_
  refine s_run rfl rfl (r_lo H 4 rfl rfl rfl ag3) ?_
  refine s_call rfl (hF5 (H.part (A := ckE p b1 b2 A c s))) (ca40 rfl) ?_
  rintro e W1 ⟨rfl, FA, fc, H'⟩
  refine ⟨_, rfl, ?_⟩
  have H := H.step (A := ckE p b1 b2 A c s) (L := [_]) H' (fun _ h => h); clear H'; unfold ckE at H; simp only [List.cons_append, List.nil_append] at H
  refine k_nil ?_
  refine b_norm ?_
  refine c_norm ?_
  refine k_rg ?_
  refine s_run rfl rfl (rmp rfl) ?_
  refine s_run rfl rfl (r_nc rfl) ?_
  refine s_run rfl rfl (r_fa0 rfl fo90_3) ?_
  refine s_run rfl rfl (r_lo H 0 rfl rfl rfl ag3) ?_
  refine s_run rfl rfl (r_add rfl rfl (wI (by omega))) ?_
  refine s_run rfl rfl (r_nc rfl) ?_
  refine s_run rfl rfl (r_fa0 rfl fo90_3) ?_
  refine s_st (u := .int _ _) H 0 rfl rfl rfl rfl rfl rfl sz3 ?_
  clear H; intro _ H; simp only [jA, jB, jC, jD, jE, jF, jG, jH, jI, jJ, jK, Nat.reduceAdd] at H
  refine k_nil ?_
  refine fin0  rfl ?_
  exact ⟨rfl, FA, fc, (H : Heap w _ ([_, _, _, _] ++ [_]) _).drops⟩
 have hok : ¬ (k < 1 ∨ 5 < k ∨ n < 0) := fun h => by omega
 unfold Ck.step
 rw [if_neg hok]
 by_cases k1 : k = 1
 ·rw [if_pos k1]
  refine k_rg ?_
  refine s_run rfl rfl (r_fa0 rfl fo49_0) ?_
  refine s_run rfl rfl (r_lo H 4 rfl rfl rfl ag3) ?_
  refine s_run rfl rfl (r_lssF rfl rfl (by omega)) ?_
  refine s_run rfl rfl (rmb rfl) ?_
  refine s_run rfl (g_on 10 (by kernel_rfl) rfl) (r_fa0 rfl fo49_0) ?_
  refine s_run rfl (g_on 10 (by kernel_rfl) rfl) (r_lo H 4 rfl rfl rfl ag3) ?_
  refine s_run rfl (g_on 10 (by kernel_rfl) rfl) (r_gtrF rfl rfl (by omega)) ?_
  refine s_run rfl rfl (r_pkF (v := .bool _) rfl rfl) ?_
  refine s_run rfl rfl (rmb rfl) ?_
  refine s_run rfl (g_on 15 (by kernel_rfl) rfl) (r_fa0 rfl fo49_1) ?_
  refine s_run rfl (g_on 15 (by kernel_rfl) rfl) (r_lo H 4 rfl rfl rfl ag3) ?_
  refine s_run rfl (g_on 15 (by kernel_rfl) rfl) (r_lssF rfl rfl (by omega)) ?_
  refine s_run rfl rfl (r_pkF (v := .bool _) rfl rfl) ?_
  refine s_run rfl rfl (rab rfl) ?_
  refine k_nc ?_
  refine k_f rfl ?_
  refine k_sg ?_
  refine s_run rfl rfl (r_fa0 rfl fo49_0) ?_
  refine s_run rfl rfl (r_lo H 4 rfl rfl rfl ag3) ?_
  refine s_run rfl rfl (r_eqlT rfl rfl (by omega)) ?_
  refine s_run rfl rfl (rab rfl) ?_
  refine k_nc ?_
  refine k_t rfl ?_
  refine k_qt 6 mixed (by kernel_rfl) H rfl rfl ?_
  refine q_run rfl rfl (fun _ H => r_mv (v := .pointer _) rfl) ?_
  refine q_run rfl rfl (fun _ H => r_nc rfl) ?_
  refine q_run rfl rfl (fun _ H => r_fa0 rfl fo90_0) ?_
  refine q_run rfl rfl (fun _ H => r_lo H 0 rfl rfl rfl ag87) ?_
  refine q_run rfl rfl (fun _ H => r_fa0 rfl fo49_1) ?_
  refine q_run rfl rfl (fun _ H => r_lo H 4 rfl rfl rfl ag3) ?_
  refine q_nil ?_
  intro _ H'; clear H; have H := H'; clear H'
  refine s_mu H 1 rfl rfl rfl rfl rfl (gn) Try.underlying87 ?_
  clear H; intro _ H; simp only [jA, jB, jC, jD, jE, jF, jG, jH, jI, jJ, jK, Nat.reduceAdd] at H
  refine k_nil ?_
  refine b_norm ?_
  refine c_norm ?_
  refine k_rg ?_
  refine s_run rfl rfl (rmp rfl) ?_
  refine s_run rfl rfl (r_nc rfl) ?_
  refine s_run rfl rfl (r_fa0 rfl fo90_3) ?_
  refine s_run rfl rfl (r_lo H 0 rfl rfl rfl ag3) ?_
  refine s_run rfl rfl (r_add rfl rfl (wI (by omega))) ?_
  refine s_run rfl rfl (r_nc rfl) ?_
  refine s_run rfl rfl (r_fa0 rfl fo90_3) ?_
  refine s_st (u := .int _ _) H 0 rfl rfl rfl rfl rfl rfl sz3 ?_
  clear H; intro _ H; simp only [jA, jB, jC, jD, jE, jF, jG, jH, jI, jJ, jK, Nat.reduceAdd] at H
  refine k_nil ?_
  refine fin0  rfl ?_
  exact ⟨rfl, A, c, (H : Heap w _ ([_, _, _, _] ++ [_]) _).drops⟩
 rw [if_neg k1]
 by_cases k2 : k = 2
 ·rw [if_pos k2]
  cases hmg : mget s.lines n with
  | none =>
   rw [if_neg (by simp)]
   refine k_rg ?_
   refine s_run rfl rfl (r_fa0 rfl fo49_0) ?_
   refine s_run rfl rfl (r_lo H 4 rfl rfl rfl ag3) ?_
   refine s_run rfl rfl (r_lssF rfl rfl (by omega)) ?_
   refine s_run rfl rfl (rmb rfl) ?_
   refine s_run rfl (g_on 10 (by kernel_rfl) rfl) (r_fa0 rfl fo49_0) ?_
   refine s_run rfl (g_on 10 (by kernel_rfl) rfl) (r_lo H 4 rfl rfl rfl ag3) ?_
   refine s_run rfl (g_on 10 (by kernel_rfl) rfl) (r_gtrF rfl rfl (by omega)) ?_
   refine s_run rfl rfl (r_pkF (v := .bool _) rfl rfl) ?_
   refine s_run rfl rfl (rmb rfl) ?_
   refine s_run rfl (g_on 15 (by kernel_rfl) rfl) (r_fa0 rfl fo49_1) ?_
   refine s_run rfl (g_on 15 (by kernel_rfl) rfl) (r_lo H 4 rfl rfl rfl ag3) ?_
   refine s_run rfl (g_on 15 (by kernel_rfl) rfl) (r_lssF rfl rfl (by omega)) ?_
   refine s_run rfl rfl (r_pkF (v := .bool _) rfl rfl) ?_
   refine s_run rfl rfl (rab rfl) ?_
   refine k_nc ?_
   refine k_f rfl ?_
   refine k_sg ?_
   refine s_run rfl rfl (r_fa0 rfl fo49_0) ?_
   refine s_run rfl rfl (r_lo H 4 rfl rfl rfl ag3) ?_
   refine s_run rfl rfl (r_eqlF rfl rfl (by omega)) ?_
   refine s_run rfl rfl (rab rfl) ?_
   refine k_nc ?_
   refine k_f rfl ?_
   refine k_sg ?_
   refine s_run rfl rfl (r_fa0 rfl fo49_0) ?_
   refine s_run rfl rfl (r_lo H 4 rfl rfl rfl ag3) ?_
   refine s_run rfl rfl (r_eqlT rfl rfl (by omega)) ?_
   refine s_run rfl rfl (rab rfl) ?_
   refine k_nc ?_
   refine k_t rfl ?_
   refine k_seq ?_
   refine k_seq ?_
   refine k_q mixed (by kernel_rfl) H ?_
   refine q_run rfl rfl (fun _ H => r_mv (v := .pointer _) rfl) ?_
   refine q_run rfl rfl (fun _ H => r_nc rfl) ?_
   refine q_run rfl rfl (fun _ H => r_fa0 rfl fo90_0) ?_
   refine q_run rfl rfl (fun _ H => r_lo H 0 rfl rfl rfl ag87) ?_
   refine q_run rfl rfl (fun _ H => r_fa0 rfl fo49_1) ?_
   refine q_run rfl rfl (fun _ H => r_lo H 4 rfl rfl rfl ag3) ?_
   refine q_run rfl rfl (fun _ H => r_lkN H 1 rfl rfl rfl (gn) (hmg) Try.underlying87 (zv_of inf92)) ?_
   refine q_run rfl rfl (fun _ H => r_eqlF rfl rfl (by omega)) ?_
   refine q_nil ?_
   intro _ H'; clear H; have H := H'; clear H'
   refine c_norm ?_
   refine k_f rfl ?_
   refine k_rg ?_
   refine s_run rfl rfl (rmp rfl) ?_
   refine s_run rfl rfl (r_fa0 rfl fo49_1) ?_
   refine s_run rfl rfl (r_lo H 4 rfl rfl rfl ag3) ?_
   refine s_call rfl (hF3 (H.part (A := ckE p b1 b2 A c s))) (ca40 rfl) ?_
   rintro e W1 ⟨rfl, FA, fc, H'⟩
   refine ⟨_, rfl, ?_⟩
   have H := H.step (A := ckE p b1 b2 A c s) (L := [_]) H' (fun _ h => h); clear H'; unfold ckE at H; simp only [List.cons_append, List.nil_append] at H
   refine k_nc ?_
   refine k_rg ?_
   refine s_run rfl rfl (rmp rfl) ?_
   refine s_run rfl rfl (r_nc rfl) ?_
   refine s_run rfl rfl (r_fa0 rfl fo90_2) ?_
   refine s_st (u := .bool _) H 0 rfl rfl rfl rfl rfl rfl sz4 ?_
   clear H; intro _ H; simp only [jA, jB, jC, jD, jE, jF, jG, jH, jI, jJ, jK, Nat.reduceAdd] at H
   refine k_nil ?_
   refine b_norm ?_
   refine c_norm ?_
   refine k_rg ?_
   refine s_run rfl rfl (rmp rfl) ?_
   refine s_run rfl rfl (r_nc rfl) ?_
   refine s_run rfl rfl (r_fa0 rfl fo90_3) ?_
   refine s_run rfl rfl (r_lo H 0 rfl rfl rfl ag3) ?_
   refine s_run rfl rfl (r_add rfl rfl (wI (by omega))) ?_
   refine s_run rfl rfl (r_nc rfl) ?_
   refine s_run rfl rfl (r_fa0 rfl fo90_3) ?_
   refine s_st (u := .int _ _) H 0 rfl rfl rfl rfl rfl rfl sz3 ?_
   clear H; intro _ H; simp only [jA, jB, jC, jD, jE, jF, jG, jH, jI, jJ, jK, Nat.reduceAdd] at H
   refine k_nil ?_
   refine fin0  rfl ?_
   exact ⟨rfl, FA, fc, (H : Heap w _ ([_, _, _, _] ++ [_]) _).drops⟩
  | some v =>
   by_cases hv : v = 1
   ·subst hv
    rw [if_pos rfl]
    refine k_rg ?_
    refine s_run rfl rfl (r_fa0 rfl fo49_0) ?_
    refine s_run rfl rfl (r_lo H 4 rfl rfl rfl ag3) ?_
    refine s_run rfl rfl (r_lssF rfl rfl (by omega)) ?_
    refine s_run rfl rfl (rmb rfl) ?_
    refine s_run rfl (g_on 10 (by kernel_rfl) rfl) (r_fa0 rfl fo49_0) ?_
    refine s_run rfl (g_on 10 (by kernel_rfl) rfl) (r_lo H 4 rfl rfl rfl ag3) ?_
    refine s_run rfl (g_on 10 (by kernel_rfl) rfl) (r_gtrF rfl rfl (by omega)) ?_
    refine s_run rfl rfl (r_pkF (v := .bool _) rfl rfl) ?_
    refine s_run rfl rfl (rmb rfl) ?_
    refine s_run rfl (g_on 15 (by kernel_rfl) rfl) (r_fa0 rfl fo49_1) ?_
    refine s_run rfl (g_on 15 (by kernel_rfl) rfl) (r_lo H 4 rfl rfl rfl ag3) ?_
    refine s_run rfl (g_on 15 (by kernel_rfl) rfl) (r_lssF rfl rfl (by omega)) ?_
    refine s_run rfl rfl (r_pkF (v := .bool _) rfl rfl) ?_
    refine s_run rfl rfl (rab rfl) ?_
    refine k_nc ?_
    refine k_f rfl ?_
    refine k_sg ?_
    refine s_run rfl rfl (r_fa0 rfl fo49_0) ?_
    refine s_run rfl rfl (r_lo H 4 rfl rfl rfl ag3) ?_
    refine s_run rfl rfl (r_eqlF rfl rfl (by omega)) ?_
    refine s_run rfl rfl (rab rfl) ?_
    refine k_nc ?_
    refine k_f rfl ?_
    refine k_sg ?_
    refine s_run rfl rfl (r_fa0 rfl fo49_0) ?_
    refine s_run rfl rfl (r_lo H 4 rfl rfl rfl ag3) ?_
    refine s_run rfl rfl (r_eqlT rfl rfl (by omega)) ?_
    refine s_run rfl rfl (rab rfl) ?_
    refine k_nc ?_
    refine k_t rfl ?_
    refine k_seq ?_
    refine k_seq ?_
    refine k_q mixed (by kernel_rfl) H ?_
    refine q_run rfl rfl (fun _ H => r_mv (v := .pointer _) rfl) ?_
    refine q_run rfl rfl (fun _ H => r_nc rfl) ?_
    refine q_run rfl rfl (fun _ H => r_fa0 rfl fo90_0) ?_
    refine q_run rfl rfl (fun _ H => r_lo H 0 rfl rfl rfl ag87) ?_
    refine q_run rfl rfl (fun _ H => r_fa0 rfl fo49_1) ?_
    refine q_run rfl rfl (fun _ H => r_lo H 4 rfl rfl rfl ag3) ?_
    refine q_run rfl rfl (fun _ H => r_lkS H 1 rfl rfl rfl (gn) (hmg) Try.underlying87 (zv_of inf92) rfl) ?_
    refine q_run rfl rfl (fun _ H => r_eqlT rfl rfl (by omega)) ?_
    refine q_nil ?_
    intro _ H'; clear H; have H := H'; clear H'
    refine c_norm ?_
    refine k_t rfl ?_
    refine k_qt 6 mixed (by kernel_rfl) H rfl rfl ?_
    refine q_run rfl rfl (fun _ H => r_mv (v := .pointer _) rfl) ?_
    refine q_run rfl rfl (fun _ H => r_nc rfl) ?_
    refine q_run rfl rfl (fun _ H => r_fa0 rfl fo90_0) ?_
    refine q_run rfl rfl (fun _ H => r_lo H 0 rfl rfl rfl ag87) ?_
    refine q_run rfl rfl (fun _ H => r_fa0 rfl fo49_1) ?_
    refine q_run rfl rfl (fun _ H => r_lo H 4 rfl rfl rfl ag3) ?_
    refine q_nil ?_
    intro _ H'; clear H; have H := H'; clear H'
    refine s_mu H 1 rfl rfl rfl rfl rfl (gn) Try.underlying87 ?_
    clear H; intro _ H; simp only [jA, jB, jC, jD, jE, jF, jG, jH, jI, jJ, jK, Nat.reduceAdd] at H
    refine k_nc ?_
    refine k_rg ?_
    refine s_run rfl rfl (rmp rfl) ?_
    refine s_run rfl rfl (r_nc rfl) ?_
    refine s_run rfl rfl (r_fa0 rfl fo90_2) ?_
    refine s_st (u := .bool _) H 0 rfl rfl rfl rfl rfl rfl sz4 ?_
    clear H; intro _ H; simp only [jA, jB, jC, jD, jE, jF, jG, jH, jI, jJ, jK, Nat.reduceAdd] at H
    refine k_nil ?_
    refine b_norm ?_
    refine c_norm ?_
    refine k_rg ?_
    refine s_run rfl rfl (rmp rfl) ?_
    refine s_run rfl rfl (r_nc rfl) ?_
    refine s_run rfl rfl (r_fa0 rfl fo90_3) ?_
    refine s_run rfl rfl (r_lo H 0 rfl rfl rfl ag3) ?_
    refine s_run rfl rfl (r_add rfl rfl (wI (by omega))) ?_
    refine s_run rfl rfl (r_nc rfl) ?_
    refine s_run rfl rfl (r_fa0 rfl fo90_3) ?_
    refine s_st (u := .int _ _) H 0 rfl rfl rfl rfl rfl rfl sz3 ?_
    clear H; intro _ H; simp only [jA, jB, jC, jD, jE, jF, jG, jH, jI, jJ, jK, Nat.reduceAdd] at H
    refine k_nil ?_
    refine fin0  rfl ?_
    exact ⟨rfl, A, c, (H : Heap w _ ([_, _, _, _] ++ [_]) _).drops⟩
   ·rw [if_neg (fun h => hv (by injection h))]
    refine k_rg ?_
    refine s_run rfl rfl (r_fa0 rfl fo49_0) ?_
    refine s_run rfl rfl (r_lo H 4 rfl rfl rfl ag3) ?_
    refine s_run rfl rfl (r_lssF rfl rfl (by omega)) ?_
    refine s_run rfl rfl (rmb rfl) ?_
    refine s_run rfl (g_on 10 (by kernel_rfl) rfl) (r_fa0 rfl fo49_0) ?_
    refine s_run rfl (g_on 10 (by kernel_rfl) rfl) (r_lo H 4 rfl rfl rfl ag3) ?_
    refine s_run rfl (g_on 10 (by kernel_rfl) rfl) (r_gtrF rfl rfl (by omega)) ?_
    refine s_run rfl rfl (r_pkF (v := .bool _) rfl rfl) ?_
    refine s_run rfl rfl (rmb rfl) ?_
    refine s_run rfl (g_on 15 (by kernel_rfl) rfl) (r_fa0 rfl fo49_1) ?_
    refine s_run rfl (g_on 15 (by kernel_rfl) rfl) (r_lo H 4 rfl rfl rfl ag3) ?_
    refine s_run rfl (g_on 15 (by kernel_rfl) rfl) (r_lssF rfl rfl (by omega)) ?_
    refine s_run rfl rfl (r_pkF (v := .bool _) rfl rfl) ?_
    refine s_run rfl rfl (rab rfl) ?_
    refine k_nc ?_
    refine k_f rfl ?_
    refine k_sg ?_
    refine s_run rfl rfl (r_fa0 rfl fo49_0) ?_
    refine s_run rfl rfl (r_lo H 4 rfl rfl rfl ag3) ?_
    refine s_run rfl rfl (r_eqlF rfl rfl (by omega)) ?_
    refine s_run rfl rfl (rab rfl) ?_
    refine k_nc ?_
    refine k_f rfl ?_
    refine k_sg ?_
    refine s_run rfl rfl (r_fa0 rfl fo49_0) ?_
    refine s_run rfl rfl (r_lo H 4 rfl rfl rfl ag3) ?_
    refine s_run rfl rfl (r_eqlT rfl rfl (by omega)) ?_
    refine s_run rfl rfl (rab rfl) ?_
    refine k_nc ?_
    refine k_t rfl ?_
    refine k_seq ?_
    refine k_seq ?_
    refine k_q mixed (by kernel_rfl) H ?_
    refine q_run rfl rfl (fun _ H => r_mv (v := .pointer _) rfl) ?_
    refine q_run rfl rfl (fun _ H => r_nc rfl) ?_
    refine q_run rfl rfl (fun _ H => r_fa0 rfl fo90_0) ?_
    refine q_run rfl rfl (fun _ H => r_lo H 0 rfl rfl rfl ag87) ?_
    refine q_run rfl rfl (fun _ H => r_fa0 rfl fo49_1) ?_
    refine q_run rfl rfl (fun _ H => r_lo H 4 rfl rfl rfl ag3) ?_
    refine q_run rfl rfl (fun _ H => r_lkS H 1 rfl rfl rfl (gn) (hmg) Try.underlying87 (zv_of inf92) rfl) ?_
    refine q_run rfl rfl (fun _ H => r_eqlF rfl rfl (by omega)) ?_
    refine q_nil ?_
    intro _ H'; clear H; have H := H'; clear H'
    refine c_norm ?_
    refine k_f rfl ?_
    refine k_rg ?_
    refine s_run rfl rfl (rmp rfl) ?_
    refine s_run rfl rfl (r_fa0 rfl fo49_1) ?_
    refine s_run rfl rfl (r_lo H 4 rfl rfl rfl ag3) ?_
    refine s_call rfl (hF3 (H.part (A := ckE p b1 b2 A c s))) (ca40 rfl) ?_
    rintro e W1 ⟨rfl, FA, fc, H'⟩
    refine ⟨_, rfl, ?_⟩
    have H := H.step (A := ckE p b1 b2 A c s) (L := [_]) H' (fun _ h => h); clear H'; unfold ckE at H; simp only [List.cons_append, List.nil_append] at H
    refine k_nc ?_
    refine k_rg ?_
    refine s_run rfl rfl (rmp rfl) ?_
    refine s_run rfl rfl (r_nc rfl) ?_
    refine s_run rfl rfl (r_fa0 rfl fo90_2) ?_
    refine s_st (u := .bool _) H 0 rfl rfl rfl rfl rfl rfl sz4 ?_
    clear H; intro _ H; simp only [jA, jB, jC, jD, jE, jF, jG, jH, jI, jJ, jK, Nat.reduceAdd] at H
    refine k_nil ?_
    refine b_norm ?_
    refine c_norm ?_
    refine k_rg ?_
    refine s_run rfl rfl (rmp rfl) ?_
    refine s_run rfl rfl (r_nc rfl) ?_
    refine s_run rfl rfl (r_fa0 rfl fo90_3) ?_
    refine s_run rfl rfl (r_lo H 0 rfl rfl rfl ag3) ?_
    refine s_run rfl rfl (r_add rfl rfl (wI (by omega))) ?_
    refine s_run rfl rfl (r_nc rfl) ?_
    refine s_run rfl rfl (r_fa0 rfl fo90_3) ?_
    refine s_st (u := .int _ _) H 0 rfl rfl rfl rfl rfl rfl sz3 ?_
    clear H; intro _ H; simp only [jA, jB, jC, jD, jE, jF, jG, jH, jI, jJ, jK, Nat.reduceAdd] at H
    refine k_nil ?_
    refine fin0  rfl ?_
    exact ⟨rfl, FA, fc, (H : Heap w _ ([_, _, _, _] ++ [_]) _).drops⟩
 rw [if_neg k2]
 by_cases k3 : k = 3
 ·rw [if_pos k3]
  generalize s.fence = u at *
  refine k_rg ?_
  refine s_run rfl rfl (r_fa0 rfl fo49_0) ?_
  refine s_run rfl rfl (r_lo H 4 rfl rfl rfl ag3) ?_
  refine s_run rfl rfl (r_lssF rfl rfl (by omega)) ?_
  refine s_run rfl rfl (rmb rfl) ?_
  refine s_run rfl (g_on 10 (by kernel_rfl) rfl) (r_fa0 rfl fo49_0) ?_
  refine s_run rfl (g_on 10 (by kernel_rfl) rfl) (r_lo H 4 rfl rfl rfl ag3) ?_
  refine s_run rfl (g_on 10 (by kernel_rfl) rfl) (r_gtrF rfl rfl (by omega)) ?_
  refine s_run rfl rfl (r_pkF (v := .bool _) rfl rfl) ?_
  refine s_run rfl rfl (rmb rfl) ?_
  refine s_run rfl (g_on 15 (by kernel_rfl) rfl) (r_fa0 rfl fo49_1) ?_
  refine s_run rfl (g_on 15 (by kernel_rfl) rfl) (r_lo H 4 rfl rfl rfl ag3) ?_
  refine s_run rfl (g_on 15 (by kernel_rfl) rfl) (r_lssF rfl rfl (by omega)) ?_
  refine s_run rfl rfl (r_pkF (v := .bool _) rfl rfl) ?_
  refine s_run rfl rfl (rab rfl) ?_
  refine k_nc ?_
  refine k_f rfl ?_
  refine k_sg ?_
  refine s_run rfl rfl (r_fa0 rfl fo49_0) ?_
  refine s_run rfl rfl (r_lo H 4 rfl rfl rfl ag3) ?_
  refine s_run rfl rfl (r_eqlF rfl rfl (by omega)) ?_
  refine s_run rfl rfl (rab rfl) ?_
  refine k_nc ?_
  refine k_f rfl ?_
  refine k_sg ?_
  refine s_run rfl rfl (r_fa0 rfl fo49_0) ?_
  refine s_run rfl rfl (r_lo H 4 rfl rfl rfl ag3) ?_
  refine s_run rfl rfl (r_eqlF rfl rfl (by omega)) ?_
  refine s_run rfl rfl (rab rfl) ?_
  refine k_nc ?_
  refine k_f rfl ?_
  refine k_sg ?_
  refine s_run rfl rfl (r_fa0 rfl fo49_0) ?_
  refine s_run rfl rfl (r_lo H 4 rfl rfl rfl ag3) ?_
  refine s_run rfl rfl (r_eqlT rfl rfl (by omega)) ?_
  refine s_run rfl rfl (rab rfl) ?_
  refine k_nc ?_
  refine k_t rfl ?_
  refine k_rg ?_
  refine s_run rfl rfl (rmp rfl) ?_
  refine s_call rfl (hFe (H.part (A := ckE p b1 b2 A c s))) (ca41 rfl) ?_
  rintro e W1 ⟨rfl, FA, fc, H'⟩
  refine ⟨_, rfl, ?_⟩
  have H := H.step (A := ckE p b1 b2 A c s) (L := [_]) H' (fun _ h => h); clear H'; unfold ckE at H; simp only [List.cons_append, List.nil_append] at H
  refine k_nil ?_
  refine b_norm ?_
  refine c_norm ?_
  refine k_rg ?_
  refine s_run rfl rfl (rmp rfl) ?_
  refine s_run rfl rfl (r_nc rfl) ?_
  refine s_run rfl rfl (r_fa0 rfl fo90_3) ?_
  refine s_run rfl rfl (r_lo H 0 rfl rfl rfl ag3) ?_
  refine s_run rfl rfl (r_add rfl rfl (wI (by omega))) ?_
  refine s_run rfl rfl (r_nc rfl) ?_
  refine s_run rfl rfl (r_fa0 rfl fo90_3) ?_
  refine s_st (u := .int _ _) H 0 rfl rfl rfl rfl rfl rfl sz3 ?_
  clear H; intro _ H; simp only [jA, jB, jC, jD, jE, jF, jG, jH, jI, jJ, jK, Nat.reduceAdd] at H
  refine k_nil ?_
  refine fin0  rfl ?_
  exact ⟨rfl, FA, fc, (H : Heap w _ ([_, _, _, _] ++ [_]) _).drops⟩
 rw [if_neg k3]
 by_cases k4 : k = 4
 ·rw [if_pos k4]
  refine k_rg ?_
  refine s_run rfl rfl (r_fa0 rfl fo49_0) ?_
  refine s_run rfl rfl (r_lo H 4 rfl rfl rfl ag3) ?_
  refine s_run rfl rfl (r_lssF rfl rfl (by omega)) ?_
  refine s_run rfl rfl (rmb rfl) ?_
  refine s_run rfl (g_on 10 (by kernel_rfl) rfl) (r_fa0 rfl fo49_0) ?_
  refine s_run rfl (g_on 10 (by kernel_rfl) rfl) (r_lo H 4 rfl rfl rfl ag3) ?_
  refine s_run rfl (g_on 10 (by kernel_rfl) rfl) (r_gtrF rfl rfl (by omega)) ?_
  refine s_run rfl rfl (r_pkF (v := .bool _) rfl rfl) ?_
  refine s_run rfl rfl (rmb rfl) ?_
  refine s_run rfl (g_on 15 (by kernel_rfl) rfl) (r_fa0 rfl fo49_1) ?_
  refine s_run rfl (g_on 15 (by kernel_rfl) rfl) (r_lo H 4 rfl rfl rfl ag3) ?_
  refine s_run rfl (g_on 15 (by kernel_rfl) rfl) (r_lssF rfl rfl (by omega)) ?_
  refine s_run rfl rfl (r_pkF (v := .bool _) rfl rfl) ?_
  refine s_run rfl rfl (rab rfl) ?_
  refine k_nc ?_
  refine k_f rfl ?_
  refine k_sg ?_
  refine s_run rfl rfl (r_fa0 rfl fo49_0) ?_
  refine s_run rfl rfl (r_lo H 4 rfl rfl rfl ag3) ?_
  refine s_run rfl rfl (r_eqlF rfl rfl (by omega)) ?_
  refine s_run rfl rfl (rab rfl) ?_
  refine k_nc ?_
  refine k_f rfl ?_
  refine k_sg ?_
  refine s_run rfl rfl (r_fa0 rfl fo49_0) ?_
  refine s_run rfl rfl (r_lo H 4 rfl rfl rfl ag3) ?_
  refine s_run rfl rfl (r_eqlF rfl rfl (by omega)) ?_
  refine s_run rfl rfl (rab rfl) ?_
  refine k_nc ?_
  refine k_f rfl ?_
  refine k_sg ?_
  refine s_run rfl rfl (r_fa0 rfl fo49_0) ?_
  refine s_run rfl rfl (r_lo H 4 rfl rfl rfl ag3) ?_
  refine s_run rfl rfl (r_eqlF rfl rfl (by omega)) ?_
  refine s_run rfl rfl (rab rfl) ?_
  refine k_nc ?_
  refine k_f rfl ?_
  refine k_sg ?_
  refine s_run rfl rfl (r_fa0 rfl fo49_0) ?_
  refine s_run rfl rfl (r_lo H 4 rfl rfl rfl ag3) ?_
  refine s_run rfl rfl (r_eqlT rfl rfl (by omega)) ?_
  refine s_run rfl rfl (rab rfl) ?_
  refine k_nc ?_
  refine k_t rfl ?_
  refine k_qt 6 mixed (by kernel_rfl) H rfl rfl ?_
  refine q_run rfl rfl (fun _ H => r_mv (v := .pointer _) rfl) ?_
  refine q_run rfl rfl (fun _ H => r_nc rfl) ?_
  refine q_run rfl rfl (fun _ H => r_fa0 rfl fo90_1) ?_
  refine q_run rfl rfl (fun _ H => r_lo H 0 rfl rfl rfl ag88) ?_
  refine q_run rfl rfl (fun _ H => r_fa0 rfl fo49_1) ?_
  refine q_run rfl rfl (fun _ H => r_lo H 4 rfl rfl rfl ag3) ?_
  refine q_nil ?_
  intro _ H'; clear H; have H := H'; clear H'
  refine s_mu H 2 rfl rfl rfl rfl rfl (gn) Try.underlying88 ?_
  clear H; intro _ H; simp only [jA, jB, jC, jD, jE, jF, jG, jH, jI, jJ, jK, Nat.reduceAdd] at H
  refine k_nil ?_
  refine b_norm ?_
  refine c_norm ?_
  refine k_rg ?_
  refine s_run rfl rfl (rmp rfl) ?_
  refine s_run rfl rfl (r_nc rfl) ?_
  refine s_run rfl rfl (r_fa0 rfl fo90_3) ?_
  refine s_run rfl rfl (r_lo H 0 rfl rfl rfl ag3) ?_
  refine s_run rfl rfl (r_add rfl rfl (wI (by omega))) ?_
  refine s_run rfl rfl (r_nc rfl) ?_
  refine s_run rfl rfl (r_fa0 rfl fo90_3) ?_
  refine s_st (u := .int _ _) H 0 rfl rfl rfl rfl rfl rfl sz3 ?_
  clear H; intro _ H; simp only [jA, jB, jC, jD, jE, jF, jG, jH, jI, jJ, jK, Nat.reduceAdd] at H
  refine k_nil ?_
  refine fin0  rfl ?_
  exact ⟨rfl, A, c, (H : Heap w _ ([_, _, _, _] ++ [_]) _).drops⟩
 rw [if_neg k4]
 generalize s.commit = u at *
 refine k_rg ?_
 refine s_run rfl rfl (r_fa0 rfl fo49_0) ?_
 refine s_run rfl rfl (r_lo H 4 rfl rfl rfl ag3) ?_
 refine s_run rfl rfl (r_lssF rfl rfl (by omega)) ?_
 refine s_run rfl rfl (rmb rfl) ?_
 refine s_run rfl (g_on 10 (by kernel_rfl) rfl) (r_fa0 rfl fo49_0) ?_
 refine s_run rfl (g_on 10 (by kernel_rfl) rfl) (r_lo H 4 rfl rfl rfl ag3) ?_
 refine s_run rfl (g_on 10 (by kernel_rfl) rfl) (r_gtrF rfl rfl (by omega)) ?_
 refine s_run rfl rfl (r_pkF (v := .bool _) rfl rfl) ?_
 refine s_run rfl rfl (rmb rfl) ?_
 refine s_run rfl (g_on 15 (by kernel_rfl) rfl) (r_fa0 rfl fo49_1) ?_
 refine s_run rfl (g_on 15 (by kernel_rfl) rfl) (r_lo H 4 rfl rfl rfl ag3) ?_
 refine s_run rfl (g_on 15 (by kernel_rfl) rfl) (r_lssF rfl rfl (by omega)) ?_
 refine s_run rfl rfl (r_pkF (v := .bool _) rfl rfl) ?_
 refine s_run rfl rfl (rab rfl) ?_
 refine k_nc ?_
 refine k_f rfl ?_
 refine k_sg ?_
 refine s_run rfl rfl (r_fa0 rfl fo49_0) ?_
 refine s_run rfl rfl (r_lo H 4 rfl rfl rfl ag3) ?_
 refine s_run rfl rfl (r_eqlF rfl rfl (by omega)) ?_
 refine s_run rfl rfl (rab rfl) ?_
 refine k_nc ?_
 refine k_f rfl ?_
 refine k_sg ?_
 refine s_run rfl rfl (r_fa0 rfl fo49_0) ?_
 refine s_run rfl rfl (r_lo H 4 rfl rfl rfl ag3) ?_
 refine s_run rfl rfl (r_eqlF rfl rfl (by omega)) ?_
 refine s_run rfl rfl (rab rfl) ?_
 refine k_nc ?_
 refine k_f rfl ?_
 refine k_sg ?_
 refine s_run rfl rfl (r_fa0 rfl fo49_0) ?_
 refine s_run rfl rfl (r_lo H 4 rfl rfl rfl ag3) ?_
 refine s_run rfl rfl (r_eqlF rfl rfl (by omega)) ?_
 refine s_run rfl rfl (rab rfl) ?_
 refine k_nc ?_
 refine k_f rfl ?_
 refine k_sg ?_
 refine s_run rfl rfl (r_fa0 rfl fo49_0) ?_
 refine s_run rfl rfl (r_lo H 4 rfl rfl rfl ag3) ?_
 refine s_run rfl rfl (r_eqlF rfl rfl (by omega)) ?_
 refine s_run rfl rfl (rab rfl) ?_
 refine k_nc ?_
 refine k_f rfl ?_
 refine k_rg ?_
 refine s_run rfl rfl (rmp rfl) ?_
 refine s_call rfl (hCo (H.part (A := ckE p b1 b2 A c s))) (ca42 rfl) ?_
 rintro e W1 ⟨rfl, FA, fc, H'⟩
 refine ⟨_, rfl, ?_⟩
 have H := H.step (A := ckE p b1 b2 A c s) (L := [_]) H' (fun _ h => h); clear H'; unfold ckE at H; simp only [List.cons_append, List.nil_append] at H
 refine k_nil ?_
 refine b_norm ?_
 refine c_norm ?_
 refine k_rg ?_
 refine s_run rfl rfl (rmp rfl) ?_
 refine s_run rfl rfl (r_nc rfl) ?_
 refine s_run rfl rfl (r_fa0 rfl fo90_3) ?_
 refine s_run rfl rfl (r_lo H 0 rfl rfl rfl ag3) ?_
 refine s_run rfl rfl (r_add rfl rfl (wI (by omega))) ?_
 refine s_run rfl rfl (r_nc rfl) ?_
 refine s_run rfl rfl (r_fa0 rfl fo90_3) ?_
 refine s_st (u := .int _ _) H 0 rfl rfl rfl rfl rfl rfl sz3 ?_
 clear H; intro _ H; simp only [jA, jB, jC, jD, jE, jF, jG, jH, jI, jJ, jK, Nat.reduceAdd] at H
 refine k_nil ?_
 refine fin0  rfl ?_
 exact ⟨rfl, FA, fc, (H : Heap w _ ([_, _, _, _] ++ [_]) _).drops⟩
end Go.Proofs.Ytpbimgopiammaaa
end

section
namespace Go.Proofs.Ytpbimgopiammaaa
open Go.RowKit
set_option maxRecDepth 100000
set_option maxHeartbeats 2000000
theorem mput_len {α β : Type} [DecidableEq α] : ∀ (l : List (α × β)) (a : α) (v : β), (mput l a v).length ≤ l.length + 1
 | [], a, v => by simp [mput]
 | p :: l, a, v => by
  unfold mput
  split
  ·simp
  ·have := mput_len l a v; simp only [List.length_cons]; omega
theorem cms_len (s : Ck) : ∀ l : List Int, (l.foldl Ck.cm1 s).faults.length ≤ s.faults.length + l.length := fun l => by
 induction l generalizing s with
 | nil => simp
 | cons x l ih =>
  have h1 := ih (s.cm1 x)
  have h2 := (cm1_same s x).2.2.2.2
  rw [List.foldl_cons, List.length_cons]; omega
theorem step_bd (s : Ck) (k n : Int) : (s.step k n).marked.length ≤ s.marked.length + 1 ∧ (s.step k n).at_ = s.at_ + 1 ∧ (s.step k n).faults.length ≤ s.faults.length + s.marked.length + 1 := by
 unfold Ck.step
 split
 ·exact ⟨by show s.marked.length ≤ _; omega, rfl, by show (s.faults ++ [_]).length ≤ _; simp <;> omega⟩
 split
 ·exact ⟨by show s.marked.length ≤ _; omega, rfl, by show s.faults.length ≤ _; omega⟩
 split
 ·split
  ·exact ⟨by show s.marked.length ≤ _; omega, rfl, by show s.faults.length ≤ _; omega⟩
  ·exact ⟨by show s.marked.length ≤ _; omega, rfl, by show (s.faults ++ [_]).length ≤ _; simp <;> omega⟩
 split
 ·unfold Ck.fence
  cases s.flush
  ·exact ⟨by show s.marked.length ≤ _; omega, rfl, by show (s.faults ++ [_]).length ≤ _; simp <;> omega⟩
  ·exact ⟨by show s.marked.length ≤ _; omega, rfl, by show s.faults.length ≤ _; omega⟩
 split
 ·exact ⟨mput_len _ _ _, rfl, by show s.faults.length ≤ _; omega⟩
 ·refine ⟨by show ([] : List (Int × Bool)).length ≤ _; simp, congrArg (· + 1) (cms_at s _), ?_⟩
  have h1 := cms_len s (srt (s.marked.map Prod.fst))
  rw [srt_len, List.length_map] at h1
  show ((srt (s.marked.map Prod.fst)).foldl Ck.cm1 s).faults.length ≤ _
  omega
def ck0 : Ck := ⟨[], [], false, 0, []⟩
theorem oNew (w : World) : Calls Try.prog 18 [].toArray w fun e w' => ∃ p b1 b2, e = .returned (ptr p) ∧ Heap w [] (ckE p b1 b2 none 0 ck0) w' := by
 have H := Heap.nil w
 refine k_in (N := 5) Try.func18 rfl rfl rfl ?_
 refine k_sg ?_
 refine s_run rfl rfl (rap rfl) ?_
 refine k_nc ?_
 refine k_sg ?_
 refine s_mm kS (Value.int .i64) H rfl ?_
 intro b1 _ H'; clear H; have H := H'; clear H'
 refine s_mm kS Value.bool H rfl ?_
 intro b2 _ H'; clear H; have H := H'; clear H'
 refine s_run rfl rfl (r_bd (bd90_0_1 _ _) rfl) ?_
 refine s_box H rfl rfl ?_
 intro p4 _ H'; clear H; have H := H'; clear H'
 refine s_run rfl rfl (rap rfl) ?_
 refine k_nc ?_
 refine k_ret ?_
 refine fin1r (v := .pointer _) rfl rfl ?_
 replace H := H.own_nil 3 69
 exact ⟨p4, b1, b2, rfl, H.order [1, 3, 2, 0] rfl rfl⟩
theorem flt_len (l : List Flt) : (fltN l).length = l.length * 3 := by
 induction l with
 | nil => rfl
 | cons x l ih => simp [fltN, Flt.cells] at ih ⊢; omega
theorem ck_sees {p b1 b2 c : Nat} {A : Option Addr} {s : Ck} {w W : World} {F : List Nat} {L : List Ent} (H : Heap w F (ckE p b1 b2 A c s ++ L) W) : Sees C1.v W [] A (fltN s.faults) := by
 intro h0
 obtain ⟨b, e, _, hr⟩ := H.own_seesN (T := 69) (n := s.faults.length) (xs := fltN s.faults) 3 rfl h0
 exact ⟨b, 0, e, by simp, fun i z hz => hr i z hz⟩
theorem oFaults (p b1 b2 : Nat) (A : Option Addr) (c : Nat) (s : Ck) (w : World) (hE : Ents (ckE p b1 b2 A c s) w) (hf : s.faults.length ≤ 500000) :
  Calls Try.prog 26 [ptr p].toArray w fun e w' => ∃ A' c', e = .returned (.slice A' s.faults.length c') ∧ Heap w [] [ownN 3 (.slice A' s.faults.length c') s.faults.length ((fltN s.faults).map C1.v) 69] w' := by
 have HR := Heap.start hE
 have hS := ck_sees (L := []) HR
 have hl := flt_len s.faults
 have H := Heap.nil w
 unfold ckE at HR
 refine k_in (N := 9) Try.func26 rfl rfl rfl ?_
 refine k_sg ?_
 refine s_run rfl rfl (ras rfl) ?_
 refine k_nc ?_
 refine k_sg ?_
 refine s_bs0 3 (by omega) H rfl Try.underlying58 inf69 ?_
 intro _ _ H'; clear H; have H := H'; clear H'
 refine s_run rfl rfl (rmp rfl) ?_
 refine s_run rfl rfl (r_nc rfl) ?_
 refine s_run rfl rfl (r_fa0 rfl fo90_4) ?_
 refine s_run rfl rfl (r_lo (HR.same H.only) 0 rfl rfl rfl ag58) ?_
 refine s_apsN (enc := C1.v) (size := 3) (xs := []) H 0 rfl rfl rfl rfl (hS) (hl) C1.one (by omega) (by omega) Try.underlying58 inf69 rfl ?_
 intro A1 c1 W1 H'; simp only [List.set_cons_zero, List.set_cons_succ, List.take_succ_cons, List.take_zero, List.drop_succ_cons, List.drop_zero, List.cons_append, List.nil_append, List.append_nil, List.length_cons, List.length_nil, Nat.reduceAdd] at H'; clear H; have H := H'; clear H'
 refine s_run rfl rfl (ras rfl) ?_
 refine k_nc ?_
 refine k_ret ?_
 refine fin1r (v := .slice _ _ _) rfl rfl ?_
 rw [Nat.zero_add] at H
 exact ⟨A1, c1, by rw [Nat.zero_add], H⟩
def evP (b o : Nat) (w : World) (l : List (Int × Int)) : Prop := ∀ i e, l[i]? = some e → Reads (fun v : Value => v) w b (o + i * 2) [.int .i64 e.1, .int .i64 e.2]
def chk (l : List (Int × Int)) : Ck := l.foldl (fun s e => s.step e.1 e.2) ck0
theorem chk_bd (l : List (Int × Int)) (i : Nat) (hi : i ≤ l.length) (h : l.length ≤ 600) : (chk (l.take i)).marked.length ≤ i ∧ (chk (l.take i)).at_ = i ∧ (chk (l.take i)).faults.length ≤ i * 601 := by
 induction i with
 | zero => exact ⟨by simp [chk, ck0], rfl, by simp [chk, ck0]⟩
 | succ i ih =>
  obtain ⟨h1, h2, h3⟩ := ih (by omega)
  obtain ⟨e, he⟩ : ∃ e, l[i]? = some e := ⟨_, List.getElem?_eq_getElem (by omega)⟩
  have hst : chk (l.take (i + 1)) = (chk (l.take i)).step e.1 e.2 := snoc_foldl _ _ _ _ _ he
  obtain ⟨g1, g2, g3⟩ := step_bd (chk (l.take i)) e.1 e.2
  rw [hst]
  exact ⟨by omega, by omega, by omega⟩
theorem oCheck (A : Option Addr) (n c : Nat) (l : List (Int × Int)) (w : World) (hS : l.length ≠ 0 → ∃ b o, A = some ⟨b, o, none⟩ ∧ evP b o w l) (hl : l.length = n) (hn : n ≤ 600) (hb : ∀ e ∈ l, -9223372036854775808 ≤ e.2 ∧ e.2 ≤ 9223372036854775807) :
  Calls Try.prog 27 [.slice A n c].toArray w fun e w' => ∃ A' c', e = .returned (.slice A' (chk l).faults.length c') ∧ Heap w [] [ownN 3 (.slice A' (chk l).faults.length c') (chk l).faults.length ((fltN (chk l).faults).map C1.v) 69] w' := by
 have H := Heap.nil w
 refine k_in (N := 19) Try.func27 rfl rfl rfl ?_
 refine k_sg ?_
 refine s_run rfl rfl (ras rfl) ?_
 refine k_nc ?_
 refine k_sg ?_
 refine s_call rfl (oNew _) (ca18 rfl) ?_
 rintro e W1 ⟨p, b1, b2, rfl, H'⟩
 refine ⟨_, rfl, ?_⟩
 have H := H.more H'; clear H'
 refine s_run rfl rfl (rap rfl) ?_
 refine k_nc ?_
 refine k_seq ?_
 refine k_sg ?_
 refine s_run rfl rfl (rms rfl) ?_
 refine s_run rfl rfl (r_len rfl Try.underlying44) ?_
 refine s_run rfl rfl (rmi rfl) ?_
 refine k_nc ?_
 refine k_b ?_
 refine k_loop (fun z f W => ∃ (i : Nat) (FA : Option Addr) (fc : Nat) (u : Ck), i ≤ n ∧ z = n - i ∧ u = chk (l.take i) ∧ f 3 = ptr p ∧ f 7 = .slice A n c ∧ f 8 = .int .i64 n ∧ f 9 = .int .i64 i ∧ Heap w [] (ckE p b1 b2 FA fc u) W) n ⟨0, none, 0, ck0, by omega, rfl, rfl, rfl, rfl, rfl, rfl, H⟩ ?_
 clear H
 rintro z f W ⟨i, FA, fc, u, hi, rfl, hu, f3, f7, f8, f9, H⟩
 obtain ⟨q1, q2, q3⟩ := chk_bd l i (by omega) (by omega)
 rw [← hu] at q1 q2 q3
 by_cases hlt : i < n
 ·obtain ⟨e, he⟩ : ∃ e, l[i]? = some e := ⟨_, List.getElem?_eq_getElem (by omega)⟩
  obtain ⟨b, o, hA, hrd⟩ := hS (by omega)
  have hre := hrd i e he
  have hbe := hb e (List.mem_of_getElem? he)
  have hst : chk (l.take (i + 1)) = (chk (l.take i)).step e.1 e.2 := snoc_foldl _ _ _ _ _ he
  rw [← hu] at hst
  have hDo := fun {W : World} hE => oDo p b1 b2 FA fc u e.1 e.2 W hE (by omega) (by omega) (by omega) hbe
  rw [hA] at f7
  obtain ⟨f, rfl⟩ := live4 f3 f7 f8 f9
  clear f3 f7 f8 f9
  refine k_sg ?_
  refine s_run rfl rfl (r_lssT rfl rfl (by omega)) ?_
  refine k_nc ?_
  refine k_seq ?_
  refine k_t rfl ?_
  refine k_skip ?_
  refine c_norm ?_
  refine k_seq ?_
  refine k_b ?_
  refine k_sg ?_
  refine s_run rfl rfl (r_ix (i := i) rfl rfl (by omega) (by omega) Try.underlying44 sz49) ?_
  refine s_run rfl rfl (r_lA (enc := fun v : Value => v) (zs := [.int .i64 e.1, .int .i64 e.2]) (hre.later H.only (by simp)) rfl rfl ag49 sz49) ?_
  refine s_al H rfl inf49 ?_
  intro p5 _ H'; clear H; have H := H'; clear H'
  refine s_sw H 0 rfl rfl rfl rfl rfl rfl rfl sz49 ?_
  clear H; intro _ H; simp only [jA, jB, jC, jD, jE, jF, jG, jH, jI, jJ, jK, Nat.reduceAdd] at H
  refine k_nc ?_
  refine k_rg ?_
  refine s_run rfl rfl (rmp rfl) ?_
  refine s_run rfl rfl (r_la H 0 rfl rfl rfl ag49 sz49) ?_
  refine s_call rfl (hDo ((H.order [1, 2, 3, 4, 0] rfl rfl : Heap w _ (ckE p b1 b2 FA fc u ++ [_]) _).part)) (ca19 rfl) ?_
  rintro e W1 ⟨rfl, FA', fc', H'⟩
  refine ⟨_, rfl, ?_⟩
  have H := ((H.order [1, 2, 3, 4, 0] rfl rfl : Heap w _ (ckE p b1 b2 FA fc u ++ [_]) _).step H' (fun _ h => h)); clear H'
  refine k_nil ?_
  refine b_norm ?_
  refine c_norm ?_
  refine k_rg ?_
  refine s_run rfl rfl (r_add rfl rfl (wI (by omega))) ?_
  refine s_run rfl rfl (rmi rfl) ?_
  refine k_nil ?_
  refine c_round ?_
  refine ⟨_, _, ?_, rfl, i + 1, FA', fc', _, by omega, rfl, hst.symm, rfl, by rw [hA]; rfl, rfl, rfl, H.drops⟩
  omega
 ·obtain rfl : i = n := by omega
  have et : l.take i = l := by rw [← hl]; exact List.take_length
  rw [et] at hu
  subst hu
  have hFa := fun {W : World} hE => oFaults p b1 b2 FA fc (chk l) W hE (by omega)
  obtain ⟨f, rfl⟩ := live4 f3 f7 f8 f9
  clear f3 f7 f8 f9
  refine k_sg ?_
  refine s_run rfl rfl (r_lssF rfl rfl (by omega)) ?_
  refine k_nc ?_
  refine k_seq ?_
  refine k_f rfl ?_
  refine k_exit ?_
  refine c_exit ?_
  refine c_exit ?_
  refine b_hit ?_
  refine c_norm ?_
  refine k_sg ?_
  refine s_run rfl rfl (rmp rfl) ?_
  refine s_call rfl (hFa H.ents) (ca26 rfl) ?_
  rintro e W1 ⟨A', c', rfl, H'⟩
  refine ⟨_, rfl, ?_⟩
  have H := H.more H'; clear H'
  refine s_run rfl rfl (ras rfl) ?_
  refine k_nc ?_
  refine k_ret ?_
  refine fin1r (v := .slice _ _ _) rfl rfl ?_
  exact ⟨A', c', rfl, (H : Heap w [] ([_] ++ _) _).drops⟩
end Go.Proofs.Ytpbimgopiammaaa
end

section
namespace Go.Proofs.Ytpbimgopiammaaa
open Go.RowKit
theorem tk_snoc {α : Type} {l : List α} {k : Nat} {x : α} (h : l[k]? = some x) : l.take k ++ [x] = l.take (k + 1) := by rw [List.take_add_one, h]; rfl
section
variable {P : Program} {n : Sz} {f : Nat → Value} {W w0 : World} {dst : Option Tmp} {ty : TypeId} {pos : String} {af : Array Edge} {g : Option (Nat × Bool)} {x y : Operand} {t t2 e : TypeId} {v : Value} {k k2 : IntKind} {a b : Int}
/-- s[:hi:max] -/
theorem r_shm {A : Option Addr} {l c : Nat} {hi mx : Operand} {j j2 m : Nat} (hx : ev n f x = .slice A l c) (hh : ev n f hi = .int k a) (ha : a = (j : Int)) (hq : ev n f mx = .int k2 b) (hb : b = (j2 : Int)) (hj : j ≤ j2) (hj2 : j2 ≤ c) (h : P.underlying t = some (.slice e)) (hm : ∀ W, (Go.sizeOf e).run P W = .ok m W) :
  (execOp (ev n f) ⟨dst, .slice t x none (some hi) (some mx), ty, pos, af, g⟩).run P W = .ok (.value (.slice A j j2)) W := by
 subst ha; subst hb
 have h1 : (0 : Int) ≤ j ∧ (j : Int) ≤ j2 := by omega
 have h2 : (0 : Int) ≤ j2 ∧ (j2 : Int) ≤ c := by omega
 have h0 : ∀ p : Addr, p.add 0 = p := fun p => by simp [Addr.add]
 simp only [execOp, Instr.sliceAt, Instr.slice, Instr.sliceBounds, Instr.sliceBound, hx, hh, hq, asIntOf, Option.map_some, Option.map_none, Sem.run_bind, run_underlying h, Result.andThen_ok, Sem.run_pure, h1, h2, and_self, if_true, hm, Int.toNat_natCast, Nat.zero_mul, Nat.sub_zero]
 cases A <;> simp [h0]
/-- s[lo:] of any slice -/
def sloA (A : Option Addr) (c i m : Nat) : Option Addr := A.map fun p => if c = i then p else p.add (i * m)
theorem r_sloA {A : Option Addr} {l c : Nat} {lo : Operand} {i m : Nat} (hx : ev n f x = .slice A l c) (hl : ev n f lo = .int k a) (ha : a = (i : Int)) (hi : i ≤ l) (h : P.underlying t = some (.slice e)) (hm : ∀ W, (Go.sizeOf e).run P W = .ok m W) :
  (execOp (ev n f) ⟨dst, .slice t x (some lo) none none, ty, pos, af, g⟩).run P W = .ok (.value (.slice (sloA A c i m) (l - i) (c - i))) W := by
 subst ha
 have h1 : (0 : Int) ≤ i ∧ (i : Int) ≤ l := by omega
 simp only [execOp, Instr.sliceAt, Instr.slice, Instr.sliceBounds, Instr.sliceBound, hx, hl, asIntOf, Option.map_some, Option.map_none, Sem.run_bind, run_underlying h, Result.andThen_ok, Sem.run_pure, h1, and_self, if_true, hm, Int.toNat_natCast]
 cases A with
 | none => simp [sloA]
 | some p => by_cases h2 : c = i <;> simp [sloA, h2]
theorem Sees.slo {α : Type} {enc : α → Value} {w : World} {F : List Nat} {A : Option Addr} {xs : List α} (h : Sees enc w F A xs) {c : Nat} (i : Nat) (hc : xs.length ≤ c) : Sees enc w F (sloA A c i 1) (xs.drop i) := by
 intro h0
 rw [List.length_drop] at h0
 obtain ⟨b, o, e, hb, hr⟩ := h (by omega)
 subst e
 refine ⟨b, o + i, ?_, hb, fun j z hj => ?_⟩
 ·show some (if c = i then _ else _) = _
  rw [if_neg (by omega)]; simp [Addr.add]
 ·rw [List.getElem?_drop] at hj
  rw [Nat.add_assoc]; exact hr _ z hj
theorem Sees.head {α : Type} {enc : α → Value} {w : World} {F : List Nat} {A : Option Addr} {xs : List α} (h : Sees enc w F A xs) (k : Nat) : Sees enc w F A (xs.take k) := by
 intro h0
 obtain ⟨b, o, e, hb, hr⟩ := h (by rw [List.length_take] at h0; omega)
 refine ⟨b, o, e, hb, fun j z hj => hr j z ?_⟩
 rw [List.getElem?_take] at hj
 split at hj
 ·exact hj
 ·cases hj
theorem own_cap {size m c : Nat} {A : Option Addr} {xs : List Value} {T : TypeId} {F : List Nat} {L : List Ent} (H : Heap w0 F L W) (j : Nat) (hj : L[j]? = some (ownN size (.slice A m c) m xs T)) : m ≤ c := by
 rcases (H.own_get j hj).2 with ⟨e, h0⟩ | ⟨g, cap, cur, e, _, _, h, _⟩
 ·injection e with _ _ e; omega
 ·injection e with _ _ e; omega
theorem own_seesC {α : Type} {enc : α → Value} {size : Nat} {F : List Nat} {L : List Ent} (H : Heap w0 F L W) (j : Nat) {A : Option Addr} {n c : Nat} {xs : List α} {T : TypeId} (hj : L[j]? = some (ownN size (.slice A n c) n (xs.map enc) T)) : Sees enc W [] A xs := by
 intro h0
 obtain ⟨b, e, _, hr⟩ := H.own_seesN j hj h0
 exact ⟨b, 0, e, by simp, hr⟩
/-- what a row of the call's own reads as lies in none of the blocks that were there -/
theorem Heap.own_fresh {α : Type} {enc : α → Value} {size : Nat} {F : List Nat} {L : List Ent} (H : Heap w0 [] L W) (j : Nat) {A : Option Addr} {n c : Nat} {xs : List α} {T : TypeId} (hj : L[j]? = some (ownN size (.slice A n c) n (xs.map enc) T)) (hF : ∀ i ∈ F, i < w0.heap.size) : Sees enc W F A xs := by
 intro h0
 obtain ⟨b, e, hb, hr⟩ := H.own_seesN j hj h0
 refine ⟨b, 0, e, fun hm => ?_, hr⟩
 have h1 := H.own b (mem_ids.2 ⟨_, List.mem_of_getElem? hj, hb⟩)
 have h2 := hF b hm
 simp at h1
 omega
end
section
variable {P : Program} {ops : Array Oper} {rest : List Oper} {n : Sz} {k k2 : Nat} {f : Nat → Value} {W w0 : World} {F : List Nat} {L : List Ent} {Q : Exit → Act → World → Prop} {ty ty2 : TypeId} {pos pos2 : String} {af af2 : Array Edge} {g : Option (Nat × Bool)} {x y s : Operand} {v u : Value} {t e : TypeId}
theorem owns_any {W : World} {lo : Nat} {T : TypeId} {size : Nat} {v : Value} {n : Nat} {xs : List Value} (h : W.ownsRow lo T size v n xs) : W.ownsRow 0 T size v n xs :=
 ⟨h.1, h.2.imp id fun ⟨g, cap, cur, e, hg, r⟩ => ⟨g, cap, cur, e, Nat.zero_le _, r⟩⟩
/-- append(s, x): s is full, and only read -/
theorem s_apF {α : Type} {enc : α → Value} {z0 : Value} {bytes m : Nat} {A : Option Addr} {xs : List α} {z : α} (H : Heap w0 F L W) (hS : Sees enc W [] A xs) (hl : xs.length = m)
  (hw : Region.wanted ⟨some k, .buildSlice t 1 #[(0, x)], ty, pos, af, g⟩ (yl n f ops) = true) (hx : ev n f x = enc z) (h1 : (enc z).oneCell' = true)
  (hw2 : Region.wanted ⟨some k2, .call ⟨.builtin .append, #[s, .tmp k], #[t, t]⟩, ty2, pos2, af2, g⟩ (yl n (upd f k (.slice (some ⟨W.heap.size, 0, none⟩) 1 1)) ops) = true) (hs : ev n (upd f k (.slice (some ⟨W.heap.size, 0, none⟩) 1 1)) s = .slice A m m) (hk : Nat.blt k n.n = true)
  (hm : m + 1 ≤ 100000000000 ∧ (m + 1) * bytes ≤ 140737488355328) (ht : P.underlying t = some (.slice e)) (hi : Inf P e z0 1 bytes) (hz : z0.oneCell' = true)
  (h : ∀ q A' c W', Heap w0 F (ownN 1 (.slice A' (m + 1) c) (m + 1) ((xs ++ [z]).map enc) e :: L) W' → SL P ops Q rest n (upd (upd f k q) k2 (.slice A' (m + 1) c)) W') :
  SL P ops Q (⟨some k, .buildSlice t 1 #[(0, x)], ty, pos, af, g⟩ :: ⟨some k2, .call ⟨.builtin .append, #[s, .tmp k], #[t, t]⟩, ty2, pos2, af2, g⟩ :: rest) n f W := by
 obtain ⟨i, hi0, hz0, hsz, hby⟩ := hi.ex
 have hu := one_cells h1
 have r1 : (Instr.buildSlice t 1 #[(0, enc z)]).run P W = .ok (.slice (some ⟨W.heap.size, 0, none⟩) 1 1) (W.alloc (.cells [enc z].toArray e)) := by
  have hrg : Array.range 1 = #[0] := rfl
  simp [Instr.buildSlice, run_underlying ht, Go.sizeOf, typeInfo, hi0, hsz, zeroValue, hz0, one_cells hz, Instr.fill, hu, newRow, hrg]
 refine s_run rfl hw (W' := W.alloc (.cells [enc z].toArray e)) (v := .slice (some ⟨W.heap.size, 0, none⟩) 1 1) (by simp only [execOp, List.map_toArray, List.map_cons, List.map_nil, hx, Sem.run_bind, r1, Result.andThen_ok]; rfl) ?_
 have H2 := H.alloc [enc z] e
 have hnew : ∀ q u, [enc z][q]? = some u → (W.alloc (.cells [enc z].toArray e)).cell? ((⟨W.heap.size, 0, none⟩ : Addr).add q) = some u := fun q u hq => by
  rw [add_plain]
  have hc := (Heap.blk_get H2 0 rfl)
  rw [Joins.cell_of_block hc]
  simpa using hq
 have hO : Only [] W (W.alloc (.cells [enc z].toArray e)) := Only.of_below ((Below.refl _ _).alloc (Nat.le_refl _) _) _
 obtain ⟨v', W2, hr, o1, o2⟩ : ∃ v' W2, (Builtin.append_ #[t, t] ty2 #[.slice A m m, .slice (some ⟨W.heap.size, 0, none⟩) 1 1]).run P (W.alloc (.cells [enc z].toArray e)) = .ok v' W2 ∧ W2.ownsRow (W.alloc (.cells [enc z].toArray e)).heap.size e 1 v' (m + 1) (xs.map enc ++ [enc z]) ∧ (W.alloc (.cells [enc z].toArray e)).grownBy W2 none := by
  cases A with
  | none =>
   have h0 : xs.length = 0 := by
    rcases Nat.eq_zero_or_pos xs.length with h0 | h0
    ·exact h0
    ·obtain ⟨q, r, e0, _⟩ := hS (by omega); cases e0
   obtain rfl : xs = [] := List.eq_nil_of_length_eq_zero h0
   obtain rfl : m = 0 := by simpa using hl.symm
   obtain ⟨v2, W2, hr2, h22, h23, _⟩ := run_append_own (P := P) (W.alloc (.cells [enc z].toArray e)) (W.alloc (.cells [enc z].toArray e)).heap.size t ty2 e i z0 1 bytes ht hi0 hz0 hsz hby (by simp [one_cells hz]) (by omega) (.slice none 0 0) 0 [] (World.ownsRow_nil _ _ e 1) ⟨W.heap.size, 0, none⟩ 1 1 [enc z] rfl hnew (by simpa using h1) (by unfold maxLen; omega) hm.2 (Nat.le_refl _)
   exact ⟨v2, W2, hr2, by simpa using h22, h23⟩
  | some p =>
   have holds : ∀ j u, (xs.map enc)[j]? = some u → (W.alloc (.cells [enc z].toArray e)).cell? (p.add j) = some u := fun j u hj => by
    rw [List.getElem?_map] at hj
    cases hzj : xs[j]? with
    | none => rw [hzj] at hj; simp at hj
    | some x' =>
     rw [hzj] at hj
     obtain ⟨b, o, e0, hb, hr⟩ := hS (by have := (List.getElem?_eq_some_iff.1 hzj).1; omega)
     injection e0 with e0
     subst e0
     rw [add_plain, (hr.later hO (by simp)) j x' hzj]; simpa using hj
   obtain ⟨v2, W2, hr2, h22, h23⟩ := run_append_arg_grows (P := P) (w := W.alloc (.cells [enc z].toArray e)) t ty2 e i z0 1 bytes ht hi0 hz0 hsz hby (by simp [one_cells hz]) (by omega) p m m (xs.map enc) (by simp [hl]) holds ⟨W.heap.size, 0, none⟩ 1 1 [enc z] rfl hnew (by omega) (by unfold maxLen; omega) hm.2
   exact ⟨v2, W2, hr2, h22, h23⟩
 obtain ⟨A', c', rfl⟩ : ∃ A c, v' = .slice A (m + 1) c := by
  rcases o1.2 with ⟨rfl, h0⟩ | ⟨g, cap, cur, rfl, _⟩
  ·omega
  ·exact ⟨_, cap, rfl⟩
 have H3 : Heap w0 F (ownN 1 (.slice A' (m + 1) c') (m + 1) ((xs ++ [z]).map enc) e :: L) W2 := by
  refine (H.same hO).more (A := [ownN 1 (.slice A' (m + 1) c') (m + 1) ((xs ++ [z]).map enc) e]) ⟨?_, ?_, ?_, ?_⟩
  ·intro E hE; rw [List.mem_singleton.1 hE]
   have := owns_any o1
   show W2.ownsRow 0 e 1 _ _ _
   rw [List.map_append]; exact this
  ·simp only [ids, ownN, List.flatMap_cons, List.flatMap_nil, List.append_nil]; exact nodup_opt _
  ·intro i hi
   simp only [ids, ownN, List.flatMap_cons, List.flatMap_nil, List.append_nil, Option.mem_toList] at hi
   exact .inr (o1.lt i hi).1
  ·exact ⟨o2.os, o2.tape, o2.output, o2.size, fun k hk hf => o2.block k hk (by simp)⟩
 refine s_run rfl hw2 (W' := W2) (v := .slice A' (m + 1) c') ?_ (h _ A' c' W2 H3)
 have hkv : ev n (upd f k (.slice (some ⟨W.heap.size, 0, none⟩) 1 1)) (.tmp k) = .slice (some ⟨W.heap.size, 0, none⟩) 1 1 := by
  simp [ev, hk, upd]
 simp only [execOp, resolve, invoke, builtin, List.map_toArray, List.map_cons, List.map_nil, hs, hkv, Sem.run_bind, Sem.run_pure, Result.andThen_ok, hr]
end
end Go.Proofs.Ytpbimgopiammaaa
end

section
namespace Go.Proofs.Ytpbimgopiammaaa
open Go.RowKit Go.MapKept
open Go.Maps (Keyed)
open Go.ChangeMaps (setBlock)
section
variable {P : Program} {kt : TypeId} {α β : Type}
/-- a map that lies where nothing changes -/
structure MapAt (C : KC P kt α) (venc : β → Value) (w0 : World) (F : List Nat) (b : Nat) (es : Array MapEntry) (clock : Nat) (l : List (α × β)) : Prop where
 hb : w0.heap[b]? = some (.map es clock)
 hk : MapOk C venc es clock l
 hF : b ∉ F
theorem MapAt.now {C : KC P kt α} {venc : β → Value} {w0 W : World} {F : List Nat} {b : Nat} {es : Array MapEntry} {clock : Nat} {l : List (α × β)} (M : MapAt C venc w0 F b es clock l) (hO : Only F w0 W) : W.heap[b]? = some (.map es clock) :=
 (hO.block b (arr_lt M.hb) M.hF).trans M.hb
theorem MapAt.nd {C : KC P kt α} {venc : β → Value} {w0 : World} {F : List Nat} {b : Nat} {es : Array MapEntry} {clock : Nat} {l : List (α × β)} (M : MapAt C venc w0 F b es clock l) : (l.map Prod.fst).Nodup := M.hk.nd
theorem Ents.map_at [DecidableEq α] {C : KC P kt α} {venc : β → Value} {w : World} {A : List Ent} {b : Nat} {l : List (α × β)} (hE : Ents A w) (j : Nat) (hj : A[j]? = some (mp C venc b l)) : ∃ es clock, MapAt C venc w [] b es clock l := by
 obtain ⟨es, clock, h1, h2⟩ := (Heap.start hE).mp_get j hj
 exact ⟨es, clock, h1, h2, by simp⟩
/-- the iterator of a map that is only read -/
def mri (C : KC P kt α) (venc : β → Value) (es : Array MapEntry) (clock b r : Nat) (lb : List ((α × β) × Bool)) (cur : Option (α × β)) : Ent :=
 ⟨[r], fun W => ∃ since seen c0, W.heap[r]? = some (.mapIter (some b) since seen c0) ∧ IterOk C venc es clock since seen c0 lb ∧
   ∀ p, cur = some p → ∃ (e : MapEntry) (seen' : Array Nat), seen = seen'.push e.born ∧ c0 = clock ∧ e ∈ es.toList ∧ e.key = C.enc p.1 ∧ e.val = venc p.2, by
  rintro W ⟨since, seen, c0, hr, _⟩ i hi
  rw [List.mem_singleton.1 hi]; exact arr_lt hr, by
  rintro W W' h ⟨since, seen, c0, hr, hk⟩
  exact ⟨since, seen, c0, by rw [h r (by simp)]; exact hr, hk⟩⟩
end
section
variable {P : Program} {ops : Array Oper} {rest : List Oper} {n : Sz} {k : Nat} {f : Nat → Value} {W w0 : World} {F : List Nat} {L : List Ent} {Q : Exit → Act → World → Prop} {ty : TypeId} {pos : String} {af : Array Edge} {g : Option (Nat × Bool)} {x y u : Operand} {t e kt : TypeId} {v z : Value} {dst : Option Tmp}
variable {α β : Type} [DecidableEq α] {C : KC P kt α} {venc : β → Value} {b r : Nat} {l : List (α × β)} {lb : List ((α × β) × Bool)} {cur : Option (α × β)} {a : α} {q : β} {es : Array MapEntry} {clock : Nat}
theorem Heap.mri_get (H : Heap w0 F L W) (j : Nat) (hj : L[j]? = some (mri C venc es clock b r lb cur)) : ∃ since seen c0, W.heap[r]? = some (.mapIter (some b) since seen c0) ∧ IterOk C venc es clock since seen c0 lb ∧
   ∀ p, cur = some p → ∃ (e : MapEntry) (seen' : Array Nat), seen = seen'.push e.born ∧ c0 = clock ∧ e ∈ es.toList ∧ e.key = C.enc p.1 ∧ e.val = venc p.2 := H.ok _ (List.mem_of_getElem? hj)
theorem s_rmR (M : MapAt C venc w0 F b es clock l) (H : Heap w0 F L W) (hw : Region.wanted ⟨some k, .range t x, ty, pos, af, g⟩ (yl n f ops) = true) (hx : ev n f x = .map (some b)) (ht : P.underlying t = some (.map kt e))
  (h : ∀ r W', Heap w0 F (mri C venc es clock b r (l.map fun p => (p, true)) none :: L) W' → SL P ops Q rest n (upd f k (.pointer (some ⟨r, 0, none⟩))) W') : SL P ops Q (⟨some k, .range t x, ty, pos, af, g⟩ :: rest) n f W := by
 have hb := M.now H.only
 have hrun := run_range_map (P := P) W t kt e b es clock ht hb
 refine s_run rfl hw (W' := W.alloc (.mapIter (some b) clock #[] clock)) (by simp only [execOp, hx, Sem.run_bind, hrun, Result.andThen_ok, Sem.run_pure]) (h W.heap.size _ (H.more (A := [mri C venc es clock b W.heap.size (l.map fun p => (p, true)) none]) ⟨?_, ?_, ?_, ?_⟩))
 ·intro E hE
  rw [List.mem_singleton.1 hE]
  exact ⟨clock, #[], clock, (MapKept.heap_alloc W _).1, IterOk.start M.hk, fun p hp => by cases hp⟩
 ·simp [ids, mri]
 ·intro i hi
  simp [ids, mri] at hi
  exact .inr (by omega)
 ·exact (Only.of_below ((Below.refl _ _).alloc (Nat.le_refl _) _) _)
theorem s_nx0R (M : MapAt C venc w0 F b es clock l) (H : Heap w0 F L W) (j : Nat) (hl : mleft lb = []) (hw : Region.wanted ⟨some k, .next x false, ty, pos, af, g⟩ (yl n f ops) = true) (hx : ev n f x = .pointer (some ⟨r, 0, none⟩)) (hj : L[j]? = some (mri C venc es clock b r lb cur))
  (h : SL P ops Q rest n (upd f k (.tuple [.bool false].toArray)) W) : SL P ops Q (⟨some k, .next x false, ty, pos, af, g⟩ :: rest) n f W := by
 obtain ⟨since, seen, c0, hr, hk, _⟩ := H.mri_get j hj
 rcases hk.next (M.now H.only) hr ty with ⟨_, hrun⟩ | ⟨hn, _⟩
 ·exact s_run rfl hw (by simp only [execOp, hx, Sem.run_bind, hrun, Result.andThen_ok, Sem.run_pure]) h
 ·exact absurd hl hn
theorem s_nx1R (M : MapAt C venc w0 F b es clock l) (H : Heap w0 F L W) (j : Nat) (hl : mleft lb ≠ []) (hw : Region.wanted ⟨some k, .next x false, ty, pos, af, g⟩ (yl n f ops) = true) (hx : ev n f x = .pointer (some ⟨r, 0, none⟩)) (hj : L[j]? = some (mri C venc es clock b r lb cur))
  (h : ∀ i p W', lb[i]? = some (p, true) → C.Gd p.1 → Heap w0 F (L.set j (mri C venc es clock b r (lb.set i (p, false)) (some p))) W' → SL P ops Q rest n (upd f k (.tuple [.bool true, C.enc p.1, venc p.2].toArray)) W') : SL P ops Q (⟨some k, .next x false, ty, pos, af, g⟩ :: rest) n f W := by
 obtain ⟨since, seen, c0, hr, hk, _⟩ := H.mri_get j hj
 rcases hk.next (M.now H.only) hr ty with ⟨hn, _⟩ | ⟨_, i, p, e0, w1, hal, hp, hem, hkey, hval, hrun, hk'⟩
 ·exact absurd hn hl
 ·have hr1 : w1.heap[r]? = some (.mapIter (some b) since seen c0) := by rcases hal with rfl | rfl <;> exact hr
  have ho : Only [] W w1 := by
   rcases hal with rfl | rfl
   ·exact Only.refl _ _
   ·exact ⟨rfl, rfl, rfl, Nat.le_refl _, fun _ _ _ => rfl⟩
  have gp : C.Gd p.1 := hk.ok.gd p (List.mem_map.2 ⟨(p, true), List.mem_of_getElem? hp, rfl⟩)
  refine s_run rfl hw (W' := setBlock w1 r (.mapIter (some b) since (seen.push e0.born) clock)) (by simp only [execOp, hx, Sem.run_bind, hrun, Result.andThen_ok, Sem.run_pure]) (h i p _ hp gp (H.at j hj (F' := [r]) ⟨?_, ?_, ?_, ?_⟩ (by simp [mri])))
  ·intro E hE
   rw [List.mem_singleton.1 hE]
   exact ⟨since, seen.push e0.born, clock, set_at w1 r _ _ hr1, hk', fun p' hp' => by
    injection hp' with hp'
    subst hp'
    exact ⟨e0, seen, rfl, rfl, hem, hkey, hval⟩⟩
  ·simp [ids, mri]
  ·intro i hi
   simp [ids, mri] at hi
   exact .inl (by simp [hi])
  ·exact (ho.mono (by simp)).trans (only_sb w1 r _)
theorem r_enR {p : α × β} (M : MapAt C venc w0 F b es clock l) (H : Heap w0 F L W) (j : Nat) (hj : L[j]? = some (mri C venc es clock b r lb (some p))) (hx : ev n f x = .pointer (some ⟨r, 0, none⟩)) : (execOp (ev n f) ⟨dst, .entry x, ty, pos, af, g⟩).run P W = .ok (.value (.tuple [C.enc p.1, venc p.2].toArray)) W := by
 obtain ⟨since, seen, c0, hr, hk, hc⟩ := H.mri_get j hj
 obtain ⟨e0, seen', rfl, rfl, hem, hkey, hval⟩ := hc p rfl
 have hrun := run_entry_at (P := P) W r b since seen' es c0 e0 hr (M.now H.only) hem hk.ok.bn
 rw [hkey, hval] at hrun
 simp only [execOp, hx, Sem.run_bind, hrun, Result.andThen_ok, Sem.run_pure]
end
end Go.Proofs.Ytpbimgopiammaaa
end

section
namespace Go.Proofs.Ytpbimgopiammaaa
open Go.RowKit
set_option maxRecDepth 100000
set_option maxHeartbeats 2000000
theorem oLoose (p b1 b2 : Nat) (A : Option Addr) (c : Nat) (s : Ck) (w : World) (hE : Ents (ckE p b1 b2 A c s) w) (hm : s.lines.length ≤ 100000) :
  Calls Try.prog 21 [ptr p].toArray w fun e w' => ∃ (A' : Option Addr) (c' : Nat), e = .returned (.slice A' s.lines.length c') ∧ Heap w [] [ownN 1 (.slice A' s.lines.length c') s.lines.length ((srt (s.lines.map Prod.fst)).map (Value.int .i64)) 3] w' := by
 have HR := Heap.start hE
 obtain ⟨es, clock, M⟩ := hE.map_at 1 rfl
 have H := Heap.nil w
 unfold ckE at HR
 refine k_in (N := 21) Try.func21 rfl rfl rfl ?_
 refine k_sg ?_
 refine s_run rfl rfl (ras rfl) ?_
 refine k_nc ?_
 refine k_sg ?_
 refine s_run rfl rfl (ras rfl) ?_
 refine k_nc ?_
 refine k_seq ?_
 refine k_sg ?_
 refine s_run rfl rfl (rmp rfl) ?_
 refine s_run rfl rfl (r_nc rfl) ?_
 refine s_run rfl rfl (r_fa0 rfl fo90_0) ?_
 refine s_run rfl rfl (r_lo (HR.same H.only) 0 rfl rfl rfl ag87) ?_
 refine s_rmR M H rfl rfl Try.underlying87 ?_
 intro r _ H'; clear H; have H := H'; clear H'
 refine k_nc ?_
 refine k_b ?_
 replace H := H.own_nil 1 3
 refine k_loop (fun z f W => ∃ (lb : List ((Int × Int) × Bool)) (cur : Option (Int × Int)) (OA : Option Addr) (co : Nat) (out : List Int), z = (mleft lb).length ∧ lb.map (·.1) = s.lines ∧ (out ++ (mleft lb).map Prod.fst).Perm (s.lines.map Prod.fst) ∧ f 3 = .slice OA out.length co ∧ f 9 = ptr r ∧ Heap w [] [ownN 1 (.slice OA out.length co) out.length (out.map (Value.int .i64)) 3, mri kS (Value.int .i64) es clock b1 r lb cur] W) _ ⟨s.lines.map fun p => (p, true), none, none, 0, [], rfl, iter_start _, by rw [mleft_all]; exact List.Perm.refl _, rfl, rfl, H⟩ ?_
 clear H
 rintro z f W ⟨lb, cur, OA, co, out, rfl, hlb, hpm, f3, f9, H⟩
 have hol : out.length ≤ 100000 := by have := hpm.length_eq; simp at this; omega
 obtain ⟨f, rfl⟩ := live2 f3 f9
 clear f3 f9
 by_cases hl : mleft lb = []
 ·refine k_sg ?_
  refine s_nx0R M H 1 (hl) rfl rfl rfl ?_
  refine s_run rfl rfl (r_ext (v := .bool _) rfl rfl) ?_
  refine k_nc ?_
  refine k_seq ?_
  refine k_f rfl ?_
  refine k_exit ?_
  refine c_exit ?_
  refine c_exit ?_
  refine b_hit ?_
  refine c_norm ?_
  refine k_seq ?_
  rw [hl, List.map_nil, List.append_nil] at hpm
  have hlen : out.length = s.lines.length := by have := hpm.length_eq; simpa using this
  have hS := fun {W : World} hE => gSort OA out.length co out 3 W hE (by omega)
  refine k_rg ?_
  refine s_run rfl rfl (rms rfl) ?_
  refine s_call rfl (hS (H.one1 0 rfl)) (ca43 rfl) ?_
  rintro e W1 ⟨rfl, H'⟩
  refine ⟨_, rfl, ?_⟩
  have H := H.at 0 rfl H' (fun i hi => by simpa [ids] using hi); clear H'
  refine k_nc ?_
  refine k_sg ?_
  refine s_run rfl rfl (rms rfl) ?_
  refine s_run rfl rfl (ras rfl) ?_
  refine k_nc ?_
  refine k_ret ?_
  refine fin1r (v := .slice _ _ _) rfl rfl ?_
  rw [srt_eq hpm] at H
  rw [hlen] at H
  exact ⟨OA, co, by rw [hlen], (H : Heap w [] ([_] ++ [_]) _).drops⟩
 ·refine k_sg ?_
  refine s_nx1R M H 1 (hl) rfl rfl rfl ?_
  intro j q _ hq gq H'; simp only [List.set_cons_zero, List.set_cons_succ, List.take_succ_cons, List.take_zero, List.drop_succ_cons, List.drop_zero, List.cons_append, List.nil_append, List.append_nil, List.length_cons, List.length_nil, Nat.reduceAdd] at H'; clear H; have H := H'; clear H'
  refine s_run rfl rfl (r_ext (v := .bool _) rfl rfl) ?_
  refine k_nc ?_
  refine k_seq ?_
  refine k_t rfl ?_
  refine k_skip ?_
  refine c_norm ?_
  refine k_b ?_
  refine k_sg ?_
  refine s_run rfl rfl (r_enR M H 1 rfl rfl) ?_
  refine s_run rfl rfl (r_ext (v := .int _ _) rfl rfl) ?_
  refine s_run rfl rfl (rai rfl) ?_
  refine k_nc ?_
  refine k_rg ?_
  refine s_run rfl rfl (rms rfl) ?_
  refine s_run rfl rfl (rmi rfl) ?_
  refine s_app1 (enc := (Value.int .i64)) H 0 rfl rfl rfl rfl rfl rfl rfl (by omega) Try.underlying22 inf3 rfl ?_
  intro _ An cn _ H'; simp only [List.set_cons_zero, List.set_cons_succ, List.take_succ_cons, List.take_zero, List.drop_succ_cons, List.drop_zero, List.cons_append, List.nil_append, List.append_nil, List.length_cons, List.length_nil, Nat.reduceAdd] at H'; clear H; have H := H'; clear H'
  refine s_run rfl rfl (ras rfl) ?_
  refine k_nil ?_
  refine b_norm ?_
  refine c_round ?_
  have hfs := mset_fst hq
  have hml := mleft_set_len hq
  refine ⟨_, _, ?_, rfl, lb.set j (q, false), some q, An, cn, out ++ [q.1], rfl, by rw [hfs]; exact hlb, ?_, by rw [List.length_append]; rfl, rfl, by rw [List.length_append]; exact H⟩
  ·omega
  ·have hp := (mleft_set lb j q hq).map Prod.fst
   rw [List.append_assoc]
   exact (List.Perm.append_left out hp.symm).trans hpm
end Go.Proofs.Ytpbimgopiammaaa
end

section
namespace Go.Proofs.Ytpbimgopiammaaa
/-- a number, in its place, once -/
def rIns : List Int → Int → List Int
 | [], x => [x]
 | y :: l, x => if y < x then y :: rIns l x else if y = x then y :: l else x :: y :: l
theorem rIns_mem : ∀ (l : List Int) (x z : Int), z ∈ rIns l x ↔ z = x ∨ z ∈ l
 | [], x, z => by simp [rIns]
 | y :: l, x, z => by
  unfold rIns
  split
  ·rw [List.mem_cons, rIns_mem l x z, List.mem_cons]
   constructor
   ·rintro (h | h | h)
    ·exact .inr (.inl h)
    ·exact .inl h
    ·exact .inr (.inr h)
   ·rintro (h | h | h)
    ·exact .inr (.inl h)
    ·exact .inl h
    ·exact .inr (.inr h)
  ·split
   ·rename_i e
    subst e
    constructor
    ·exact .inr
    ·rintro (h | h)
     ·exact List.mem_cons.2 (.inl h)
     ·exact h
   ·rw [List.mem_cons]
theorem rIns_rise : ∀ (l : List Int) (x : Int), l.Pairwise (· < ·) → (rIns l x).Pairwise (· < ·)
 | [], x, _ => by simp [rIns]
 | y :: l, x, h => by
  obtain ⟨h1, h2⟩ := List.pairwise_cons.1 h
  unfold rIns
  split
  ·refine List.pairwise_cons.2 ⟨fun z hz => ?_, rIns_rise l x h2⟩
   rcases (rIns_mem l x z).1 hz with rfl | hz
   ·assumption
   ·exact h1 z hz
  ·split
   ·exact h
   ·refine List.pairwise_cons.2 ⟨fun z hz => ?_, h⟩
    rcases List.mem_cons.1 hz with rfl | hz
    ·omega
    ·have := h1 z hz; omega
/-- two rows that rise and have the same numbers are one -/
theorem rise_eq : ∀ {a b : List Int}, a.Pairwise (· < ·) → b.Pairwise (· < ·) → (∀ z, z ∈ a ↔ z ∈ b) → a = b
 | [], [], _, _, _ => rfl
 | [], y :: b, _, _, h => by have := (h y).2 (by simp); simp at this
 | x :: a, [], _, _, h => by have := (h x).1 (by simp); simp at this
 | x :: a, y :: b, ha, hb, h => by
  obtain ⟨a1, a2⟩ := List.pairwise_cons.1 ha
  obtain ⟨b1, b2⟩ := List.pairwise_cons.1 hb
  have e : x = y := by
   rcases List.mem_cons.1 ((h x).1 (by simp)) with e | hx
   ·exact e
   ·rcases List.mem_cons.1 ((h y).2 (by simp)) with e | hy
    ·exact e.symm
    ·have := a1 y hy; have := b1 x hx; omega
  subst e
  rw [rise_eq a2 b2 fun z => ⟨fun hz => by
   rcases List.mem_cons.1 ((h z).1 (by simp [hz])) with e | h2
   ·have := a1 z hz; omega
   ·exact h2, fun hz => by
   rcases List.mem_cons.1 ((h z).2 (by simp [hz])) with e | h2
   ·have := b1 z hz; omega
   ·exact h2⟩]
theorem srt_rise {l : List Int} (h : l.Nodup) : (srt l).Pairwise (· < ·) := by
 have h1 := srt_sorted l
 have h2 : (srt l).Nodup := (srt_perm l).nodup_iff.2 h
 exact (h1.and h2).imp fun ⟨h3, h4⟩ => by omega
theorem srt_mem (l : List Int) (z : Int) : z ∈ srt l ↔ z ∈ l := (srt_perm l).mem_iff
end Go.Proofs.Ytpbimgopiammaaa
end
