/- Parts of the proof, one behind the other. -/
import Derived.DeepKeys4
import Derived.Shelf.Sort.Plain
import Derived.Shelf.Slices.In.SortNone
import Derived.Sort.OwnSortedInts
import Derived.Test.YtpbimgopiammaaaKLedgerBacka
set_option linter.unusedSimpArgs false
set_option linter.unusedVariables false
set_option linter.unusedSectionVars false
section
namespace Go.Proofs.Ytpbimgopiammaaa
open Go.RowKit Go.MapKept
open Go.Maps (Keyed)
open Go.ChangeMaps (setBlock)
section
variable {P : Program} {kt : TypeId} {α β : Type}
/-- a map -/
def mp (C : KC P kt α) (venc : β → Value) (b : Nat) (l : List (α × β)) : Ent :=
 ⟨[b], fun W => ∃ es clock, W.heap[b]? = some (.map es clock) ∧ MapOk C venc es clock l, by
  rintro W ⟨es, clock, h, _⟩ i hi
  rw [List.mem_singleton.1 hi]; exact arr_lt h, by
  rintro W W' h ⟨es, clock, hb, hk⟩
  exact ⟨es, clock, by rw [h b (by simp)]; exact hb, hk⟩⟩
/-- a map that is ranged over -/
def mi (C : KC P kt α) (venc : β → Value) (b r : Nat) (lb : List ((α × β) × Bool)) (cur : Option (α × β)) : Ent :=
 ⟨[b, r], fun W => ∃ es clock since seen c0, W.heap[b]? = some (.map es clock) ∧ W.heap[r]? = some (.mapIter (some b) since seen c0) ∧ IterOk C venc es clock since seen c0 lb ∧
   ∀ p, cur = some p → ∃ (e : MapEntry) (seen' : Array Nat), seen = seen'.push e.born ∧ c0 = clock ∧ e ∈ es.toList ∧ e.key = C.enc p.1 ∧ e.val = venc p.2, by
  rintro W ⟨es, clock, since, seen, c0, h, hr, _⟩ i hi
  rcases List.mem_cons.1 hi with rfl | hi
  ·exact arr_lt h
  ·rw [List.mem_singleton.1 hi]; exact arr_lt hr, by
  rintro W W' h ⟨es, clock, since, seen, c0, hb, hr, hk⟩
  exact ⟨es, clock, since, seen, c0, by rw [h b (by simp)]; exact hb, by rw [h r (by simp)]; exact hr, hk⟩⟩
end
theorem only_sb (W : World) (b : Nat) (o : Obj) : Only [b] W (setBlock W b o) :=
 ⟨rfl, rfl, rfl, by simp [setBlock], fun i _ hi => by
  have : b ≠ i := fun e => hi (by rw [e]; simp)
  simp [setBlock, Array.getElem?_setIfInBounds, this]⟩
theorem set_at (W : World) (b : Nat) (o o1 : Obj) (h : W.heap[b]? = some o1) : (setBlock W b o).heap[b]? = some o := by
 have := arr_lt h
 simp [setBlock, Array.getElem?_setIfInBounds, this]
theorem set_off (W : World) (b : Nat) (o : Obj) {i : Nat} (h : i ≠ b) : (setBlock W b o).heap[i]? = W.heap[i]? := by
 have : b ≠ i := fun e => h e.symm
 simp [setBlock, Array.getElem?_setIfInBounds, this]
section
variable {P : Program} {kt : TypeId} {α β : Type} [DecidableEq α] {C : KC P kt α} {venc : β → Value} {b r : Nat} {l : List (α × β)} {lb : List ((α × β) × Bool)} {cur : Option (α × β)} {W w0 : World} {F : List Nat} {L : List Ent}
theorem Heap.mp_get (H : Heap w0 F L W) (j : Nat) (hj : L[j]? = some (mp C venc b l)) : ∃ es clock, W.heap[b]? = some (.map es clock) ∧ MapOk C venc es clock l := H.ok _ (List.mem_of_getElem? hj)
theorem Heap.mi_get (H : Heap w0 F L W) (j : Nat) (hj : L[j]? = some (mi C venc b r lb cur)) : ∃ es clock since seen c0, W.heap[b]? = some (.map es clock) ∧ W.heap[r]? = some (.mapIter (some b) since seen c0) ∧ IterOk C venc es clock since seen c0 lb ∧
   ∀ p, cur = some p → ∃ (e : MapEntry) (seen' : Array Nat), seen = seen'.push e.born ∧ c0 = clock ∧ e ∈ es.toList ∧ e.key = C.enc p.1 ∧ e.val = venc p.2 := H.ok _ (List.mem_of_getElem? hj)
theorem Heap.mp_set (H : Heap w0 F L W) (j : Nat) (hj : L[j]? = some (mp C venc b l)) {es : Array MapEntry} {clock : Nat} {l' : List (α × β)} (hk : MapOk C venc es clock l') : Heap w0 F (L.set j (mp C venc b l')) (setBlock W b (.map es clock)) := by
 obtain ⟨es0, clock0, hb, _⟩ := H.mp_get j hj
 refine H.at j hj (F' := [b]) ⟨?_, by simp [ids, mp], by simp [ids, mp], only_sb W b _⟩ (by simp [mp])
 intro E hE
 rw [List.mem_singleton.1 hE]
 exact ⟨es, clock, set_at W b _ _ hb, hk⟩
theorem mi_ne (H : Heap w0 F L W) (j : Nat) (hj : L[j]? = some (mi C venc b r lb cur)) : r ≠ b := by
 obtain ⟨es, clock, since, seen, c0, hb, hr, _⟩ := H.mi_get j hj
 intro e
 rw [e, hb] at hr
 cases hr
/-- the loop is over: the map alone -/
theorem Heap.mi_done (H : Heap w0 F L W) (j : Nat) (hj : L[j]? = some (mi C venc b r lb cur)) : Heap w0 F (L.set j (mp C venc b (lb.map (·.1)))) W := by
 obtain ⟨es, clock, since, seen, c0, hb, hr, hk, _⟩ := H.mi_get j hj
 refine H.at j hj (F' := [b]) ⟨?_, by simp [ids, mp], by simp [ids, mp], Only.refl _ _⟩ (by simp [mi])
 intro E hE
 rw [List.mem_singleton.1 hE]
 exact ⟨es, clock, hb, hk.ok⟩
end
section
variable {P : Program} {ops : Array Oper} {rest : List Oper} {n : Sz} {k : Nat} {f : Nat → Value} {W W' w0 : World} {F : List Nat} {L : List Ent} {Q : Exit → Act → World → Prop} {ty : TypeId} {pos : String} {af : Array Edge} {g : Option (Nat × Bool)} {dst : Option Tmp} {x y u : Operand} {v z : Value} {t e kt : TypeId}
variable {α β : Type} [DecidableEq α] {C : KC P kt α} {venc : β → Value} {b r : Nat} {l : List (α × β)} {lb : List ((α × β) × Bool)} {cur : Option (α × β)} {a : α} {q : β}
theorem s_dv {o : Oper} (hd : o.dst = none) (hw : Region.wanted o (yl n f ops) = true) (hr : (execOp (ev n f) o).run P W = .ok (.value v) W') (h : SL P ops Q rest n f W') : SL P ops Q (o :: rest) n f W := by
 have hy : yielded ops (Fn n f).tmps = yl n f ops := funext (yl_eq n f ops)
 have hr' : (execOp (Fn n f).eval o).run P W = .ok (.value v) W' := by rw [Fn_eval]; exact hr
 refine ⟨?_, fun l0 m => ?_⟩
 ·unfold wpList
  rw [hy, if_pos hw]
  refine .inl ?_
  unfold Oper.wp
  rw [hr', Oper.upon_value, hd]
  exact h.out
 ·unfold wpListIn
  rw [hy, if_pos hw]
  refine inr_step hr' (fun d => by intro e; cases e) ?_
  rw [Oper.uponIn_value, hd]
  exact h.inr l0 m
/-- make(map[K]V) -/
theorem s_mm (C : KC P kt α) (venc : β → Value) (H : Heap w0 F L W) (hw : Region.wanted ⟨some k, .makeMap t none, ty, pos, af, g⟩ (yl n f ops) = true)
  (h : ∀ b W', Heap w0 F (mp C venc b ([] : List (α × β)) :: L) W' → SL P ops Q rest n (upd f k (.map (some b))) W') : SL P ops Q (⟨some k, .makeMap t none, ty, pos, af, g⟩ :: rest) n f W := by
 refine s_run rfl hw (W' := W.alloc (.map #[] 0)) rfl (h _ _ (H.more (A := [mp C venc W.heap.size []]) ⟨?_, by simp [ids, mp], by simp [ids, mp], ?_⟩))
 ·intro E hE
  rw [List.mem_singleton.1 hE]
  exact ⟨#[], 0, heap_alloc_new W _, MapOk.nil⟩
 ·exact Only.of_below ((Below.refl _ _).alloc (Nat.le_refl _) _) _
/-- m[a] -/
theorem r_lk (H : Heap w0 F L W) (j : Nat) (hj : L[j]? = some (mp C venc b l)) (hx : ev n f x = .map (some b)) (hy : ev n f y = C.enc a) (ga : C.Gd a) (ht : P.underlying t = some (.map kt e)) (hz : ∀ W, (zeroValue e).run P W = .ok z W) (ok : Bool) :
  (execOp (ev n f) ⟨dst, .lookup t x y ok, ty, pos, af, g⟩).run P W = .ok (.value (if ok then .tuple #[((mget l a).map venc).getD z, .bool (mget l a).isSome] else ((mget l a).map venc).getD z)) W := by
 obtain ⟨es, clock, hb, hk⟩ := H.mp_get j hj
 have h := hk.look ht (hz W) hb a ga ok
 simp only [execOp, hx, hy, Sem.run_bind, h, Result.andThen_ok, Sem.run_pure]
theorem r_lkS (H : Heap w0 F L W) (j : Nat) (hj : L[j]? = some (mp C venc b l)) (hx : ev n f x = .map (some b)) (hy : ev n f y = C.enc a) (ga : C.Gd a) (hm : mget l a = some q) (ht : P.underlying t = some (.map kt e)) (hz : ∀ W, (zeroValue e).run P W = .ok z W) (hv : venc q = v) :
  (execOp (ev n f) ⟨dst, .lookup t x y false, ty, pos, af, g⟩).run P W = .ok (.value v) W := by
 have h := r_lk (dst := dst) (ty := ty) (pos := pos) (af := af) (g := g) H j hj hx hy ga ht hz false
 rw [h, hm, ← hv]; rfl
theorem r_lkN (H : Heap w0 F L W) (j : Nat) (hj : L[j]? = some (mp C venc b l)) (hx : ev n f x = .map (some b)) (hy : ev n f y = C.enc a) (ga : C.Gd a) (hm : mget l a = none) (ht : P.underlying t = some (.map kt e)) (hz : ∀ W, (zeroValue e).run P W = .ok z W) :
  (execOp (ev n f) ⟨dst, .lookup t x y false, ty, pos, af, g⟩).run P W = .ok (.value z) W := by
 have h := r_lk (dst := dst) (ty := ty) (pos := pos) (af := af) (g := g) H j hj hx hy ga ht hz false
 rw [h, hm]; rfl
theorem r_loS (H : Heap w0 F L W) (j : Nat) (hj : L[j]? = some (mp C venc b l)) (hx : ev n f x = .map (some b)) (hy : ev n f y = C.enc a) (ga : C.Gd a) (hm : mget l a = some q) (ht : P.underlying t = some (.map kt e)) (hz : ∀ W, (zeroValue e).run P W = .ok z W) (hv : venc q = v) :
  (execOp (ev n f) ⟨dst, .lookup t x y true, ty, pos, af, g⟩).run P W = .ok (.value (.tuple [v, .bool true].toArray)) W := by
 have h := r_lk (dst := dst) (ty := ty) (pos := pos) (af := af) (g := g) H j hj hx hy ga ht hz true
 rw [h, hm, ← hv]; rfl
theorem r_loN (H : Heap w0 F L W) (j : Nat) (hj : L[j]? = some (mp C venc b l)) (hx : ev n f x = .map (some b)) (hy : ev n f y = C.enc a) (ga : C.Gd a) (hm : mget l a = none) (ht : P.underlying t = some (.map kt e)) (hz : ∀ W, (zeroValue e).run P W = .ok z W) :
  (execOp (ev n f) ⟨dst, .lookup t x y true, ty, pos, af, g⟩).run P W = .ok (.value (.tuple [z, .bool false].toArray)) W := by
 have h := r_lk (dst := dst) (ty := ty) (pos := pos) (af := af) (g := g) H j hj hx hy ga ht hz true
 rw [h, hm]; rfl
/-- m[a] = q -/
theorem s_mu (H : Heap w0 F L W) (j : Nat) (hw : Region.wanted ⟨none, .mapUpdate t x y u, ty, pos, af, g⟩ (yl n f ops) = true) (hj : L[j]? = some (mp C venc b l)) (hx : ev n f x = .map (some b)) (hy : ev n f y = C.enc a) (hu : ev n f u = venc q) (ga : C.Gd a) (ht : P.underlying t = some (.map kt e))
  (h : ∀ W', Heap w0 F (L.set j (mp C venc b (mput l a q))) W' → SL P ops Q rest n f W') : SL P ops Q (⟨none, .mapUpdate t x y u, ty, pos, af, g⟩ :: rest) n f W := by
 obtain ⟨es, clock, hb, hk⟩ := H.mp_get j hj
 obtain ⟨es', clock', hrun, hk'⟩ := hk.put ht hb a ga q
 exact s_do rfl hw (by simp only [execOp, hx, hy, hu, Sem.run_bind, hrun, Result.andThen_ok, Sem.run_pure]) (h _ (H.mp_set j hj hk'))
/-- delete(m, a) -/
theorem s_dl (H : Heap w0 F L W) (j : Nat) (hw : Region.wanted ⟨none, .call ⟨.builtin .delete, #[x, y], #[t, kt]⟩, ty, pos, af, g⟩ (yl n f ops) = true) (hj : L[j]? = some (mp C venc b l)) (hx : ev n f x = .map (some b)) (hy : ev n f y = C.enc a) (ga : C.Gd a) (ht : P.underlying t = some (.map kt e))
  (h : ∀ W', Heap w0 F (L.set j (mp C venc b (mdel l a))) W' → SL P ops Q rest n f W') : SL P ops Q (⟨none, .call ⟨.builtin .delete, #[x, y], #[t, kt]⟩, ty, pos, af, g⟩ :: rest) n f W := by
 obtain ⟨es, clock, hb, hk⟩ := H.mp_get j hj
 obtain ⟨es', hrun, hk', _⟩ := hk.del (ty := ty) ht hb a ga
 exact s_dv (v := .tuple #[]) rfl hw (by simp only [execOp, resolve, invoke, builtin, List.map_toArray, List.map_cons, List.map_nil, hx, hy, Sem.run_bind, Sem.run_pure, Result.andThen_ok, hrun]) (h _ (H.mp_set j hj hk'))
/-- range m -/
theorem s_rm (H : Heap w0 F L W) (j : Nat) (hw : Region.wanted ⟨some k, .range t x, ty, pos, af, g⟩ (yl n f ops) = true) (hx : ev n f x = .map (some b)) (hj : L[j]? = some (mp C venc b l)) (ht : P.underlying t = some (.map kt e))
  (h : ∀ r W', Heap w0 F (L.set j (mi C venc b r (l.map fun p => (p, true)) none)) W' → SL P ops Q rest n (upd f k (.pointer (some ⟨r, 0, none⟩))) W') : SL P ops Q (⟨some k, .range t x, ty, pos, af, g⟩ :: rest) n f W := by
 obtain ⟨es, clock, hb, hk⟩ := H.mp_get j hj
 have hlt := arr_lt hb
 have hrun := run_range_map (P := P) W t kt e b es clock ht hb
 refine s_run rfl hw (W' := W.alloc (.mapIter (some b) clock #[] clock)) (by simp only [execOp, hx, Sem.run_bind, hrun, Result.andThen_ok, Sem.run_pure]) (h W.heap.size _ (H.at j hj (F' := [b]) ⟨?_, ?_, ?_, ?_⟩ (by simp [mp])))
 ·intro E hE
  rw [List.mem_singleton.1 hE]
  exact ⟨es, clock, clock, #[], clock, ((MapKept.heap_alloc W _).2 b hlt).trans hb, (MapKept.heap_alloc W _).1, IterOk.start hk, fun p hp => by cases hp⟩
 ·have : b ≠ W.heap.size := by omega
  simp [ids, mi, this]
 ·intro i hi
  simp [ids, mi] at hi
  rcases hi with rfl | rfl
  ·exact .inl (by simp)
  ·exact .inr (Nat.le_refl _)
 ·exact (Only.of_below ((Below.refl _ _).alloc (Nat.le_refl _) _) _)
/-- the step: nothing is left -/
theorem s_nx0 (H : Heap w0 F L W) (j : Nat) (hl : mleft lb = []) (hw : Region.wanted ⟨some k, .next x false, ty, pos, af, g⟩ (yl n f ops) = true) (hx : ev n f x = .pointer (some ⟨r, 0, none⟩)) (hj : L[j]? = some (mi C venc b r lb cur))
  (h : SL P ops Q rest n (upd f k (.tuple [.bool false].toArray)) W) : SL P ops Q (⟨some k, .next x false, ty, pos, af, g⟩ :: rest) n f W := by
 obtain ⟨es, clock, since, seen, c0, hb, hr, hk, _⟩ := H.mi_get j hj
 rcases hk.next hb hr ty with ⟨_, hrun⟩ | ⟨hn, _⟩
 ·exact s_run rfl hw (by simp only [execOp, hx, Sem.run_bind, hrun, Result.andThen_ok, Sem.run_pure]) h
 ·exact absurd hl hn
/-- the step: one that is left, whichever -/
theorem s_nx1 (H : Heap w0 F L W) (j : Nat) (hl : mleft lb ≠ []) (hw : Region.wanted ⟨some k, .next x false, ty, pos, af, g⟩ (yl n f ops) = true) (hx : ev n f x = .pointer (some ⟨r, 0, none⟩)) (hj : L[j]? = some (mi C venc b r lb cur))
  (h : ∀ i p W', lb[i]? = some (p, true) → C.Gd p.1 → Heap w0 F (L.set j (mi C venc b r (lb.set i (p, false)) (some p))) W' → SL P ops Q rest n (upd f k (.tuple [.bool true, C.enc p.1, venc p.2].toArray)) W') : SL P ops Q (⟨some k, .next x false, ty, pos, af, g⟩ :: rest) n f W := by
 obtain ⟨es, clock, since, seen, c0, hb, hr, hk, _⟩ := H.mi_get j hj
 have hne := mi_ne H j hj
 rcases hk.next hb hr ty with ⟨hn, _⟩ | ⟨_, i, p, e0, w1, hal, hp, hem, hkey, hval, hrun, hk'⟩
 ·exact absurd hn hl
 ·have hr1 : w1.heap[r]? = some (.mapIter (some b) since seen c0) := by rcases hal with rfl | rfl <;> exact hr
  have hb1 : w1.heap[b]? = some (.map es clock) := by rcases hal with rfl | rfl <;> exact hb
  have ho : Only [] W w1 := by
   rcases hal with rfl | rfl
   ·exact Only.refl _ _
   ·exact ⟨rfl, rfl, rfl, Nat.le_refl _, fun _ _ _ => rfl⟩
  have gp : C.Gd p.1 := hk.ok.gd p (List.mem_map.2 ⟨(p, true), List.mem_of_getElem? hp, rfl⟩)
  refine s_run rfl hw (W' := setBlock w1 r (.mapIter (some b) since (seen.push e0.born) clock)) (by simp only [execOp, hx, Sem.run_bind, hrun, Result.andThen_ok, Sem.run_pure]) (h i p _ hp gp (H.at j hj (F' := [b, r]) ⟨?_, ?_, ?_, ?_⟩ (by simp [mi])))
  ·intro E hE
   rw [List.mem_singleton.1 hE]
   exact ⟨es, clock, since, seen.push e0.born, clock, (set_off w1 r _ (fun e => hne e.symm)).trans hb1, set_at w1 r _ _ hr1, hk', fun p' hp' => by
    injection hp' with hp'
    subst hp'
    exact ⟨e0, seen, rfl, rfl, hem, hkey, hval⟩⟩
  ·have : b ≠ r := fun e => hne e.symm
   simp [ids, mi, this]
  ·intro i hi
   simp [ids, mi] at hi
   rcases hi with rfl | rfl
   ·exact .inl (by simp)
   ·exact .inl (by simp)
  ·exact (ho.mono (by simp)).trans ((only_sb w1 r _).mono (by simp))
/-- the round's key and value -/
theorem r_en {p : α × β} (H : Heap w0 F L W) (j : Nat) (hj : L[j]? = some (mi C venc b r lb (some p))) (hx : ev n f x = .pointer (some ⟨r, 0, none⟩)) : (execOp (ev n f) ⟨dst, .entry x, ty, pos, af, g⟩).run P W = .ok (.value (.tuple [C.enc p.1, venc p.2].toArray)) W := by
 obtain ⟨es, clock, since, seen, c0, hb, hr, hk, hc⟩ := H.mi_get j hj
 obtain ⟨e0, seen', rfl, rfl, hem, hkey, hval⟩ := hc p rfl
 have hrun := run_entry_at (P := P) W r b since seen' es c0 e0 hr hb hem hk.ok.bn
 rw [hkey, hval] at hrun
 simp only [execOp, hx, Sem.run_bind, hrun, Result.andThen_ok, Sem.run_pure]
/-- delete(m, a) in a round -/
theorem s_di (H : Heap w0 F L W) (j : Nat) (hw : Region.wanted ⟨none, .call ⟨.builtin .delete, #[x, y], #[t, kt]⟩, ty, pos, af, g⟩ (yl n f ops) = true) (hj : L[j]? = some (mi C venc b r lb cur)) (hx : ev n f x = .map (some b)) (hy : ev n f y = C.enc a) (ga : C.Gd a) (ht : P.underlying t = some (.map kt e))
  (h : ∀ W', Heap w0 F (L.set j (mi C venc b r (lb.filter (fun x => decide (x.1.1 ≠ a))) none)) W' → SL P ops Q rest n f W') : SL P ops Q (⟨none, .call ⟨.builtin .delete, #[x, y], #[t, kt]⟩, ty, pos, af, g⟩ :: rest) n f W := by
 obtain ⟨es, clock, since, seen, c0, hb, hr, hk, _⟩ := H.mi_get j hj
 have hne := mi_ne H j hj
 obtain ⟨es', hrun, hk'⟩ := hk.del (ty := ty) ht hb a ga
 refine s_dv (v := .tuple #[]) rfl hw (W' := setBlock W b (.map es' clock)) (by simp only [execOp, resolve, invoke, builtin, List.map_toArray, List.map_cons, List.map_nil, hx, hy, Sem.run_bind, Sem.run_pure, Result.andThen_ok, hrun]) (h _ (H.at j hj (F' := [b, r]) ⟨?_, ?_, ?_, (only_sb W b _).mono (by simp)⟩ (by simp [mi])))
 ·intro E hE
  rw [List.mem_singleton.1 hE]
  exact ⟨es', clock, since, seen, c0, set_at W b _ _ hb, (set_off W b _ hne).trans hr, hk', fun p hp => by cases hp⟩
 ·have : b ≠ r := fun e => hne e.symm
  simp [ids, mi, this]
 ·intro i hi
  simp [ids, mi] at hi
  rcases hi with rfl | rfl
  ·exact .inl (by simp)
  ·exact .inl (by simp)
end
theorem zv_of {P : Program} {t : TypeId} {z : Value} {size bytes : Nat} (hi : Inf P t z size bytes) : ∀ W, (zeroValue t).run P W = .ok z W := by
 obtain ⟨i, h1, h2, _, _⟩ := hi.ex
 exact fun W => by simp [zeroValue, typeInfo, h1, h2]
/-- keys that are ints -/
def kI (P : Program) (kt : TypeId) (h : P.underlying kt = some (.int .i64)) : KC P kt Int :=
 ⟨Value.int .i64, fun a => -9223372036854775808 ≤ a ∧ a ≤ 9223372036854775807, Go.Maps.int_keyed h, fun a ha => ⟨_, Go.Maps.keyOf_int_mk h (wf_i64 ha)⟩, fun a b e => by injection e⟩
end Go.Proofs.Ytpbimgopiammaaa
end

section
namespace Go.Proofs.Ytpbimgopiammaaa
open Go.RowKit
theorem tk_snoc {α : Type} {l : List α} {k : Nat} {x : α} (h : l[k]? = some x) : l.take k ++ [x] = l.take (k + 1) := by rw [List.take_add_one, h]; rfl
theorem Heap.mi_nd {P : Program} {kt : TypeId} {α β : Type} {C : KC P kt α} {venc : β → Value} {b r : Nat} {lb : List ((α × β) × Bool)} {cur : Option (α × β)} {W w0 : World} {F : List Nat} {L : List Ent} (H : Heap w0 F L W) (j : Nat) (hj : L[j]? = some (mi C venc b r lb cur)) : ((lb.map (·.1)).map Prod.fst).Nodup := by
 obtain ⟨es, clock, since, seen, c0, hb, hr, hk, _⟩ := H.ok _ (List.mem_of_getElem? hj)
 exact hk.ok.nd
section
variable {P : Program} {n : Sz} {f : Nat → Value} {W w0 : World} {dst : Option Tmp} {ty : TypeId} {pos : String} {af : Array Edge} {g : Option (Nat × Bool)} {x y : Operand} {t t2 e : TypeId} {v : Value} {k k2 : IntKind} {a b : Int}
/-- s[lo:] of any slice -/
def sloA (A : Option Addr) (c i m : Nat) : Option Addr := A.map fun p => if c = i then p else p.add (i * m)
theorem r_sloA {A : Option Addr} {l c : Nat} {lo : Operand} {i m : Nat} (hx : ev n f x = .slice A l c) (hl : ev n f lo = .int k a) (ha : a = (i : Int)) (hi : i ≤ l) (h : P.underlying t = some (.slice e)) (hm : ∀ W, (Go.sizeOf e).run P W = .ok m W) :
  (execOp (ev n f) ⟨dst, .slice t x (some lo) none none, ty, pos, af, g⟩).run P W = .ok (.value (.slice (sloA A c i m) (l - i) (c - i))) W := by
 subst ha
 have h1 : (0 : Int) ≤ i ∧ (i : Int) ≤ l := by omega
 simp only [execOp, Instr.sliceAt, Instr.slice, Instr.sliceBounds, Instr.sliceBound, hx, hl, asIntOf, Option.map_some, Option.map_none, Sem.run_bind, run_underlying h, Result.andThen_ok, Sem.run_pure, h1, and_self, if_true, hm, Int.toNat_natCast]
 cases A with
 | none => simp [sloA]
 | some p => by_cases h2 : c = i <;> simp [sloA, h2]
theorem Sees.sloN {α : Type} {enc : α → Value} {w : World} {F : List Nat} {A : Option Addr} {xs : List α} (h : Sees enc w F A xs) {c : Nat} (m i : Nat) (hc : xs.length ≤ c * m) : Sees enc w F (sloA A c i m) (xs.drop (i * m)) := by
 intro h0
 rw [List.length_drop] at h0
 obtain ⟨b, o, e, hb, hr⟩ := h (by omega)
 subst e
 refine ⟨b, o + i * m, ?_, hb, fun j z hj => ?_⟩
 ·show some (if c = i then _ else _) = _
  rw [if_neg (by rintro rfl; omega)]; simp [Addr.add]
 ·rw [List.getElem?_drop] at hj
  rw [Nat.add_assoc]; exact hr _ z hj
theorem Sees.head {α : Type} {enc : α → Value} {w : World} {F : List Nat} {A : Option Addr} {xs : List α} (h : Sees enc w F A xs) (k : Nat) : Sees enc w F A (xs.take k) := by
 intro h0
 obtain ⟨b, o, e, hb, hr⟩ := h (by rw [List.length_take] at h0; omega)
 refine ⟨b, o, e, hb, fun j z hj => hr j z ?_⟩
 rw [List.getElem?_take] at hj
 split at hj
 ·exact hj
 ·cases hj
theorem own_cap {size m c : Nat} {A : Option Addr} {xs : List Value} {T : TypeId} {F : List Nat} {L : List Ent} (H : Heap w0 F L W) (j : Nat) (hj : L[j]? = some (ownN size (.slice A m c) m xs T)) : m ≤ c := by
 rcases (H.own_get j hj).2 with ⟨e, h0⟩ | ⟨g, cap, cur, e, _, _, h, _⟩
 ·injection e with _ _ e; omega
 ·injection e with _ _ e; omega
theorem own_seesC {α : Type} {enc : α → Value} {size : Nat} {F : List Nat} {L : List Ent} (H : Heap w0 F L W) (j : Nat) {A : Option Addr} {n c : Nat} {xs : List α} {T : TypeId} (hj : L[j]? = some (ownN size (.slice A n c) n (xs.map enc) T)) : Sees enc W [] A xs := by
 intro h0
 obtain ⟨b, e, _, hr⟩ := H.own_seesN j hj h0
 exact ⟨b, 0, e, by simp, hr⟩
/-- what a row of the call's own reads as lies in none of the blocks that were there -/
theorem Heap.own_fresh {α : Type} {enc : α → Value} {size : Nat} {F : List Nat} {L : List Ent} (H : Heap w0 [] L W) (j : Nat) {A : Option Addr} {n c : Nat} {xs : List α} {T : TypeId} (hj : L[j]? = some (ownN size (.slice A n c) n (xs.map enc) T)) (hF : ∀ i ∈ F, i < w0.heap.size) : Sees enc W F A xs := by
 intro h0
 obtain ⟨b, e, hb, hr⟩ := H.own_seesN j hj h0
 refine ⟨b, 0, e, fun hm => ?_, hr⟩
 have h1 := H.own b (mem_ids.2 ⟨_, List.mem_of_getElem? hj, hb⟩)
 have h2 := hF b hm
 simp at h1
 omega
end
section
variable {P : Program} {ops : Array Oper} {rest : List Oper} {n : Sz} {k k2 : Nat} {f : Nat → Value} {W w0 : World} {F : List Nat} {L : List Ent} {Q : Exit → Act → World → Prop} {ty ty2 : TypeId} {pos pos2 : String} {af af2 : Array Edge} {g : Option (Nat × Bool)} {x y s : Operand} {v u : Value} {t e : TypeId}
/-- a store into a block whose cells are told by a function -/
theorem s_stC (H : Heap w0 F L W) (j : Nat) {p o : Nat} {cs cs' : List Value} {T : TypeId} {c0 : Value} (hw : Region.wanted ⟨none, .store t x y, ty, pos, af, g⟩ (yl n f ops) = true) (hx : ev n f x = .pointer (some ⟨p, o, none⟩)) (hy : ev n f y = u) (hj : L[j]? = some (blk p cs T)) (hv : cs[o]? = some c0) (hcs : cs.set o u = cs') (h1 : u.oneCell' = true) (hs : ∀ W, (Go.sizeOf t).run P W = .ok 1 W)
  (h : ∀ W', Heap w0 F (L.set j (blk p cs' T)) W' → SL P ops Q rest n f W') : SL P ops Q (⟨none, .store t x y, ty, pos, af, g⟩ :: rest) n f W := by
 subst hcs
 exact s_st H j hw hx hy hj hv h1 hs h
end
end Go.Proofs.Ytpbimgopiammaaa
end

section
namespace Go.Proofs.Ytpbimgopiammaaa
open Go.RowKit Go.MapKept
open Go.Maps (Keyed)
open Go.ChangeMaps (setBlock)
theorem mset_fstG {α β : Type} {lb : List ((α × β) × Bool)} {j : Nat} {p : α × β} (h : lb[j]? = some (p, true)) : (lb.set j (p, false)).map (·.1) = lb.map (·.1) := by
 rw [List.map_set]
 apply List.ext_getElem?
 intro i
 rw [List.getElem?_set]
 by_cases e : j = i
 ·subst e
  rw [if_pos rfl, List.getElem?_map, h]
  have := (List.getElem?_eq_some_iff.1 h).1
  rw [if_pos (by simpa using this)]; rfl
 ·rw [if_neg e]
section
variable {P : Program} {kt : TypeId} {α β : Type}
/-- a map that lies where nothing changes -/
structure MapAt (C : KC P kt α) (venc : β → Value) (w0 : World) (F : List Nat) (b : Nat) (es : Array MapEntry) (clock : Nat) (l : List (α × β)) : Prop where
 hb : w0.heap[b]? = some (.map es clock)
 hk : MapOk C venc es clock l
 hF : b ∉ F
theorem MapAt.nd {C : KC P kt α} {venc : β → Value} {w0 : World} {F : List Nat} {b : Nat} {es : Array MapEntry} {clock : Nat} {l : List (α × β)} (M : MapAt C venc w0 F b es clock l) : (l.map Prod.fst).Nodup := M.hk.nd
end
section
variable {P : Program} {ops : Array Oper} {rest : List Oper} {n : Sz} {k : Nat} {f : Nat → Value} {W w0 : World} {F : List Nat} {L : List Ent} {Q : Exit → Act → World → Prop} {ty : TypeId} {pos : String} {af : Array Edge} {g : Option (Nat × Bool)} {x y u : Operand} {t e kt : TypeId} {v z : Value} {dst : Option Tmp}
variable {α β : Type} [DecidableEq α] {C : KC P kt α} {venc : β → Value} {b r : Nat} {l : List (α × β)} {lb : List ((α × β) × Bool)} {cur : Option (α × β)} {a : α} {q : β} {es : Array MapEntry} {clock : Nat}
end
end Go.Proofs.Ytpbimgopiammaaa
end

section
namespace Go.Proofs.Ytpbimgopiammaaa
theorem keyOf_pairS {P : Program} {k e0 e1 : TypeId} {q0 q1 : IntKind} (hu : P.underlying k = some (.struct (P.fieldsOf k))) (hf : (P.fieldsOf k).toList.map (fun f => (f.name != "_", f.type, f.offset)) = [(true, e0, 0), (true, e1, 1)]) (h0 : P.underlying e0 = some (.int q0)) (h1 : P.underlying e1 = some (.int q1))
  (hc : P.cellsOf k = 2) (c0 : P.cellsOf e0 = 1) (c1 : P.cellsOf e1 = 1) (hkt : P.keyType k = true) (hsz : ∃ m, P.types.size = m + 1) {a b : Int} (wa : (Lit.int q0 a).wf = true) (wb : (Lit.int q1 b).wf = true) :
  ∃ l, keyOf P k (.agg [.int q0 a, .int q1 b].toArray) = some l := by
 obtain ⟨m, hm⟩ := hsz
 unfold keyOf
 generalize P.fieldsOf k = fs at hu hf
 simp only [hu]
 rw [if_pos (by simp [hkt, Value.formed, hu, hc]), hm]
 obtain ⟨l⟩ := fs
 simp only at hf
 obtain ⟨f1, f2, rfl⟩ : ∃ f1 f2, l = [f1, f2] := by
  have := congrArg List.length hf
  simp only [List.length_map, List.length_cons, List.length_nil] at this
  rcases l with _ | ⟨f1, _ | ⟨f2, _ | ⟨f3, l⟩⟩⟩
  ·simp at this
  ·simp at this
  ·exact ⟨f1, f2, rfl⟩
  ·simp at this
 simp only [List.map_cons, List.map_nil, List.cons.injEq, Prod.mk.injEq, and_true, bne_iff_ne] at hf
 obtain ⟨⟨n1, rfl, o1⟩, n2, rfl, o2⟩ := hf
 unfold Program.keyLits
 simp only [hu, Value.cells]
 rw [if_pos ⟨by rw [hc]; rfl, by simp [n1, n2]⟩]
 simp [List.mapM_cons, o1, o2, c0, c1, Program.keyLits, h0, h1, wa, wb]
theorem agg2_inj {k0 k1 : IntKind} {a b : Int × Int} (h : Value.agg [.int k0 a.1, .int k1 a.2].toArray = Value.agg [.int k0 b.1, .int k1 b.2].toArray) : a = b := by
 obtain ⟨a1, a2⟩ := a
 obtain ⟨b1, b2⟩ := b
 simp at h
 simp [h.1, h.2]
end Go.Proofs.Ytpbimgopiammaaa
end

section
namespace Go.Proofs.Ytpbimgopiammaaa
open Go.RowKit
theorem ag3 (W : World) : (isAgg 3).run Try.prog W = .ok false W := by kernel_rfl
theorem sz3 (W : World) : (Go.sizeOf 3).run Try.prog W = .ok 1 W := by kernel_rfl
theorem ag22 (W : World) : (isAgg 22).run Try.prog W = .ok false W := by kernel_rfl
theorem ag28 (W : World) : (isAgg 28).run Try.prog W = .ok false W := by kernel_rfl
theorem sz28 (W : World) : (Go.sizeOf 28).run Try.prog W = .ok 1 W := by kernel_rfl
theorem ag29 (W : World) : (isAgg 29).run Try.prog W = .ok true W := by kernel_rfl
theorem sz29 (W : World) : (Go.sizeOf 29).run Try.prog W = .ok 4 W := by kernel_rfl
theorem ag31 (W : World) : (isAgg 31).run Try.prog W = .ok true W := by kernel_rfl
theorem sz31 (W : World) : (Go.sizeOf 31).run Try.prog W = .ok 13 W := by kernel_rfl
theorem fo31_0 (a : Addr) (W : World) : (Instr.fieldAt 31 (.pointer (some a)) 0).run Try.prog W = .ok (.pointer (some (a.add 0))) W := by kernel_rfl
theorem fo31_1 (a : Addr) (W : World) : (Instr.fieldAt 31 (.pointer (some a)) 1).run Try.prog W = .ok (.pointer (some (a.add 1))) W := by kernel_rfl
theorem fo31_2 (a : Addr) (W : World) : (Instr.fieldAt 31 (.pointer (some a)) 2).run Try.prog W = .ok (.pointer (some (a.add 5))) W := by kernel_rfl
theorem fo31_3 (a : Addr) (W : World) : (Instr.fieldAt 31 (.pointer (some a)) 3).run Try.prog W = .ok (.pointer (some (a.add 9))) W := by kernel_rfl
theorem ag36 (W : World) : (isAgg 36).run Try.prog W = .ok true W := by kernel_rfl
theorem sz36 (W : World) : (Go.sizeOf 36).run Try.prog W = .ok 5 W := by kernel_rfl
theorem fo36_0 (a : Addr) (W : World) : (Instr.fieldAt 36 (.pointer (some a)) 0).run Try.prog W = .ok (.pointer (some (a.add 0))) W := by kernel_rfl
theorem fo36_1 (a : Addr) (W : World) : (Instr.fieldAt 36 (.pointer (some a)) 1).run Try.prog W = .ok (.pointer (some (a.add 1))) W := by kernel_rfl
theorem fo36_2 (a : Addr) (W : World) : (Instr.fieldAt 36 (.pointer (some a)) 2).run Try.prog W = .ok (.pointer (some (a.add 2))) W := by kernel_rfl
theorem fo36_3 (a : Addr) (W : World) : (Instr.fieldAt 36 (.pointer (some a)) 3).run Try.prog W = .ok (.pointer (some (a.add 3))) W := by kernel_rfl
theorem fo36_4 (a : Addr) (W : World) : (Instr.fieldAt 36 (.pointer (some a)) 4).run Try.prog W = .ok (.pointer (some (a.add 4))) W := by kernel_rfl
theorem ag74 (W : World) : (isAgg 74).run Try.prog W = .ok false W := by kernel_rfl
theorem fo76_0 (a : Addr) (W : World) : (Instr.fieldAt 76 (.pointer (some a)) 0).run Try.prog W = .ok (.pointer (some (a.add 0))) W := by kernel_rfl
theorem fo76_1 (a : Addr) (W : World) : (Instr.fieldAt 76 (.pointer (some a)) 1).run Try.prog W = .ok (.pointer (some (a.add 1))) W := by kernel_rfl
theorem fo76_2 (a : Addr) (W : World) : (Instr.fieldAt 76 (.pointer (some a)) 2).run Try.prog W = .ok (.pointer (some (a.add 5))) W := by kernel_rfl
theorem fo76_3 (a : Addr) (W : World) : (Instr.fieldAt 76 (.pointer (some a)) 3).run Try.prog W = .ok (.pointer (some (a.add 9))) W := by kernel_rfl
theorem fo76_4 (a : Addr) (W : World) : (Instr.fieldAt 76 (.pointer (some a)) 4).run Try.prog W = .ok (.pointer (some (a.add 13))) W := by kernel_rfl
theorem ag86 (W : World) : (isAgg 86).run Try.prog W = .ok true W := by kernel_rfl
theorem sz86 (W : World) : (Go.sizeOf 86).run Try.prog W = .ok 2 W := by kernel_rfl
theorem fo86_0 (a : Addr) (W : World) : (Instr.fieldAt 86 (.pointer (some a)) 0).run Try.prog W = .ok (.pointer (some (a.add 0))) W := by kernel_rfl
theorem fo86_1 (a : Addr) (W : World) : (Instr.fieldAt 86 (.pointer (some a)) 1).run Try.prog W = .ok (.pointer (some (a.add 1))) W := by kernel_rfl
theorem ag100 (W : World) : (isAgg 100).run Try.prog W = .ok true W := by kernel_rfl
theorem sz100 (W : World) : (Go.sizeOf 100).run Try.prog W = .ok 3 W := by kernel_rfl
theorem fo100_0 (a : Addr) (W : World) : (Instr.fieldAt 100 (.pointer (some a)) 0).run Try.prog W = .ok (.pointer (some (a.add 0))) W := by kernel_rfl
theorem fo100_1 (a : Addr) (W : World) : (Instr.fieldAt 100 (.pointer (some a)) 1).run Try.prog W = .ok (.pointer (some (a.add 1))) W := by kernel_rfl
theorem fo100_2 (a : Addr) (W : World) : (Instr.fieldAt 100 (.pointer (some a)) 2).run Try.prog W = .ok (.pointer (some (a.add 2))) W := by kernel_rfl
theorem inf3 : Inf Try.prog 3 (.int .i64 0) 1 8 := inf_of (by kernel_rfl)
theorem inf4 : Inf Try.prog 4 (.bool false) 1 1 := inf_of (by kernel_rfl)
theorem inf31 : Inf Try.prog 31 (.agg [.slice none 0 0, .int .i64 0, .int .i64 0, .int .i64 0, .int .i64 0, .int .i64 0, .int .i64 0, .int .i64 0, .int .i64 0, .int .i64 0, .int .i64 0, .int .i64 0, .int .i64 0].toArray) 13 120 := inf_of (by kernel_rfl)
theorem inf86 : Inf Try.prog 86 (.agg [.int .i64 0, .int .i64 0].toArray) 2 16 := inf_of (by kernel_rfl)
theorem inf100 : Inf Try.prog 100 (.agg [.int .i64 0, .int .i64 0, .int .i64 0].toArray) 3 24 := inf_of (by kernel_rfl)
theorem bd76_0 (z0 : Option Nat) (W : World) : (Instr.build 76 ([(0, .map z0)] : List (Nat × Value)).toArray).run Try.prog W = .ok (.agg ([(.map z0), (.int .i64 0), (.int .i64 0), (.int .i64 0), (.int .i64 0), (.int .i64 0), (.int .i64 0), (.int .i64 0), (.int .i64 0), (.int .i64 0), (.int .i64 0), (.int .i64 0), (.int .i64 0), (.int .i64 0), (.int .i64 0), (.int .i64 0), (.int .i64 0)] : List Value).toArray) W := by kernel_rfl
theorem bd86_0_1 (z0 : Int) (z1 : Int) (W : World) : (Instr.build 86 ([(0, .int .i64 z0), (1, .int .i64 z1)] : List (Nat × Value)).toArray).run Try.prog W = .ok (.agg ([(.int .i64 z0), (.int .i64 z1)] : List Value).toArray) W := by kernel_rfl
theorem bd100_0_1_2 (z0 : Int) (z1 : Int) (z2 : Int) (W : World) : (Instr.build 100 ([(0, .int .i64 z0), (1, .int .i64 z1), (2, .int .i64 z2)] : List (Nat × Value)).toArray).run Try.prog W = .ok (.agg ([(.int .i64 z0), (.int .i64 z1), (.int .i64 z2)] : List Value).toArray) W := by kernel_rfl
theorem mixed : Try.prog.follows .mixedOrders = true := by kernel_rfl
variable {n : Nat} {f : Nat → Value} {ty : TypeId} {pos : String} {af : Array Edge} {g : Option (Nat × Bool)} {xs : Array Operand} {tys : Array TypeId} {dst : Option Tmp} {vs : List Value}
theorem ca8 {n : Sz} {f : Nat → Value} {ty : TypeId} {pos : String} {af : Array Edge} {g : Option (Nat × Bool)} {xs : Array Operand} {tys : Array TypeId} {dst : Option Tmp} {vs : List Value} (hv : xs.toList.map (ev n f) = vs) (W : World) : (execOp (ev n f) ⟨dst, .call ⟨.value (.func 8), xs, tys⟩, ty, pos, af, g⟩).run Try.prog W = .ok (.enter 8 vs.toArray) W := r_call Try.func8 (by kernel_rfl) (by kernel_rfl) hv W
theorem ca9 {n : Sz} {f : Nat → Value} {ty : TypeId} {pos : String} {af : Array Edge} {g : Option (Nat × Bool)} {xs : Array Operand} {tys : Array TypeId} {dst : Option Tmp} {vs : List Value} (hv : xs.toList.map (ev n f) = vs) (W : World) : (execOp (ev n f) ⟨dst, .call ⟨.value (.func 9), xs, tys⟩, ty, pos, af, g⟩).run Try.prog W = .ok (.enter 9 vs.toArray) W := r_call Try.func9 (by kernel_rfl) (by kernel_rfl) hv W
theorem ca10 {n : Sz} {f : Nat → Value} {ty : TypeId} {pos : String} {af : Array Edge} {g : Option (Nat × Bool)} {xs : Array Operand} {tys : Array TypeId} {dst : Option Tmp} {vs : List Value} (hv : xs.toList.map (ev n f) = vs) (W : World) : (execOp (ev n f) ⟨dst, .call ⟨.value (.func 10), xs, tys⟩, ty, pos, af, g⟩).run Try.prog W = .ok (.enter 10 vs.toArray) W := r_call Try.func10 (by kernel_rfl) (by kernel_rfl) hv W
theorem ca11 {n : Sz} {f : Nat → Value} {ty : TypeId} {pos : String} {af : Array Edge} {g : Option (Nat × Bool)} {xs : Array Operand} {tys : Array TypeId} {dst : Option Tmp} {vs : List Value} (hv : xs.toList.map (ev n f) = vs) (W : World) : (execOp (ev n f) ⟨dst, .call ⟨.value (.func 11), xs, tys⟩, ty, pos, af, g⟩).run Try.prog W = .ok (.enter 11 vs.toArray) W := r_call Try.func11 (by kernel_rfl) (by kernel_rfl) hv W
theorem ca12 {n : Sz} {f : Nat → Value} {ty : TypeId} {pos : String} {af : Array Edge} {g : Option (Nat × Bool)} {xs : Array Operand} {tys : Array TypeId} {dst : Option Tmp} {vs : List Value} (hv : xs.toList.map (ev n f) = vs) (W : World) : (execOp (ev n f) ⟨dst, .call ⟨.value (.func 12), xs, tys⟩, ty, pos, af, g⟩).run Try.prog W = .ok (.enter 12 vs.toArray) W := r_call Try.func12 (by kernel_rfl) (by kernel_rfl) hv W
theorem ca13 {n : Sz} {f : Nat → Value} {ty : TypeId} {pos : String} {af : Array Edge} {g : Option (Nat × Bool)} {xs : Array Operand} {tys : Array TypeId} {dst : Option Tmp} {vs : List Value} (hv : xs.toList.map (ev n f) = vs) (W : World) : (execOp (ev n f) ⟨dst, .call ⟨.value (.func 13), xs, tys⟩, ty, pos, af, g⟩).run Try.prog W = .ok (.enter 13 vs.toArray) W := r_call Try.func13 (by kernel_rfl) (by kernel_rfl) hv W
theorem ca14 {n : Sz} {f : Nat → Value} {ty : TypeId} {pos : String} {af : Array Edge} {g : Option (Nat × Bool)} {xs : Array Operand} {tys : Array TypeId} {dst : Option Tmp} {vs : List Value} (hv : xs.toList.map (ev n f) = vs) (W : World) : (execOp (ev n f) ⟨dst, .call ⟨.value (.func 14), xs, tys⟩, ty, pos, af, g⟩).run Try.prog W = .ok (.enter 14 vs.toArray) W := r_call Try.func14 (by kernel_rfl) (by kernel_rfl) hv W
theorem ca15 {n : Sz} {f : Nat → Value} {ty : TypeId} {pos : String} {af : Array Edge} {g : Option (Nat × Bool)} {xs : Array Operand} {tys : Array TypeId} {dst : Option Tmp} {vs : List Value} (hv : xs.toList.map (ev n f) = vs) (W : World) : (execOp (ev n f) ⟨dst, .call ⟨.value (.func 15), xs, tys⟩, ty, pos, af, g⟩).run Try.prog W = .ok (.enter 15 vs.toArray) W := r_call Try.func15 (by kernel_rfl) (by kernel_rfl) hv W
theorem ca16 {n : Sz} {f : Nat → Value} {ty : TypeId} {pos : String} {af : Array Edge} {g : Option (Nat × Bool)} {xs : Array Operand} {tys : Array TypeId} {dst : Option Tmp} {vs : List Value} (hv : xs.toList.map (ev n f) = vs) (W : World) : (execOp (ev n f) ⟨dst, .call ⟨.value (.func 16), xs, tys⟩, ty, pos, af, g⟩).run Try.prog W = .ok (.enter 16 vs.toArray) W := r_call Try.func16 (by kernel_rfl) (by kernel_rfl) hv W
theorem ca34 {n : Sz} {f : Nat → Value} {ty : TypeId} {pos : String} {af : Array Edge} {g : Option (Nat × Bool)} {xs : Array Operand} {tys : Array TypeId} {dst : Option Tmp} {vs : List Value} (hv : xs.toList.map (ev n f) = vs) (W : World) : (execOp (ev n f) ⟨dst, .call ⟨.value (.func 34), xs, tys⟩, ty, pos, af, g⟩).run Try.prog W = .ok (.enter 34 vs.toArray) W := r_call Try.func34 (by kernel_rfl) (by kernel_rfl) hv W
theorem ca35 {n : Sz} {f : Nat → Value} {ty : TypeId} {pos : String} {af : Array Edge} {g : Option (Nat × Bool)} {xs : Array Operand} {tys : Array TypeId} {dst : Option Tmp} {vs : List Value} (hv : xs.toList.map (ev n f) = vs) (W : World) : (execOp (ev n f) ⟨dst, .call ⟨.value (.func 35), xs, tys⟩, ty, pos, af, g⟩).run Try.prog W = .ok (.enter 35 vs.toArray) W := r_call Try.func35 (by kernel_rfl) (by kernel_rfl) hv W
theorem ca36 {n : Sz} {f : Nat → Value} {ty : TypeId} {pos : String} {af : Array Edge} {g : Option (Nat × Bool)} {xs : Array Operand} {tys : Array TypeId} {dst : Option Tmp} {vs : List Value} (hv : xs.toList.map (ev n f) = vs) (W : World) : (execOp (ev n f) ⟨dst, .call ⟨.value (.func 36), xs, tys⟩, ty, pos, af, g⟩).run Try.prog W = .ok (.enter 36 vs.toArray) W := r_call Try.func36 (by kernel_rfl) (by kernel_rfl) hv W
theorem ca37 {n : Sz} {f : Nat → Value} {ty : TypeId} {pos : String} {af : Array Edge} {g : Option (Nat × Bool)} {xs : Array Operand} {tys : Array TypeId} {dst : Option Tmp} {vs : List Value} (hv : xs.toList.map (ev n f) = vs) (W : World) : (execOp (ev n f) ⟨dst, .call ⟨.value (.func 37), xs, tys⟩, ty, pos, af, g⟩).run Try.prog W = .ok (.enter 37 vs.toArray) W := r_call Try.func37 (by kernel_rfl) (by kernel_rfl) hv W
theorem ca38 {n : Sz} {f : Nat → Value} {ty : TypeId} {pos : String} {af : Array Edge} {g : Option (Nat × Bool)} {xs : Array Operand} {tys : Array TypeId} {dst : Option Tmp} {vs : List Value} (hv : xs.toList.map (ev n f) = vs) (W : World) : (execOp (ev n f) ⟨dst, .call ⟨.value (.func 38), xs, tys⟩, ty, pos, af, g⟩).run Try.prog W = .ok (.enter 38 vs.toArray) W := r_call Try.func38 (by kernel_rfl) (by kernel_rfl) hv W
theorem ca39 {n : Sz} {f : Nat → Value} {ty : TypeId} {pos : String} {af : Array Edge} {g : Option (Nat × Bool)} {xs : Array Operand} {tys : Array TypeId} {dst : Option Tmp} {vs : List Value} (hv : xs.toList.map (ev n f) = vs) (W : World) : (execOp (ev n f) ⟨dst, .call ⟨.value (.func 39), xs, tys⟩, ty, pos, af, g⟩).run Try.prog W = .ok (.enter 39 vs.toArray) W := r_call Try.func39 (by kernel_rfl) (by kernel_rfl) hv W
theorem ca53 {n : Sz} {f : Nat → Value} {ty : TypeId} {pos : String} {af : Array Edge} {g : Option (Nat × Bool)} {xs : Array Operand} {tys : Array TypeId} {dst : Option Tmp} {vs : List Value} (hv : xs.toList.map (ev n f) = vs) (W : World) : (execOp (ev n f) ⟨dst, .call ⟨.value (.func 53), xs, tys⟩, ty, pos, af, g⟩).run Try.prog W = .ok (.enter 53 vs.toArray) W := r_call Try.func53 (by kernel_rfl) (by kernel_rfl) hv W
theorem ca54 {n : Sz} {f : Nat → Value} {ty : TypeId} {pos : String} {af : Array Edge} {g : Option (Nat × Bool)} {xs : Array Operand} {tys : Array TypeId} {dst : Option Tmp} {vs : List Value} (hv : xs.toList.map (ev n f) = vs) (W : World) : (execOp (ev n f) ⟨dst, .call ⟨.value (.func 54), xs, tys⟩, ty, pos, af, g⟩).run Try.prog W = .ok (.enter 54 vs.toArray) W := r_call Try.func54 (by kernel_rfl) (by kernel_rfl) hv W
end Go.Proofs.Ytpbimgopiammaaa
end

section
namespace Go.Proofs.Ytpbimgopiammaaa
open Go.RowKit

end Go.Proofs.Ytpbimgopiammaaa
end

section
namespace Go.Proofs.Ytpbimgopiammaaa
open Go.Sort Go.RowKit
set_option maxRecDepth 100000
def lays189_ren : Go.Shelf.Ren := ⟨fun | 189 => 43 | 125 => 56 | 257 => 55 | 128 => 66 | 129 => 67 | 294 => 57 | 295 => 58 | 296 => 59 | 297 => 60 | 298 => 61 | 299 => 62 | 216 => 63 | 300 => 64 | 301 => 65 | 328 => 68 | 329 => 69 | 330 => 70 | 331 => 71 | 332 => 72 | 215 => 73 | 343 => 74 | n => n, fun | 28 => 22 | 3 => 3 | 46 => 104 | 0 => 0 | 51 => 114 | 53 => 116 | 4 => 4 | 183 => 107 | 182 => 106 | 131 => 84 | 5 => 5 | 9 => 9 | 218 => 117 | 222 => 121 | 228 => 123 | 229 => 124 | n => n, fun | n => n⟩
theorem lays189 : Go.Proofs.Lays.n189 Try.prog lays189_ren := {
  mixed := by kernel_rfl
  f125 := Try.func56.trans (congrArg some (by kernel_rfl))
  f128 := Try.func66.trans (congrArg some (by kernel_rfl))
  f129 := Try.func67.trans (congrArg some (by kernel_rfl))
  f189 := Try.func43.trans (congrArg some (by kernel_rfl))
  f215 := Try.func73.trans (congrArg some (by kernel_rfl))
  f216 := Try.func63.trans (congrArg some (by kernel_rfl))
  f257 := Try.func55.trans (congrArg some (by kernel_rfl))
  f294 := Try.func57.trans (congrArg some (by kernel_rfl))
  f295 := Try.func58.trans (congrArg some (by kernel_rfl))
  f296 := Try.func59.trans (congrArg some (by kernel_rfl))
  f297 := Try.func60.trans (congrArg some (by kernel_rfl))
  f298 := Try.func61.trans (congrArg some (by kernel_rfl))
  f299 := Try.func62.trans (congrArg some (by kernel_rfl))
  f300 := Try.func64.trans (congrArg some (by kernel_rfl))
  f301 := Try.func65.trans (congrArg some (by kernel_rfl))
  f328 := Try.func68.trans (congrArg some (by kernel_rfl))
  f329 := Try.func69.trans (congrArg some (by kernel_rfl))
  f330 := Try.func70.trans (congrArg some (by kernel_rfl))
  f331 := Try.func71.trans (congrArg some (by kernel_rfl))
  f332 := Try.func72.trans (congrArg some (by kernel_rfl))
  f343 := Try.func74.trans (congrArg some (by kernel_rfl))
  t0 := Try.underlying0
  a0 := Try.isAgg0
  z0 := Try.sizeOf0
  v0 := Try.zeroValue0
  t3 := Try.underlying3
  a3 := Try.isAgg3
  z3 := Try.sizeOf3
  v3 := Try.zeroValue3
  t4 := Try.underlying4
  a4 := Try.isAgg4
  z4 := Try.sizeOf4
  v4 := Try.zeroValue4
  t5 := Try.underlying5
  a5 := Try.isAgg5
  z5 := Try.sizeOf5
  v5 := Try.zeroValue5
  t9 := Try.underlying9
  a9 := Try.isAgg9
  z9 := Try.sizeOf9
  v9 := Try.zeroValue9
  t28 := Try.underlying22
  a28 := Try.isAgg22
  z28 := Try.sizeOf22
  v28 := Try.zeroValue22
  t46 := Try.underlying104
  a46 := Try.isAgg104
  z46 := Try.sizeOf104
  v46 := Try.zeroValue104
  t51 := Try.underlying114
  a51 := Try.isAgg114
  z51 := Try.sizeOf114
  v51 := Try.zeroValue114
  t53 := Try.underlying116
  a53 := Try.isAgg116
  z53 := Try.sizeOf116
  v53 := Try.zeroValue116
  t131 := Try.underlying84
  a131 := Try.isAgg84
  z131 := Try.sizeOf84
  v131 := Try.zeroValue84
  t182 := Try.underlying106
  a182 := Try.isAgg106
  z182 := Try.sizeOf106
  v182 := Try.zeroValue106
  t183 := Try.underlying107
  a183 := Try.isAgg107
  z183 := Try.sizeOf107
  v183 := Try.zeroValue107
  t218 := Try.underlying117
  a218 := Try.isAgg117
  z218 := Try.sizeOf117
  v218 := Try.zeroValue117
  t222 := Try.underlying121
  a222 := Try.isAgg121
  z222 := Try.sizeOf121
  v222 := Try.zeroValue121
  t228 := Try.underlying123
  a228 := Try.isAgg123
  z228 := Try.sizeOf123
  v228 := Try.zeroValue123
  t229 := Try.underlying124
  a229 := Try.isAgg124
  z229 := Try.sizeOf124
  v229 := Try.zeroValue124 }
end Go.Proofs.Ytpbimgopiammaaa
end

section
namespace Go.Proofs.Ytpbimgopiammaaa
open Go.RowKit
set_option maxRecDepth 100000
set_option maxHeartbeats 2000000
abbrev ptrL (p : Nat) : Value := .pointer (some ⟨p, 0, none⟩)
theorem laidL : laidOutB Try.prog = true := by kernel_rfl
theorem keyedE : Go.Maps.Keyed Try.prog 86 := Go.Maps.Keyed.of_law (deep_law_laid laidL (m := 2) (by omega) (of_decide_eq_true (by kernel_rfl)) (by kernel_rfl) (by rw [Try.underlying86]))
def wfI (a : Int) : Prop := -9223372036854775808 ≤ a ∧ a ≤ 9223372036854775807
def kE : KC Try.prog 86 (Int × Int) :=
 ⟨fun a => .agg [.int .i64 a.1, .int .i64 a.2].toArray, fun a => wfI a.1 ∧ wfI a.2, keyedE, fun a ha => keyOf_pairS (by kernel_rfl) (by kernel_rfl) Try.underlying3 Try.underlying3 (by kernel_rfl) (by kernel_rfl) (by kernel_rfl) (by kernel_rfl) ⟨Try.prog.types.size - 1, by kernel_rfl⟩ (wf_i64 ha.1) (wf_i64 ha.2), fun a b => agg2_inj⟩
def kI2 : KC Try.prog 3 Int := kI Try.prog 3 Try.underlying3
abbrev LdL := List ((Int × Int) × Int)
/-- what one has -/
def hld : LdL → Int → Int
 | [], _ => 0
 | x :: l, m => (if x.1.1 = m then x.2 else 0) + hld l m
def upI (f : Int → Int) (k v : Int) : Int → Int := fun i => if i = k then v else f i
structure LdS where
 L : LdL
 q : Int → Int
 h : Int → Int
 pk : Int → Int
 tk : Int → Int
def ldC (b : Nat) (q h pk tk : Int → Int) : List Value :=
 [.map (some b), .int .i64 (q 0), .int .i64 (q 1), .int .i64 (q 2), .int .i64 (q 3), .int .i64 (h 0), .int .i64 (h 1), .int .i64 (h 2), .int .i64 (h 3), .int .i64 (pk 0), .int .i64 (pk 1), .int .i64 (pk 2), .int .i64 (pk 3), .int .i64 (tk 0), .int .i64 (tk 1), .int .i64 (tk 2), .int .i64 (tk 3)]
def ldE (p b : Nat) (s : LdS) : List Ent := [blk p (ldC b s.q s.h s.pk s.tk) 76, mp kE (Value.int .i64) b s.L]
section
variable {b : Nat} {q h pk tk : Int → Int} {k : Nat} {v : Int}
theorem gq (hk : k < 4) : (ldC b q h pk tk)[1 + k]? = some (.int .i64 (q (k : Int))) := by
 rcases (by omega : k = 0 ∨ k = 1 ∨ k = 2 ∨ k = 3) with rfl | rfl | rfl | rfl <;> rfl
theorem gh (hk : k < 4) : (ldC b q h pk tk)[5 + k]? = some (.int .i64 (h (k : Int))) := by
 rcases (by omega : k = 0 ∨ k = 1 ∨ k = 2 ∨ k = 3) with rfl | rfl | rfl | rfl <;> rfl
theorem gp (hk : k < 4) : (ldC b q h pk tk)[9 + k]? = some (.int .i64 (pk (k : Int))) := by
 rcases (by omega : k = 0 ∨ k = 1 ∨ k = 2 ∨ k = 3) with rfl | rfl | rfl | rfl <;> rfl
theorem gt (hk : k < 4) : (ldC b q h pk tk)[13 + k]? = some (.int .i64 (tk (k : Int))) := by
 rcases (by omega : k = 0 ∨ k = 1 ∨ k = 2 ∨ k = 3) with rfl | rfl | rfl | rfl <;> rfl
theorem sq (hk : k < 4) : (ldC b q h pk tk).set (1 + k) (.int .i64 v) = ldC b (upI q k v) h pk tk := by
 rcases (by omega : k = 0 ∨ k = 1 ∨ k = 2 ∨ k = 3) with rfl | rfl | rfl | rfl <;> rfl
theorem sh (hk : k < 4) : (ldC b q h pk tk).set (5 + k) (.int .i64 v) = ldC b q (upI h k v) pk tk := by
 rcases (by omega : k = 0 ∨ k = 1 ∨ k = 2 ∨ k = 3) with rfl | rfl | rfl | rfl <;> rfl
theorem sp (hk : k < 4) : (ldC b q h pk tk).set (9 + k) (.int .i64 v) = ldC b q h (upI pk k v) tk := by
 rcases (by omega : k = 0 ∨ k = 1 ∨ k = 2 ∨ k = 3) with rfl | rfl | rfl | rfl <;> rfl
theorem st (hk : k < 4) : (ldC b q h pk tk).set (13 + k) (.int .i64 v) = ldC b q h pk (upI tk k v) := by
 rcases (by omega : k = 0 ∨ k = 1 ∨ k = 2 ∨ k = 3) with rfl | rfl | rfl | rfl <;> rfl
end
def inM (m : Int) : Bool := decide (0 ≤ m ∧ m < 4)
theorem oRight (m : Int) (w : World) : Calls Try.prog 39 [.int .i64 m].toArray w fun e w' => e = .returned (.bool (inM m)) ∧ Only [] w w' := by
 have H := Heap.nil w
 unfold inM
 by_cases h1 : 0 ≤ m
 ·by_cases h2 : m < 4
  ·rw [decide_eq_true ⟨h1, h2⟩]
   refine k_in (N := 9) Try.func39 rfl rfl rfl ?_
   refine k_sg ?_
   refine s_run rfl rfl (rab rfl) ?_
   refine k_nc ?_
   refine k_sg ?_
   refine s_run rfl rfl (rmi rfl) ?_
   refine s_run rfl rfl (r_geqT rfl rfl (by omega)) ?_
   refine s_run rfl rfl (rmb rfl) ?_
   refine s_run rfl (g_on 5 (by kernel_rfl) rfl) (rmi rfl) ?_
   refine s_run rfl (g_on 5 (by kernel_rfl) rfl) (r_lssT rfl rfl (by omega)) ?_
   refine s_run rfl rfl (r_pkT (v := .bool _) rfl rfl) ?_
   refine s_run rfl rfl (rab rfl) ?_
   refine k_nc ?_
   refine k_ret ?_
   refine fin1r (v := .bool _) rfl rfl ?_
   exact ⟨rfl, H.only⟩
  ·rw [decide_eq_false (fun h => h2 h.2)]
   refine k_in (N := 9) Try.func39 rfl rfl rfl ?_
   refine k_sg ?_
   refine s_run rfl rfl (rab rfl) ?_
   refine k_nc ?_
   refine k_sg ?_
   refine s_run rfl rfl (rmi rfl) ?_
   refine s_run rfl rfl (r_geqT rfl rfl (by omega)) ?_
   refine s_run rfl rfl (rmb rfl) ?_
   refine s_run rfl (g_on 5 (by kernel_rfl) rfl) (rmi rfl) ?_
   refine s_run rfl (g_on 5 (by kernel_rfl) rfl) (r_lssF rfl rfl (by omega)) ?_
   refine s_run rfl rfl (r_pkT (v := .bool _) rfl rfl) ?_
   refine s_run rfl rfl (rab rfl) ?_
   refine k_nc ?_
   refine k_ret ?_
   refine fin1r (v := .bool _) rfl rfl ?_
   exact ⟨rfl, H.only⟩
 ·rw [decide_eq_false (fun h => h1 h.1)]
  refine k_in (N := 9) Try.func39 rfl rfl rfl ?_
  refine k_sg ?_
  refine s_run rfl rfl (rab rfl) ?_
  refine k_nc ?_
  refine k_sg ?_
  refine s_run rfl rfl (rmi rfl) ?_
  refine s_run rfl rfl (r_geqF rfl rfl (by omega)) ?_
  refine s_run rfl rfl (rmb rfl) ?_
  refine s_off rfl (g_off 5 (by kernel_rfl) rfl rfl) ?_
  refine s_off rfl (g_off 5 (by kernel_rfl) rfl rfl) ?_
  refine s_run rfl rfl (r_pkF (v := .bool _) rfl rfl) ?_
  refine s_run rfl rfl (rab rfl) ?_
  refine k_nc ?_
  refine k_ret ?_
  refine fin1r (v := .bool _) rfl rfl ?_
  exact ⟨rfl, H.only⟩
end Go.Proofs.Ytpbimgopiammaaa
end

section
namespace Go.Proofs.Ytpbimgopiammaaa
def LdS.take (s : LdS) (m at_ w : Int) : LdS × Int :=
 if m < 0 ∨ 4 ≤ m ∨ w < 1 ∨ 1048576 < w then (s, 1)
 else if (mget s.L (m, at_)).isSome = true then (s, 41)
 else if s.q m ≥ 0 ∧ w > s.q m - s.h m then (s, 4)
 else (⟨s.L ++ [((m, at_), w)], s.q, upI s.h m (s.h m + w), upI s.pk m (max (s.pk m) (s.h m + w)), upI s.tk m (s.tk m + w)⟩, 0)
def LdS.give (s : LdS) (m at_ : Int) : LdS × Int × Int :=
 if m < 0 ∨ 4 ≤ m then (s, 0, 1)
 else match mget s.L (m, at_) with
  | none => (s, 0, 42)
  | some n => (⟨mdel s.L (m, at_), s.q, upI s.h m (s.h m - n), s.pk, s.tk⟩, n, 0)
def LdS.pass (s : LdS) (f t at_ : Int) : LdS × Int :=
 if f < 0 ∨ 4 ≤ f ∨ t < 0 ∨ 4 ≤ t then (s, 1)
 else match mget s.L (f, at_) with
  | none => (s, 42)
  | some n => if f = t then (s, 0) else if (s.take t at_ n).2 ≠ 0 then (s, (s.take t at_ n).2) else (((s.take t at_ n).1.give f at_).1, ((s.take t at_ n).1.give f at_).2.2)
def sum2 : LdL → Int
 | [] => 0
 | x :: l => x.2 + sum2 l
def LdS.sweep (s : LdS) (live : List Int) : LdS × Int :=
 (⟨s.L.filter (fun x => decide (x.1.2 ∈ live)), s.q, hld (s.L.filter (fun x => decide (x.1.2 ∈ live))), s.pk, s.tk⟩, sum2 (s.L.filter (fun x => decide (x.1.2 ∉ live))))
structure LdOk (N : Nat) (s : LdS) : Prop where
 key : ∀ x ∈ s.L, 0 ≤ x.1.1 ∧ x.1.1 < 4 ∧ 1 ≤ x.2 ∧ x.2 ≤ 1048576 ∧ wfI x.1.2
 nd : (s.L.map Prod.fst).Nodup
 len : s.L.length ≤ N
 h : ∀ m, 0 ≤ m → m < 4 → s.h m = hld s.L m
 q : ∀ m, 0 ≤ m → m < 4 → -1 ≤ s.q m ∧ s.q m ≤ 9223372036854775807 ∧ (0 ≤ s.q m → s.h m ≤ s.q m ∧ s.pk m ≤ s.q m)
 pk : ∀ m, 0 ≤ m → m < 4 → 0 ≤ s.pk m ∧ s.pk m ≤ N * 1048576
 tk : ∀ m, 0 ≤ m → m < 4 → 0 ≤ s.tk m ∧ s.tk m ≤ N * 1048576
theorem hld_app : ∀ (a b : LdL) (m : Int), hld (a ++ b) m = hld a m + hld b m
 | [], b, m => by simp [hld]
 | x :: a, b, m => by rw [List.cons_append, hld, hld, hld_app a b m]; omega
theorem hld_bd : ∀ (L : LdL) (m : Int), (∀ x ∈ L, 1 ≤ x.2 ∧ x.2 ≤ 1048576) → 0 ≤ hld L m ∧ hld L m ≤ L.length * 1048576
 | [], m, _ => by simp [hld]
 | x :: l, m, h => by
  have h1 := hld_bd l m (fun y hy => h y (by simp [hy]))
  have h2 := h x (by simp)
  rw [hld, List.length_cons]
  split <;> omega
theorem hld_erase : ∀ (L : LdL) (j : Nat) (p : (Int × Int) × Int), L[j]? = some p → ∀ m, hld (L.eraseIdx j) m = hld L m - if p.1.1 = m then p.2 else 0
 | [], j, p, h, m => by simp at h
 | x :: l, 0, p, h, m => by simp at h; subst h; rw [List.eraseIdx_cons_zero, hld]; omega
 | x :: l, j + 1, p, h, m => by
  have := hld_erase l j p (by simpa using h) m
  rw [List.eraseIdx_cons_succ, hld, hld, this]; omega
section
variable {N : Nat} {s : LdS}
theorem LdOk.mono (h : LdOk N s) {M : Nat} (hM : N ≤ M) : LdOk M s :=
 ⟨h.key, h.nd, Nat.le_trans h.len hM, h.h, h.q, fun m a b => by have := h.pk m a b; omega, fun m a b => by have := h.tk m a b; omega⟩
theorem LdOk.bd (h : LdOk N s) (m : Int) (h0 : 0 ≤ m) (h4 : m < 4) : 0 ≤ s.h m ∧ s.h m ≤ N * 1048576 := by
 have h1 := hld_bd s.L m (fun x hx => ⟨(h.key x hx).2.2.1, (h.key x hx).2.2.2.1⟩)
 have h2 := h.len
 rw [h.h m h0 h4]
 omega
theorem upI_at (f : Int → Int) (k v : Int) : upI f k v k = v := by unfold upI; rw [if_pos rfl]
theorem upI_off (f : Int → Int) {k i : Int} (v : Int) (h : i ≠ k) : upI f k v i = f i := by unfold upI; rw [if_neg h]
theorem mget_none_mem {L : LdL} {a : Int × Int} (h : mget L a = none) : a ∉ L.map Prod.fst := fun hm => by
 obtain ⟨p, hp, e⟩ := List.mem_map.1 hm
 exact (mget_iff _ _).1 h p hp e
theorem LdOk.take (h : LdOk N s) (m at_ w : Int) (ha : wfI at_) : LdOk (N + 1) (s.take m at_ w).1 := by
 unfold LdS.take
 split
 ·exact h.mono (by omega)
 split
 ·exact h.mono (by omega)
 split
 ·exact h.mono (by omega)
 ·rename_i hb hm hq
  have hn : mget s.L (m, at_) = none := by simpa using hm
  have hbm := h.bd m (by omega) (by omega)
  refine ⟨fun x hx => ?_, ?_, ?_, fun k k0 k4 => ?_, fun k k0 k4 => ?_, fun k k0 k4 => ?_, fun k k0 k4 => ?_⟩
  ·rcases List.mem_append.1 hx with hx | hx
   ·exact h.key x hx
   ·rw [List.mem_singleton.1 hx]; exact ⟨by show 0 ≤ m; omega, by show m < 4; omega, by show 1 ≤ w; omega, by show w ≤ _; omega, ha⟩
  ·simp only [List.map_append, List.map_cons, List.map_nil]
   exact List.nodup_append.2 ⟨h.nd, by simp, fun a ha b hb e => by
    rw [List.mem_singleton.1 hb] at e
    rw [e] at ha
    exact mget_none_mem hn ha⟩
  ·have := h.len; simp only [List.length_append, List.length_cons, List.length_nil]; omega
  ·show upI s.h m (s.h m + w) k = _
   rw [hld_app]
   by_cases e : k = m
   ·subst e
    rw [upI_at, h.h k k0 k4]; simp [hld]
   ·rw [upI_off _ _ e, h.h k k0 k4]
    have : ¬ m = k := fun e2 => e e2.symm
    simp [hld, this]
  ·obtain ⟨q1, q2, q3⟩ := h.q k k0 k4
   refine ⟨q1, q2, fun q0 => ?_⟩
   obtain ⟨q4, q5⟩ := q3 q0
   show upI s.h m (s.h m + w) k ≤ _ ∧ upI s.pk m _ k ≤ _
   by_cases e : k = m
   ·subst e
    rw [upI_at, upI_at]
    have hq' : ¬ (s.q k ≥ 0 ∧ w > s.q k - s.h k) := hq
    have q0' : s.q k ≥ 0 := q0
    refine ⟨by show _ ≤ s.q k; omega, ?_⟩
    show max (s.pk k) (s.h k + w) ≤ s.q k
    omega
   ·rw [upI_off _ _ e, upI_off _ _ e]; exact ⟨q4, q5⟩
  ·show 0 ≤ upI s.pk m _ k ∧ upI s.pk m _ k ≤ _
   have := h.pk k k0 k4
   by_cases e : k = m
   ·subst e; rw [upI_at]; omega
   ·rw [upI_off _ _ e]; omega
  ·show 0 ≤ upI s.tk m _ k ∧ upI s.tk m _ k ≤ _
   have := h.tk k k0 k4
   by_cases e : k = m
   ·subst e; rw [upI_at]; omega
   ·rw [upI_off _ _ e]; omega
theorem mget_at {L : LdL} {a : Int × Int} {n : Int} (hd : (L.map Prod.fst).Nodup) (h : mget L a = some n) : ∃ j, L[j]? = some (a, n) ∧ mdel L a = L.eraseIdx j := by
 by_cases hm : a ∈ L.map Prod.fst
 ·obtain ⟨p, hp, rfl⟩ := List.mem_map.1 hm
  obtain ⟨j, hj⟩ := List.mem_iff_getElem?.1 hp
  obtain ⟨h1, _, h3⟩ := m_some L j p hj hd
  rw [h1] at h
  injection h with h
  subst h
  exact ⟨j, hj, h3⟩
 ·have := (mget_iff L a).2 fun p hp e => hm (List.mem_map.2 ⟨p, hp, e⟩)
  rw [this] at h; cases h
theorem LdOk.give (h : LdOk N s) (m at_ : Int) : LdOk N (s.give m at_).1 := by
 unfold LdS.give
 split
 ·exact h
 ·rename_i hb
  split
  ·exact h
  ·rename_i n hg
   obtain ⟨j, hj, hd⟩ := mget_at h.nd hg
   have hk := h.key _ (List.mem_of_getElem? hj)
   refine ⟨fun x hx => ?_, ?_, ?_, fun k k0 k4 => ?_, fun k k0 k4 => ?_, h.pk, h.tk⟩
   ·rw [show ({ L := mdel s.L (m, at_), q := s.q, h := upI s.h m (s.h m - n), pk := s.pk, tk := s.tk } : LdS).L = mdel s.L (m, at_) from rfl, hd] at hx
    exact h.key x (List.mem_of_mem_eraseIdx hx)
   ·show ((mdel s.L (m, at_)).map Prod.fst).Nodup
    rw [hd]; exact ((List.eraseIdx_sublist _ _).map _).nodup h.nd
   ·show (mdel s.L (m, at_)).length ≤ N
    rw [hd]; have := (List.eraseIdx_sublist s.L j).length_le; have := h.len; omega
   ·show upI s.h m (s.h m - n) k = hld (mdel s.L (m, at_)) k
    rw [hd, hld_erase _ _ _ hj]
    by_cases e : k = m
    ·subst e; rw [upI_at, h.h k k0 k4, if_pos rfl]
    ·rw [upI_off _ _ e, h.h k k0 k4, if_neg (fun e2 => e e2.symm)]; omega
   ·obtain ⟨q1, q2, q3⟩ := h.q k k0 k4
    refine ⟨q1, q2, fun q0 => ?_⟩
    obtain ⟨q4, q5⟩ := q3 q0
    refine ⟨?_, q5⟩
    show upI s.h m (s.h m - n) k ≤ _
    by_cases e : k = m
    ·subst e; rw [upI_at]; show _ ≤ s.q k; omega
    ·rw [upI_off _ _ e]; exact q4
theorem LdOk.pass (h : LdOk N s) (f t at_ : Int) (ha : wfI at_) : LdOk (N + 1) (s.pass f t at_).1 := by
 unfold LdS.pass
 split
 ·exact h.mono (by omega)
 ·split
  ·exact h.mono (by omega)
  ·split
   ·exact h.mono (by omega)
   ·split
    ·exact h.mono (by omega)
    ·exact (h.take t at_ _ ha).give f at_
theorem hld_filter (p : (Int × Int) × Int → Bool) : ∀ (L : LdL) (m : Int), (∀ x ∈ L, 1 ≤ x.2) → hld (L.filter p) m ≤ hld L m
 | [], m, _ => by simp [hld]
 | x :: l, m, h => by
  have h1 := hld_filter p l m (fun y hy => h y (by simp [hy]))
  have h2 := h x (by simp)
  by_cases hp : p x = true
  ·rw [List.filter_cons_of_pos hp, hld, hld]; omega
  ·rw [List.filter_cons_of_neg hp, hld]; split <;> omega
theorem LdOk.sweep (h : LdOk N s) (live : List Int) : LdOk N (s.sweep live).1 := by
 unfold LdS.sweep
 refine ⟨fun x hx => h.key x (List.mem_filter.1 hx).1, (List.filter_sublist.map _).nodup h.nd, Nat.le_trans (List.length_filter_le _ _) h.len, fun k k0 k4 => rfl, fun k k0 k4 => ?_, h.pk, h.tk⟩
 obtain ⟨q1, q2, q3⟩ := h.q k k0 k4
 refine ⟨q1, q2, fun q0 => ?_⟩
 obtain ⟨q4, q5⟩ := q3 q0
 refine ⟨?_, q5⟩
 have h1 := hld_filter (fun x => decide (x.1.2 ∈ live)) s.L k (fun x hx => (h.key x hx).2.2.1)
 rw [h.h k k0 k4] at q4
 exact Int.le_trans h1 q4
end
end Go.Proofs.Ytpbimgopiammaaa
end

section
namespace Go.Proofs.Ytpbimgopiammaaa
open Go.RowKit
set_option maxRecDepth 100000
set_option maxHeartbeats 4000000
theorem gdE {m a : Int} (hm : 0 ≤ m ∧ m < 4) (ha : wfI a) : kE.Gd (m, a) := ⟨⟨by show _ ≤ m; omega, by show m ≤ _; omega⟩, ha⟩
theorem inM_t {m : Int} (h : 0 ≤ m ∧ m < 4) : inM m = true := decide_eq_true h
theorem inM_f {m : Int} (h : m < 0 ∨ 4 ≤ m) : inM m = false := decide_eq_false (by omega)
theorem mput_new {L : LdL} {a : Int × Int} (h : mget L a = none) (v : Int) : mput L a v = L ++ [(a, v)] := (m_none L a ((mget_iff L a).1 h)).2.1 v
theorem imax (a b : Int) : (if a < b then b else a) = max a b := by split <;> omega
theorem oTake (p b : Nat) (s : LdS) (N : Nat) (m a x : Int) (w : World) (hE : Ents (ldE p b s) w) (hok : LdOk N s) (hN : N ≤ 1000) (ha : wfI a) :
  Calls Try.prog 16 [ptrL p, .int .i64 m, .int .i64 a, .int .i64 x].toArray w fun e w' => e = .returned (.int .i64 (s.take m a x).2) ∧ Heap w (ids (ldE p b s)) (ldE p b (s.take m a x).1) w' := by
 have H := Heap.start hE
 have hR := fun W => oRight m W
 unfold LdS.take
 by_cases hm : 0 ≤ m ∧ m < 4
 ·simp only [inM_t hm] at hR
  by_cases hx : x < 1 ∨ 1048576 < x
  ·rw [if_pos (by omega)]
   by_cases h1 : x < 1
   ·refine k_in (N := 108) Try.func16 rfl rfl rfl ?_
    refine k_sg ?_
    refine s_run rfl rfl (rai rfl) ?_
    refine k_nc ?_
    refine k_seq ?_
    refine k_sg ?_
    refine s_run rfl rfl (rmi rfl) ?_
    refine s_call rfl (hR _) (ca39 rfl) ?_
    rintro e W1 ⟨rfl, H'⟩
    refine ⟨_, rfl, ?_⟩
    have H := H.same H'; clear H'
    refine s_run rfl rfl (r_notT rfl) ?_
    refine s_run rfl rfl (rmb rfl) ?_
    refine s_run rfl (g_on 15 (by kernel_rfl) rfl) (rmi rfl) ?_
    refine s_run rfl (g_on 15 (by kernel_rfl) rfl) (r_lssT rfl rfl (by omega)) ?_
    refine s_run rfl rfl (r_pkF (v := .bool _) rfl rfl) ?_
    refine s_run rfl rfl (rmb rfl) ?_
    refine s_off rfl (g_off 19 (by kernel_rfl) rfl rfl) ?_
    refine s_off rfl (g_off 19 (by kernel_rfl) rfl rfl) ?_
    refine s_run rfl rfl (r_pkT (v := .bool _) rfl rfl) ?_
    refine k_nc ?_
    refine k_t rfl ?_
    refine k_sg ?_
    refine s_run rfl rfl (rai rfl) ?_
    refine k_nc ?_
    refine k_ret ?_
    refine c_ret ?_
    refine fin1r (v := .int _ _) rfl rfl ?_
    exact ⟨rfl, H⟩
   ·refine k_in (N := 108) Try.func16 rfl rfl rfl ?_
    refine k_sg ?_
    refine s_run rfl rfl (rai rfl) ?_
    refine k_nc ?_
    refine k_seq ?_
    refine k_sg ?_
    refine s_run rfl rfl (rmi rfl) ?_
    refine s_call rfl (hR _) (ca39 rfl) ?_
    rintro e W1 ⟨rfl, H'⟩
    refine ⟨_, rfl, ?_⟩
    have H := H.same H'; clear H'
    refine s_run rfl rfl (r_notT rfl) ?_
    refine s_run rfl rfl (rmb rfl) ?_
    refine s_run rfl (g_on 15 (by kernel_rfl) rfl) (rmi rfl) ?_
    refine s_run rfl (g_on 15 (by kernel_rfl) rfl) (r_lssF rfl rfl (by omega)) ?_
    refine s_run rfl rfl (r_pkF (v := .bool _) rfl rfl) ?_
    refine s_run rfl rfl (rmb rfl) ?_
    refine s_run rfl (g_on 19 (by kernel_rfl) rfl) (rmi rfl) ?_
    refine s_run rfl (g_on 19 (by kernel_rfl) rfl) (r_gtrT rfl rfl (by omega)) ?_
    refine s_run rfl rfl (r_pkF (v := .bool _) rfl rfl) ?_
    refine k_nc ?_
    refine k_t rfl ?_
    refine k_sg ?_
    refine s_run rfl rfl (rai rfl) ?_
    refine k_nc ?_
    refine k_ret ?_
    refine c_ret ?_
    refine fin1r (v := .int _ _) rfl rfl ?_
    exact ⟨rfl, H⟩
  ·rw [if_neg (by omega)]
   have gd := gdE hm ha
   unfold ldE at H
   cases hg : mget s.L (m, a) with
   | some n =>
    rw [if_pos (show (some n).isSome = true from rfl)]
    refine k_in (N := 108) Try.func16 rfl rfl rfl ?_
    refine k_sg ?_
    refine s_run rfl rfl (rai rfl) ?_
    refine k_nc ?_
    refine k_seq ?_
    refine k_sg ?_
    refine s_run rfl rfl (rmi rfl) ?_
    refine s_call rfl (hR _) (ca39 rfl) ?_
    rintro e W1 ⟨rfl, H'⟩
    refine ⟨_, rfl, ?_⟩
    have H := H.same H'; clear H'
    refine s_run rfl rfl (r_notT rfl) ?_
    refine s_run rfl rfl (rmb rfl) ?_
    refine s_run rfl (g_on 15 (by kernel_rfl) rfl) (rmi rfl) ?_
    refine s_run rfl (g_on 15 (by kernel_rfl) rfl) (r_lssF rfl rfl (by omega)) ?_
    refine s_run rfl rfl (r_pkF (v := .bool _) rfl rfl) ?_
    refine s_run rfl rfl (rmb rfl) ?_
    refine s_run rfl (g_on 19 (by kernel_rfl) rfl) (rmi rfl) ?_
    refine s_run rfl (g_on 19 (by kernel_rfl) rfl) (r_gtrF rfl rfl (by omega)) ?_
    refine s_run rfl rfl (r_pkF (v := .bool _) rfl rfl) ?_
    refine k_nc ?_
    refine k_f rfl ?_
    refine k_skip ?_
    refine c_norm ?_
    refine k_sg ?_
    refine s_run rfl rfl (rmi rfl) ?_
    refine s_run rfl rfl (rmi rfl) ?_
    refine s_run rfl rfl (r_bd (bd86_0_1 _ _) rfl) ?_
    refine s_al H rfl inf86 ?_
    intro p9 _ H'; clear H; have H := H'; clear H'
    refine s_sw H 0 rfl rfl rfl rfl rfl rfl rfl sz86 ?_
    clear H; intro _ H; simp only [jA, jB, jC, jD, jE, jF, jG, jH, jI, jJ, jK, Nat.reduceAdd] at H
    refine k_nc ?_
    refine k_seq ?_
    refine k_seq ?_
    refine k_q mixed (by kernel_rfl) H ?_
    refine q_run rfl rfl (fun _ H => r_mv (v := .pointer _) rfl) ?_
    refine q_run rfl rfl (fun _ H => r_nc rfl) ?_
    refine q_run rfl rfl (fun _ H => r_fa0 rfl fo76_0) ?_
    refine q_run rfl rfl (fun _ H => r_lo H 1 rfl rfl rfl ag74) ?_
    refine q_run rfl rfl (fun _ H => r_la H 0 rfl rfl rfl ag86 sz86) ?_
    refine q_run rfl rfl (fun _ H => r_loS H 2 rfl rfl rfl (gd) (hg) Try.underlying74 (zv_of inf3) rfl) ?_
    refine q_run rfl rfl (fun _ H => r_mv (v := .tuple _) rfl) ?_
    refine q_run rfl rfl (fun _ H => r_ext (v := .int _ _) rfl rfl) ?_
    refine q_run rfl rfl (fun _ H => r_ext (v := .bool _) rfl rfl) ?_
    refine q_run rfl rfl (fun _ H => r_as (v := .int _ _) rfl) ?_
    refine q_run rfl rfl (fun _ H => r_as (v := .bool _) rfl) ?_
    refine q_nil ?_
    intro _ H'; clear H; have H := H'; clear H'
    refine c_norm ?_
    refine k_b ?_
    refine k_sg ?_
    refine s_run rfl rfl (rmb rfl) ?_
    refine s_run rfl rfl (rab rfl) ?_
    refine k_nc ?_
    refine k_t rfl ?_
    refine k_sg ?_
    refine s_run rfl rfl (rai rfl) ?_
    refine k_nc ?_
    refine k_ret ?_
    refine b_ret ?_
    refine c_ret ?_
    refine fin1r (v := .int _ _) rfl rfl ?_
    exact ⟨rfl, H.drop⟩
   | none =>
    rw [if_neg (show ¬ (none : Option Int).isSome = true by simp)]
    have hbm := hok.bd m hm.1 hm.2
    obtain ⟨hq1, hq2, hq3⟩ := hok.q m hm.1 hm.2
    have htk := hok.tk m hm.1 hm.2
    obtain ⟨k, rfl⟩ := Int.eq_ofNat_of_zero_le hm.1
    have hk : k < 4 := by omega
    by_cases hsp : s.q k ≥ 0 ∧ x > s.q k - s.h k
    ·rw [if_pos hsp]
     obtain ⟨hs1, hs2⟩ := hsp
     refine k_in (N := 108) Try.func16 rfl rfl rfl ?_
     refine k_sg ?_
     refine s_run rfl rfl (rai rfl) ?_
     refine k_nc ?_
     refine k_seq ?_
     refine k_sg ?_
     refine s_run rfl rfl (rmi rfl) ?_
     refine s_call rfl (hR _) (ca39 rfl) ?_
     rintro e W1 ⟨rfl, H'⟩
     refine ⟨_, rfl, ?_⟩
     have H := H.same H'; clear H'
     refine s_run rfl rfl (r_notT rfl) ?_
     refine s_run rfl rfl (rmb rfl) ?_
     refine s_run rfl (g_on 15 (by kernel_rfl) rfl) (rmi rfl) ?_
     refine s_run rfl (g_on 15 (by kernel_rfl) rfl) (r_lssF rfl rfl (by omega)) ?_
     refine s_run rfl rfl (r_pkF (v := .bool _) rfl rfl) ?_
     refine s_run rfl rfl (rmb rfl) ?_
     refine s_run rfl (g_on 19 (by kernel_rfl) rfl) (rmi rfl) ?_
     refine s_run rfl (g_on 19 (by kernel_rfl) rfl) (r_gtrF rfl rfl (by omega)) ?_
     refine s_run rfl rfl (r_pkF (v := .bool _) rfl rfl) ?_
     refine k_nc ?_
     refine k_f rfl ?_
     refine k_skip ?_
     refine c_norm ?_
     refine k_sg ?_
     refine s_run rfl rfl (rmi rfl) ?_
     refine s_run rfl rfl (rmi rfl) ?_
     refine s_run rfl rfl (r_bd (bd86_0_1 _ _) rfl) ?_
     refine s_al H rfl inf86 ?_
     intro p9 _ H'; clear H; have H := H'; clear H'
     refine s_sw H 0 rfl rfl rfl rfl rfl rfl rfl sz86 ?_
     clear H; intro _ H; simp only [jA, jB, jC, jD, jE, jF, jG, jH, jI, jJ, jK, Nat.reduceAdd] at H
     refine k_nc ?_
     refine k_seq ?_
     refine k_seq ?_
     refine k_q mixed (by kernel_rfl) H ?_
     refine q_run rfl rfl (fun _ H => r_mv (v := .pointer _) rfl) ?_
     refine q_run rfl rfl (fun _ H => r_nc rfl) ?_
     refine q_run rfl rfl (fun _ H => r_fa0 rfl fo76_0) ?_
     refine q_run rfl rfl (fun _ H => r_lo H 1 rfl rfl rfl ag74) ?_
     refine q_run rfl rfl (fun _ H => r_la H 0 rfl rfl rfl ag86 sz86) ?_
     refine q_run rfl rfl (fun _ H => r_loN H 2 rfl rfl rfl (gd) (hg) Try.underlying74 (zv_of inf3)) ?_
     refine q_run rfl rfl (fun _ H => r_mv (v := .tuple _) rfl) ?_
     refine q_run rfl rfl (fun _ H => r_ext (v := .int _ _) rfl rfl) ?_
     refine q_run rfl rfl (fun _ H => r_ext (v := .bool _) rfl rfl) ?_
     refine q_run rfl rfl (fun _ H => r_as (v := .int _ _) rfl) ?_
     refine q_run rfl rfl (fun _ H => r_as (v := .bool _) rfl) ?_
     refine q_nil ?_
     intro _ H'; clear H; have H := H'; clear H'
     refine c_norm ?_
     refine k_b ?_
     refine k_sg ?_
     refine s_run rfl rfl (rmb rfl) ?_
     refine s_run rfl rfl (rab rfl) ?_
     refine k_nc ?_
     refine k_f rfl ?_
     refine k_seq ?_
     refine k_q mixed (by kernel_rfl) H ?_
     refine q_run rfl rfl (fun _ H => r_mv (v := .pointer _) rfl) ?_
     refine q_run rfl rfl (fun _ H => r_mv (v := .int _ _) rfl) ?_
     refine q_run rfl rfl (fun _ H => r_nc rfl) ?_
     refine q_run rfl rfl (fun _ H => r_fa0 rfl fo76_1) ?_
     refine q_run rfl rfl (fun _ H => r_ia1 (i := k) rfl rfl (by omega) (by omega) Try.underlying29 sz3) ?_
     refine q_run rfl rfl (fun _ H => r_lo H 1 rfl rfl (gq hk) ag3) ?_
     refine q_run rfl rfl (fun _ H => r_geqT rfl rfl (by omega)) ?_
     refine q_run rfl rfl (fun _ H => r_mv (v := .bool _) rfl) ?_
     refine q_run rfl (g_on 45 (by kernel_rfl) rfl) (fun _ H => r_mv (v := .int _ _) rfl) ?_
     refine q_run rfl (g_on 45 (by kernel_rfl) rfl) (fun _ H => r_mv (v := .pointer _) rfl) ?_
     refine q_run rfl (g_on 45 (by kernel_rfl) rfl) (fun _ H => r_mv (v := .int _ _) rfl) ?_
     refine q_run rfl (g_on 45 (by kernel_rfl) rfl) (fun _ H => r_nc rfl) ?_
     refine q_run rfl (g_on 45 (by kernel_rfl) rfl) (fun _ H => r_fa0 rfl fo76_1) ?_
     refine q_run rfl (g_on 45 (by kernel_rfl) rfl) (fun _ H => r_ia1 (i := k) rfl rfl (by omega) (by omega) Try.underlying29 sz3) ?_
     refine q_run rfl (g_on 45 (by kernel_rfl) rfl) (fun _ H => r_lo H 1 rfl rfl (gq hk) ag3) ?_
     refine q_run rfl (g_on 45 (by kernel_rfl) rfl) (fun _ H => r_mv (v := .pointer _) rfl) ?_
     refine q_run rfl (g_on 45 (by kernel_rfl) rfl) (fun _ H => r_mv (v := .int _ _) rfl) ?_
     refine q_run rfl (g_on 45 (by kernel_rfl) rfl) (fun _ H => r_nc rfl) ?_
     refine q_run rfl (g_on 45 (by kernel_rfl) rfl) (fun _ H => r_fa0 rfl fo76_2) ?_
     refine q_run rfl (g_on 45 (by kernel_rfl) rfl) (fun _ H => r_ia1 (i := k) rfl rfl (by omega) (by omega) Try.underlying29 sz3) ?_
     refine q_run rfl (g_on 45 (by kernel_rfl) rfl) (fun _ H => r_lo H 1 rfl rfl (gh hk) ag3) ?_
     refine q_run rfl (g_on 45 (by kernel_rfl) rfl) (fun _ H => r_sub rfl rfl (wI (by omega))) ?_
     refine q_run rfl (g_on 45 (by kernel_rfl) rfl) (fun _ H => r_gtrT rfl rfl (by omega)) ?_
     refine q_run rfl rfl (fun _ H => r_pkT (v := .bool _) rfl rfl) ?_
     refine q_run rfl rfl (fun _ H => r_as (v := .bool _) rfl) ?_
     refine q_nil ?_
     intro _ H'; clear H; have H := H'; clear H'
     refine c_norm ?_
     refine k_t rfl ?_
     refine k_sg ?_
     refine s_run rfl rfl (rai rfl) ?_
     refine k_nc ?_
     refine k_ret ?_
     refine b_ret ?_
     refine c_ret ?_
     refine fin1r (v := .int _ _) rfl rfl ?_
     exact ⟨rfl, H.drop⟩
    ·rw [if_neg hsp]
     have hpn := mput_new hg x
     by_cases hs1 : s.q k ≥ 0
     ·have hs2 : ¬ x > s.q k - s.h k := fun h => hsp ⟨hs1, h⟩
      refine k_in (N := 108) Try.func16 rfl rfl rfl ?_
      refine k_sg ?_
      refine s_run rfl rfl (rai rfl) ?_
      refine k_nc ?_
      refine k_seq ?_
      refine k_sg ?_
      refine s_run rfl rfl (rmi rfl) ?_
      refine s_call rfl (hR _) (ca39 rfl) ?_
      rintro e W1 ⟨rfl, H'⟩
      refine ⟨_, rfl, ?_⟩
      have H := H.same H'; clear H'
      refine s_run rfl rfl (r_notT rfl) ?_
      refine s_run rfl rfl (rmb rfl) ?_
      refine s_run rfl (g_on 15 (by kernel_rfl) rfl) (rmi rfl) ?_
      refine s_run rfl (g_on 15 (by kernel_rfl) rfl) (r_lssF rfl rfl (by omega)) ?_
      refine s_run rfl rfl (r_pkF (v := .bool _) rfl rfl) ?_
      refine s_run rfl rfl (rmb rfl) ?_
      refine s_run rfl (g_on 19 (by kernel_rfl) rfl) (rmi rfl) ?_
      refine s_run rfl (g_on 19 (by kernel_rfl) rfl) (r_gtrF rfl rfl (by omega)) ?_
      refine s_run rfl rfl (r_pkF (v := .bool _) rfl rfl) ?_
      refine k_nc ?_
      refine k_f rfl ?_
      refine k_skip ?_
      refine c_norm ?_
      refine k_sg ?_
      refine s_run rfl rfl (rmi rfl) ?_
      refine s_run rfl rfl (rmi rfl) ?_
      refine s_run rfl rfl (r_bd (bd86_0_1 _ _) rfl) ?_
      refine s_al H rfl inf86 ?_
      intro p9 _ H'; clear H; have H := H'; clear H'
      refine s_sw H 0 rfl rfl rfl rfl rfl rfl rfl sz86 ?_
      clear H; intro _ H; simp only [jA, jB, jC, jD, jE, jF, jG, jH, jI, jJ, jK, Nat.reduceAdd] at H
      refine k_nc ?_
      refine k_seq ?_
      refine k_seq ?_
      refine k_q mixed (by kernel_rfl) H ?_
      refine q_run rfl rfl (fun _ H => r_mv (v := .pointer _) rfl) ?_
      refine q_run rfl rfl (fun _ H => r_nc rfl) ?_
      refine q_run rfl rfl (fun _ H => r_fa0 rfl fo76_0) ?_
      refine q_run rfl rfl (fun _ H => r_lo H 1 rfl rfl rfl ag74) ?_
      refine q_run rfl rfl (fun _ H => r_la H 0 rfl rfl rfl ag86 sz86) ?_
      refine q_run rfl rfl (fun _ H => r_loN H 2 rfl rfl rfl (gd) (hg) Try.underlying74 (zv_of inf3)) ?_
      refine q_run rfl rfl (fun _ H => r_mv (v := .tuple _) rfl) ?_
      refine q_run rfl rfl (fun _ H => r_ext (v := .int _ _) rfl rfl) ?_
      refine q_run rfl rfl (fun _ H => r_ext (v := .bool _) rfl rfl) ?_
      refine q_run rfl rfl (fun _ H => r_as (v := .int _ _) rfl) ?_
      refine q_run rfl rfl (fun _ H => r_as (v := .bool _) rfl) ?_
      refine q_nil ?_
      intro _ H'; clear H; have H := H'; clear H'
      refine c_norm ?_
      refine k_b ?_
      refine k_sg ?_
      refine s_run rfl rfl (rmb rfl) ?_
      refine s_run rfl rfl (rab rfl) ?_
      refine k_nc ?_
      refine k_f rfl ?_
      refine k_seq ?_
      refine k_q mixed (by kernel_rfl) H ?_
      refine q_run rfl rfl (fun _ H => r_mv (v := .pointer _) rfl) ?_
      refine q_run rfl rfl (fun _ H => r_mv (v := .int _ _) rfl) ?_
      refine q_run rfl rfl (fun _ H => r_nc rfl) ?_
      refine q_run rfl rfl (fun _ H => r_fa0 rfl fo76_1) ?_
      refine q_run rfl rfl (fun _ H => r_ia1 (i := k) rfl rfl (by omega) (by omega) Try.underlying29 sz3) ?_
      refine q_run rfl rfl (fun _ H => r_lo H 1 rfl rfl (gq hk) ag3) ?_
      refine q_run rfl rfl (fun _ H => r_geqT rfl rfl (by omega)) ?_
      refine q_run rfl rfl (fun _ H => r_mv (v := .bool _) rfl) ?_
      refine q_run rfl (g_on 45 (by kernel_rfl) rfl) (fun _ H => r_mv (v := .int _ _) rfl) ?_
      refine q_run rfl (g_on 45 (by kernel_rfl) rfl) (fun _ H => r_mv (v := .pointer _) rfl) ?_
      refine q_run rfl (g_on 45 (by kernel_rfl) rfl) (fun _ H => r_mv (v := .int _ _) rfl) ?_
      refine q_run rfl (g_on 45 (by kernel_rfl) rfl) (fun _ H => r_nc rfl) ?_
      refine q_run rfl (g_on 45 (by kernel_rfl) rfl) (fun _ H => r_fa0 rfl fo76_1) ?_
      refine q_run rfl (g_on 45 (by kernel_rfl) rfl) (fun _ H => r_ia1 (i := k) rfl rfl (by omega) (by omega) Try.underlying29 sz3) ?_
      refine q_run rfl (g_on 45 (by kernel_rfl) rfl) (fun _ H => r_lo H 1 rfl rfl (gq hk) ag3) ?_
      refine q_run rfl (g_on 45 (by kernel_rfl) rfl) (fun _ H => r_mv (v := .pointer _) rfl) ?_
      refine q_run rfl (g_on 45 (by kernel_rfl) rfl) (fun _ H => r_mv (v := .int _ _) rfl) ?_
      refine q_run rfl (g_on 45 (by kernel_rfl) rfl) (fun _ H => r_nc rfl) ?_
      refine q_run rfl (g_on 45 (by kernel_rfl) rfl) (fun _ H => r_fa0 rfl fo76_2) ?_
      refine q_run rfl (g_on 45 (by kernel_rfl) rfl) (fun _ H => r_ia1 (i := k) rfl rfl (by omega) (by omega) Try.underlying29 sz3) ?_
      refine q_run rfl (g_on 45 (by kernel_rfl) rfl) (fun _ H => r_lo H 1 rfl rfl (gh hk) ag3) ?_
      refine q_run rfl (g_on 45 (by kernel_rfl) rfl) (fun _ H => r_sub rfl rfl (wI (by omega))) ?_
      refine q_run rfl (g_on 45 (by kernel_rfl) rfl) (fun _ H => r_gtrF rfl rfl (by omega)) ?_
      refine q_run rfl rfl (fun _ H => r_pkT (v := .bool _) rfl rfl) ?_
      refine q_run rfl rfl (fun _ H => r_as (v := .bool _) rfl) ?_
      refine q_nil ?_
      intro _ H'; clear H; have H := H'; clear H'
      refine c_norm ?_
      refine k_f rfl ?_
      refine k_skip ?_
      refine b_norm ?_
      refine c_norm ?_
      refine k_seq ?_
      refine k_qt 6 mixed (by kernel_rfl) H rfl rfl ?_
      refine q_run rfl rfl (fun _ H => r_mv (v := .pointer _) rfl) ?_
      refine q_run rfl rfl (fun _ H => r_nc rfl) ?_
      refine q_run rfl rfl (fun _ H => r_fa0 rfl fo76_0) ?_
      refine q_run rfl rfl (fun _ H => r_lo H 1 rfl rfl rfl ag74) ?_
      refine q_run rfl rfl (fun _ H => r_la H 0 rfl rfl rfl ag86 sz86) ?_
      refine q_run rfl rfl (fun _ H => r_mv (v := .int _ _) rfl) ?_
      refine q_nil ?_
      intro _ H'; clear H; have H := H'; clear H'
      refine s_mu H 2 rfl rfl rfl rfl rfl (gd) Try.underlying74 ?_
      clear H; intro _ H; simp only [jA, jB, jC, jD, jE, jF, jG, jH, jI, jJ, jK, Nat.reduceAdd] at H
      refine k_nc ?_
      refine k_seq ?_
      refine k_qt 11 mixed (by kernel_rfl) H rfl rfl ?_
      refine q_run rfl rfl (fun _ H => r_mv (v := .pointer _) rfl) ?_
      refine q_run rfl rfl (fun _ H => r_mv (v := .int _ _) rfl) ?_
      refine q_run rfl rfl (fun _ H => r_nc rfl) ?_
      refine q_run rfl rfl (fun _ H => r_fa0 rfl fo76_2) ?_
      refine q_run rfl rfl (fun _ H => r_ia1 (i := k) rfl rfl (by omega) (by omega) Try.underlying29 sz3) ?_
      refine q_run rfl rfl (fun _ H => r_lo H 1 rfl rfl (gh hk) ag3) ?_
      refine q_run rfl rfl (fun _ H => r_mv (v := .int _ _) rfl) ?_
      refine q_run rfl rfl (fun _ H => r_add rfl rfl (wI (by omega))) ?_
      refine q_run rfl rfl (fun _ H => r_nc rfl) ?_
      refine q_run rfl rfl (fun _ H => r_fa0 rfl fo76_2) ?_
      refine q_run rfl rfl (fun _ H => r_ia1 (i := k) rfl rfl (by omega) (by omega) Try.underlying29 sz3) ?_
      refine q_nil ?_
      intro _ H'; clear H; have H := H'; clear H'
      refine s_stC H 1 rfl rfl rfl rfl (gh hk) (sh hk) rfl sz3 ?_
      clear H; intro _ H; simp only [jA, jB, jC, jD, jE, jF, jG, jH, jI, jJ, jK, Nat.reduceAdd] at H
      refine k_nc ?_
      refine k_seq ?_
      refine k_qt 11 mixed (by kernel_rfl) H rfl rfl ?_
      refine q_run rfl rfl (fun _ H => r_mv (v := .pointer _) rfl) ?_
      refine q_run rfl rfl (fun _ H => r_mv (v := .int _ _) rfl) ?_
      refine q_run rfl rfl (fun _ H => r_nc rfl) ?_
      refine q_run rfl rfl (fun _ H => r_fa0 rfl fo76_4) ?_
      refine q_run rfl rfl (fun _ H => r_ia1 (i := k) rfl rfl (by omega) (by omega) Try.underlying29 sz3) ?_
      refine q_run rfl rfl (fun _ H => r_lo H 1 rfl rfl (gt hk) ag3) ?_
      refine q_run rfl rfl (fun _ H => r_mv (v := .int _ _) rfl) ?_
      refine q_run rfl rfl (fun _ H => r_add rfl rfl (wI (by omega))) ?_
      refine q_run rfl rfl (fun _ H => r_nc rfl) ?_
      refine q_run rfl rfl (fun _ H => r_fa0 rfl fo76_4) ?_
      refine q_run rfl rfl (fun _ H => r_ia1 (i := k) rfl rfl (by omega) (by omega) Try.underlying29 sz3) ?_
      refine q_nil ?_
      intro _ H'; clear H; have H := H'; clear H'
      refine s_stC H 1 rfl rfl rfl rfl (gt hk) (st hk) rfl sz3 ?_
      clear H; intro _ H; simp only [jA, jB, jC, jD, jE, jF, jG, jH, jI, jJ, jK, Nat.reduceAdd] at H
      refine k_nc ?_
      refine k_seq ?_
      refine k_qt 18 mixed (by kernel_rfl) H rfl rfl ?_
      refine q_run rfl rfl (fun _ H => r_mv (v := .pointer _) rfl) ?_
      refine q_run rfl rfl (fun _ H => r_mv (v := .int _ _) rfl) ?_
      refine q_run rfl rfl (fun _ H => r_mv (v := .pointer _) rfl) ?_
      refine q_run rfl rfl (fun _ H => r_mv (v := .int _ _) rfl) ?_
      refine q_run rfl rfl (fun _ H => r_nc rfl) ?_
      refine q_run rfl rfl (fun _ H => r_fa0 rfl fo76_3) ?_
      refine q_run rfl rfl (fun _ H => r_ia1 (i := k) rfl rfl (by omega) (by omega) Try.underlying29 sz3) ?_
      refine q_run rfl rfl (fun _ H => r_lo H 1 rfl rfl (gp hk) ag3) ?_
      refine q_run rfl rfl (fun _ H => r_mv (v := .pointer _) rfl) ?_
      refine q_run rfl rfl (fun _ H => r_mv (v := .int _ _) rfl) ?_
      refine q_run rfl rfl (fun _ H => r_nc rfl) ?_
      refine q_run rfl rfl (fun _ H => r_fa0 rfl fo76_2) ?_
      refine q_run rfl rfl (fun _ H => r_ia1 (i := k) rfl rfl (by omega) (by omega) Try.underlying29 sz3) ?_
      refine q_run rfl rfl (fun _ H => r_lo H 1 rfl rfl (gh hk) ag3) ?_
      refine q_run rfl rfl (fun _ H => r_max rfl rfl (imax _ _)) ?_
      refine q_run rfl rfl (fun _ H => r_nc rfl) ?_
      refine q_run rfl rfl (fun _ H => r_fa0 rfl fo76_3) ?_
      refine q_run rfl rfl (fun _ H => r_ia1 (i := k) rfl rfl (by omega) (by omega) Try.underlying29 sz3) ?_
      refine q_nil ?_
      intro _ H'; clear H; have H := H'; clear H'
      refine s_stC H 1 rfl rfl rfl rfl (gp hk) (sp hk) rfl sz3 ?_
      clear H; intro _ H; simp only [jA, jB, jC, jD, jE, jF, jG, jH, jI, jJ, jK, Nat.reduceAdd] at H
      refine k_nc ?_
      refine k_sg ?_
      refine s_run rfl rfl (rai rfl) ?_
      refine k_nc ?_
      refine k_ret ?_
      refine fin1r (v := .int _ _) rfl rfl ?_
      rw [hpn, upI_at] at H
      exact ⟨rfl, H.drop⟩
     ·refine k_in (N := 108) Try.func16 rfl rfl rfl ?_
      refine k_sg ?_
      refine s_run rfl rfl (rai rfl) ?_
      refine k_nc ?_
      refine k_seq ?_
      refine k_sg ?_
      refine s_run rfl rfl (rmi rfl) ?_
      refine s_call rfl (hR _) (ca39 rfl) ?_
      rintro e W1 ⟨rfl, H'⟩
      refine ⟨_, rfl, ?_⟩
      have H := H.same H'; clear H'
      refine s_run rfl rfl (r_notT rfl) ?_
      refine s_run rfl rfl (rmb rfl) ?_
      refine s_run rfl (g_on 15 (by kernel_rfl) rfl) (rmi rfl) ?_
      refine s_run rfl (g_on 15 (by kernel_rfl) rfl) (r_lssF rfl rfl (by omega)) ?_
      refine s_run rfl rfl (r_pkF (v := .bool _) rfl rfl) ?_
      refine s_run rfl rfl (rmb rfl) ?_
      refine s_run rfl (g_on 19 (by kernel_rfl) rfl) (rmi rfl) ?_
      refine s_run rfl (g_on 19 (by kernel_rfl) rfl) (r_gtrF rfl rfl (by omega)) ?_
      refine s_run rfl rfl (r_pkF (v := .bool _) rfl rfl) ?_
      refine k_nc ?_
      refine k_f rfl ?_
      refine k_skip ?_
      refine c_norm ?_
      refine k_sg ?_
      refine s_run rfl rfl (rmi rfl) ?_
      refine s_run rfl rfl (rmi rfl) ?_
      refine s_run rfl rfl (r_bd (bd86_0_1 _ _) rfl) ?_
      refine s_al H rfl inf86 ?_
      intro p9 _ H'; clear H; have H := H'; clear H'
      refine s_sw H 0 rfl rfl rfl rfl rfl rfl rfl sz86 ?_
      clear H; intro _ H; simp only [jA, jB, jC, jD, jE, jF, jG, jH, jI, jJ, jK, Nat.reduceAdd] at H
      refine k_nc ?_
      refine k_seq ?_
      refine k_seq ?_
      refine k_q mixed (by kernel_rfl) H ?_
      refine q_run rfl rfl (fun _ H => r_mv (v := .pointer _) rfl) ?_
      refine q_run rfl rfl (fun _ H => r_nc rfl) ?_
      refine q_run rfl rfl (fun _ H => r_fa0 rfl fo76_0) ?_
      refine q_run rfl rfl (fun _ H => r_lo H 1 rfl rfl rfl ag74) ?_
      refine q_run rfl rfl (fun _ H => r_la H 0 rfl rfl rfl ag86 sz86) ?_
      refine q_run rfl rfl (fun _ H => r_loN H 2 rfl rfl rfl (gd) (hg) Try.underlying74 (zv_of inf3)) ?_
      refine q_run rfl rfl (fun _ H => r_mv (v := .tuple _) rfl) ?_
      refine q_run rfl rfl (fun _ H => r_ext (v := .int _ _) rfl rfl) ?_
      refine q_run rfl rfl (fun _ H => r_ext (v := .bool _) rfl rfl) ?_
      refine q_run rfl rfl (fun _ H => r_as (v := .int _ _) rfl) ?_
      refine q_run rfl rfl (fun _ H => r_as (v := .bool _) rfl) ?_
      refine q_nil ?_
      intro _ H'; clear H; have H := H'; clear H'
      refine c_norm ?_
      refine k_b ?_
      refine k_sg ?_
      refine s_run rfl rfl (rmb rfl) ?_
      refine s_run rfl rfl (rab rfl) ?_
      refine k_nc ?_
      refine k_f rfl ?_
      refine k_seq ?_
      refine k_q mixed (by kernel_rfl) H ?_
      refine q_run rfl rfl (fun _ H => r_mv (v := .pointer _) rfl) ?_
      refine q_run rfl rfl (fun _ H => r_mv (v := .int _ _) rfl) ?_
      refine q_run rfl rfl (fun _ H => r_nc rfl) ?_
      refine q_run rfl rfl (fun _ H => r_fa0 rfl fo76_1) ?_
      refine q_run rfl rfl (fun _ H => r_ia1 (i := k) rfl rfl (by omega) (by omega) Try.underlying29 sz3) ?_
      refine q_run rfl rfl (fun _ H => r_lo H 1 rfl rfl (gq hk) ag3) ?_
      refine q_run rfl rfl (fun _ H => r_geqF rfl rfl (by omega)) ?_
      refine q_run rfl rfl (fun _ H => r_mv (v := .bool _) rfl) ?_
      refine q_off rfl (g_off 45 (by kernel_rfl) rfl rfl) ?_
      refine q_off rfl (g_off 45 (by kernel_rfl) rfl rfl) ?_
      refine q_off rfl (g_off 45 (by kernel_rfl) rfl rfl) ?_
      refine q_off rfl (g_off 45 (by kernel_rfl) rfl rfl) ?_
      refine q_off rfl (g_off 45 (by kernel_rfl) rfl rfl) ?_
      refine q_off rfl (g_off 45 (by kernel_rfl) rfl rfl) ?_
      refine q_off rfl (g_off 45 (by kernel_rfl) rfl rfl) ?_
      refine q_off rfl (g_off 45 (by kernel_rfl) rfl rfl) ?_
      refine q_off rfl (g_off 45 (by kernel_rfl) rfl rfl) ?_
      refine q_off rfl (g_off 45 (by kernel_rfl) rfl rfl) ?_
      refine q_off rfl (g_off 45 (by kernel_rfl) rfl rfl) ?_
      refine q_off rfl (g_off 45 (by kernel_rfl) rfl rfl) ?_
      refine q_off rfl (g_off 45 (by kernel_rfl) rfl rfl) ?_
      refine q_off rfl (g_off 45 (by kernel_rfl) rfl rfl) ?_
      refine q_off rfl (g_off 45 (by kernel_rfl) rfl rfl) ?_
      refine q_run rfl rfl (fun _ H => r_pkF (v := .bool _) rfl rfl) ?_
      refine q_run rfl rfl (fun _ H => r_as (v := .bool _) rfl) ?_
      refine q_nil ?_
      intro _ H'; clear H; have H := H'; clear H'
      refine c_norm ?_
      refine k_f rfl ?_
      refine k_skip ?_
      refine b_norm ?_
      refine c_norm ?_
      refine k_seq ?_
      refine k_qt 6 mixed (by kernel_rfl) H rfl rfl ?_
      refine q_run rfl rfl (fun _ H => r_mv (v := .pointer _) rfl) ?_
      refine q_run rfl rfl (fun _ H => r_nc rfl) ?_
      refine q_run rfl rfl (fun _ H => r_fa0 rfl fo76_0) ?_
      refine q_run rfl rfl (fun _ H => r_lo H 1 rfl rfl rfl ag74) ?_
      refine q_run rfl rfl (fun _ H => r_la H 0 rfl rfl rfl ag86 sz86) ?_
      refine q_run rfl rfl (fun _ H => r_mv (v := .int _ _) rfl) ?_
      refine q_nil ?_
      intro _ H'; clear H; have H := H'; clear H'
      refine s_mu H 2 rfl rfl rfl rfl rfl (gd) Try.underlying74 ?_
      clear H; intro _ H; simp only [jA, jB, jC, jD, jE, jF, jG, jH, jI, jJ, jK, Nat.reduceAdd] at H
      refine k_nc ?_
      refine k_seq ?_
      refine k_qt 11 mixed (by kernel_rfl) H rfl rfl ?_
      refine q_run rfl rfl (fun _ H => r_mv (v := .pointer _) rfl) ?_
      refine q_run rfl rfl (fun _ H => r_mv (v := .int _ _) rfl) ?_
      refine q_run rfl rfl (fun _ H => r_nc rfl) ?_
      refine q_run rfl rfl (fun _ H => r_fa0 rfl fo76_2) ?_
      refine q_run rfl rfl (fun _ H => r_ia1 (i := k) rfl rfl (by omega) (by omega) Try.underlying29 sz3) ?_
      refine q_run rfl rfl (fun _ H => r_lo H 1 rfl rfl (gh hk) ag3) ?_
      refine q_run rfl rfl (fun _ H => r_mv (v := .int _ _) rfl) ?_
      refine q_run rfl rfl (fun _ H => r_add rfl rfl (wI (by omega))) ?_
      refine q_run rfl rfl (fun _ H => r_nc rfl) ?_
      refine q_run rfl rfl (fun _ H => r_fa0 rfl fo76_2) ?_
      refine q_run rfl rfl (fun _ H => r_ia1 (i := k) rfl rfl (by omega) (by omega) Try.underlying29 sz3) ?_
      refine q_nil ?_
      intro _ H'; clear H; have H := H'; clear H'
      refine s_stC H 1 rfl rfl rfl rfl (gh hk) (sh hk) rfl sz3 ?_
      clear H; intro _ H; simp only [jA, jB, jC, jD, jE, jF, jG, jH, jI, jJ, jK, Nat.reduceAdd] at H
      refine k_nc ?_
      refine k_seq ?_
      refine k_qt 11 mixed (by kernel_rfl) H rfl rfl ?_
      refine q_run rfl rfl (fun _ H => r_mv (v := .pointer _) rfl) ?_
      refine q_run rfl rfl (fun _ H => r_mv (v := .int _ _) rfl) ?_
      refine q_run rfl rfl (fun _ H => r_nc rfl) ?_
      refine q_run rfl rfl (fun _ H => r_fa0 rfl fo76_4) ?_
      refine q_run rfl rfl (fun _ H => r_ia1 (i := k) rfl rfl (by omega) (by omega) Try.underlying29 sz3) ?_
      refine q_run rfl rfl (fun _ H => r_lo H 1 rfl rfl (gt hk) ag3) ?_
      refine q_run rfl rfl (fun _ H => r_mv (v := .int _ _) rfl) ?_
      refine q_run rfl rfl (fun _ H => r_add rfl rfl (wI (by omega))) ?_
      refine q_run rfl rfl (fun _ H => r_nc rfl) ?_
      refine q_run rfl rfl (fun _ H => r_fa0 rfl fo76_4) ?_
      refine q_run rfl rfl (fun _ H => r_ia1 (i := k) rfl rfl (by omega) (by omega) Try.underlying29 sz3) ?_
      refine q_nil ?_
      intro _ H'; clear H; have H := H'; clear H'
      refine s_stC H 1 rfl rfl rfl rfl (gt hk) (st hk) rfl sz3 ?_
      clear H; intro _ H; simp only [jA, jB, jC, jD, jE, jF, jG, jH, jI, jJ, jK, Nat.reduceAdd] at H
      refine k_nc ?_
      refine k_seq ?_
      refine k_qt 18 mixed (by kernel_rfl) H rfl rfl ?_
      refine q_run rfl rfl (fun _ H => r_mv (v := .pointer _) rfl) ?_
      refine q_run rfl rfl (fun _ H => r_mv (v := .int _ _) rfl) ?_
      refine q_run rfl rfl (fun _ H => r_mv (v := .pointer _) rfl) ?_
      refine q_run rfl rfl (fun _ H => r_mv (v := .int _ _) rfl) ?_
      refine q_run rfl rfl (fun _ H => r_nc rfl) ?_
      refine q_run rfl rfl (fun _ H => r_fa0 rfl fo76_3) ?_
      refine q_run rfl rfl (fun _ H => r_ia1 (i := k) rfl rfl (by omega) (by omega) Try.underlying29 sz3) ?_
      refine q_run rfl rfl (fun _ H => r_lo H 1 rfl rfl (gp hk) ag3) ?_
      refine q_run rfl rfl (fun _ H => r_mv (v := .pointer _) rfl) ?_
      refine q_run rfl rfl (fun _ H => r_mv (v := .int _ _) rfl) ?_
      refine q_run rfl rfl (fun _ H => r_nc rfl) ?_
      refine q_run rfl rfl (fun _ H => r_fa0 rfl fo76_2) ?_
      refine q_run rfl rfl (fun _ H => r_ia1 (i := k) rfl rfl (by omega) (by omega) Try.underlying29 sz3) ?_
      refine q_run rfl rfl (fun _ H => r_lo H 1 rfl rfl (gh hk) ag3) ?_
      refine q_run rfl rfl (fun _ H => r_max rfl rfl (imax _ _)) ?_
      refine q_run rfl rfl (fun _ H => r_nc rfl) ?_
      refine q_run rfl rfl (fun _ H => r_fa0 rfl fo76_3) ?_
      refine q_run rfl rfl (fun _ H => r_ia1 (i := k) rfl rfl (by omega) (by omega) Try.underlying29 sz3) ?_
      refine q_nil ?_
      intro _ H'; clear H; have H := H'; clear H'
      refine s_stC H 1 rfl rfl rfl rfl (gp hk) (sp hk) rfl sz3 ?_
      clear H; intro _ H; simp only [jA, jB, jC, jD, jE, jF, jG, jH, jI, jJ, jK, Nat.reduceAdd] at H
      refine k_nc ?_
      refine k_sg ?_
      refine s_run rfl rfl (rai rfl) ?_
      refine k_nc ?_
      refine k_ret ?_
      refine fin1r (v := .int _ _) rfl rfl ?_
      rw [hpn, upI_at] at H
      exact ⟨rfl, H.drop⟩
 ·rw [if_pos (by omega)]
  simp only [inM_f (show m < 0 ∨ 4 ≤ m by omega)] at hR
  refine k_in (N := 108) Try.func16 rfl rfl rfl ?_
  refine k_sg ?_
  refine s_run rfl rfl (rai rfl) ?_
  refine k_nc ?_
  refine k_seq ?_
  refine k_sg ?_
  refine s_run rfl rfl (rmi rfl) ?_
  refine s_call rfl (hR _) (ca39 rfl) ?_
  rintro e W1 ⟨rfl, H'⟩
  refine ⟨_, rfl, ?_⟩
  have H := H.same H'; clear H'
  refine s_run rfl rfl (r_notF rfl) ?_
  refine s_run rfl rfl (rmb rfl) ?_
  refine s_off rfl (g_off 15 (by kernel_rfl) rfl rfl) ?_
  refine s_off rfl (g_off 15 (by kernel_rfl) rfl rfl) ?_
  refine s_run rfl rfl (r_pkT (v := .bool _) rfl rfl) ?_
  refine s_run rfl rfl (rmb rfl) ?_
  refine s_off rfl (g_off 19 (by kernel_rfl) rfl rfl) ?_
  refine s_off rfl (g_off 19 (by kernel_rfl) rfl rfl) ?_
  refine s_run rfl rfl (r_pkT (v := .bool _) rfl rfl) ?_
  refine k_nc ?_
  refine k_t rfl ?_
  refine k_sg ?_
  refine s_run rfl rfl (rai rfl) ?_
  refine k_nc ?_
  refine k_ret ?_
  refine c_ret ?_
  refine fin1r (v := .int _ _) rfl rfl ?_
  exact ⟨rfl, H⟩
end Go.Proofs.Ytpbimgopiammaaa
end

section
namespace Go.Proofs.Ytpbimgopiammaaa
open Go.RowKit
set_option maxRecDepth 100000
set_option maxHeartbeats 4000000
theorem oGive (p b : Nat) (s : LdS) (N : Nat) (m a : Int) (w : World) (hE : Ents (ldE p b s) w) (hok : LdOk N s) (hN : N ≤ 1000) (ha : wfI a) :
  Calls Try.prog 15 [ptrL p, .int .i64 m, .int .i64 a].toArray w fun e w' => e = .returned (.tuple [.int .i64 (s.give m a).2.1, .int .i64 (s.give m a).2.2].toArray) ∧ Heap w (ids (ldE p b s)) (ldE p b (s.give m a).1) w' := by
 have H := Heap.start hE
 have hR := fun W => oRight m W
 unfold LdS.give
 by_cases hm : 0 ≤ m ∧ m < 4
 ·simp only [inM_t hm] at hR
  rw [if_neg (by omega)]
  have gd := gdE hm ha
  unfold ldE at H
  cases hg : mget s.L (m, a) with
  | none =>
   refine k_in (N := 45) Try.func15 rfl rfl rfl ?_
   refine k_sg ?_
   refine s_run rfl rfl (rai rfl) ?_
   refine s_run rfl rfl (rai rfl) ?_
   refine k_nc ?_
   refine k_seq ?_
   refine k_sg ?_
   refine s_run rfl rfl (rmi rfl) ?_
   refine s_call rfl (hR _) (ca39 rfl) ?_
   rintro e W1 ⟨rfl, H'⟩
   refine ⟨_, rfl, ?_⟩
   have H := H.same H'; clear H'
   refine s_run rfl rfl (r_notT rfl) ?_
   refine k_nc ?_
   refine k_f rfl ?_
   refine k_skip ?_
   refine c_norm ?_
   refine k_sg ?_
   refine s_run rfl rfl (rmi rfl) ?_
   refine s_run rfl rfl (rmi rfl) ?_
   refine s_run rfl rfl (r_bd (bd86_0_1 _ _) rfl) ?_
   refine s_al H rfl inf86 ?_
   intro p8 _ H'; clear H; have H := H'; clear H'
   refine s_sw H 0 rfl rfl rfl rfl rfl rfl rfl sz86 ?_
   clear H; intro _ H; simp only [jA, jB, jC, jD, jE, jF, jG, jH, jI, jJ, jK, Nat.reduceAdd] at H
   refine k_nc ?_
   refine k_seq ?_
   refine k_q mixed (by kernel_rfl) H ?_
   refine q_run rfl rfl (fun _ H => r_mv (v := .pointer _) rfl) ?_
   refine q_run rfl rfl (fun _ H => r_nc rfl) ?_
   refine q_run rfl rfl (fun _ H => r_fa0 rfl fo76_0) ?_
   refine q_run rfl rfl (fun _ H => r_lo H 1 rfl rfl rfl ag74) ?_
   refine q_run rfl rfl (fun _ H => r_la H 0 rfl rfl rfl ag86 sz86) ?_
   refine q_run rfl rfl (fun _ H => r_loN H 2 rfl rfl rfl (gd) (hg) Try.underlying74 (zv_of inf3)) ?_
   refine q_run rfl rfl (fun _ H => r_mv (v := .tuple _) rfl) ?_
   refine q_run rfl rfl (fun _ H => r_ext (v := .int _ _) rfl rfl) ?_
   refine q_run rfl rfl (fun _ H => r_ext (v := .bool _) rfl rfl) ?_
   refine q_run rfl rfl (fun _ H => r_as (v := .int _ _) rfl) ?_
   refine q_run rfl rfl (fun _ H => r_as (v := .bool _) rfl) ?_
   refine q_nil ?_
   intro _ H'; clear H; have H := H'; clear H'
   refine c_norm ?_
   refine k_seq ?_
   refine k_sg ?_
   refine s_run rfl rfl (rmb rfl) ?_
   refine s_run rfl rfl (r_notF rfl) ?_
   refine k_nc ?_
   refine k_t rfl ?_
   refine k_sg ?_
   refine s_run rfl rfl (rai rfl) ?_
   refine s_run rfl rfl (rai rfl) ?_
   refine k_nc ?_
   refine k_ret ?_
   refine c_ret ?_
   refine fin2r (v := .int _ _) (v2 := .int _ _) rfl rfl rfl ?_
   exact ⟨rfl, H.drop⟩
  | some n =>
   have hbm := hok.bd m hm.1 hm.2
   obtain ⟨j, hj, hd⟩ := mget_at hok.nd hg
   have hkn := hok.key _ (List.mem_of_getElem? hj)
   simp only at hkn
   have hhk := hok.h m hm.1 hm.2
   obtain ⟨k, rfl⟩ := Int.eq_ofNat_of_zero_le hm.1
   have hk : k < 4 := by omega
   refine k_in (N := 45) Try.func15 rfl rfl rfl ?_
   refine k_sg ?_
   refine s_run rfl rfl (rai rfl) ?_
   refine s_run rfl rfl (rai rfl) ?_
   refine k_nc ?_
   refine k_seq ?_
   refine k_sg ?_
   refine s_run rfl rfl (rmi rfl) ?_
   refine s_call rfl (hR _) (ca39 rfl) ?_
   rintro e W1 ⟨rfl, H'⟩
   refine ⟨_, rfl, ?_⟩
   have H := H.same H'; clear H'
   refine s_run rfl rfl (r_notT rfl) ?_
   refine k_nc ?_
   refine k_f rfl ?_
   refine k_skip ?_
   refine c_norm ?_
   refine k_sg ?_
   refine s_run rfl rfl (rmi rfl) ?_
   refine s_run rfl rfl (rmi rfl) ?_
   refine s_run rfl rfl (r_bd (bd86_0_1 _ _) rfl) ?_
   refine s_al H rfl inf86 ?_
   intro p8 _ H'; clear H; have H := H'; clear H'
   refine s_sw H 0 rfl rfl rfl rfl rfl rfl rfl sz86 ?_
   clear H; intro _ H; simp only [jA, jB, jC, jD, jE, jF, jG, jH, jI, jJ, jK, Nat.reduceAdd] at H
   refine k_nc ?_
   refine k_seq ?_
   refine k_q mixed (by kernel_rfl) H ?_
   refine q_run rfl rfl (fun _ H => r_mv (v := .pointer _) rfl) ?_
   refine q_run rfl rfl (fun _ H => r_nc rfl) ?_
   refine q_run rfl rfl (fun _ H => r_fa0 rfl fo76_0) ?_
   refine q_run rfl rfl (fun _ H => r_lo H 1 rfl rfl rfl ag74) ?_
   refine q_run rfl rfl (fun _ H => r_la H 0 rfl rfl rfl ag86 sz86) ?_
   refine q_run rfl rfl (fun _ H => r_loS H 2 rfl rfl rfl (gd) (hg) Try.underlying74 (zv_of inf3) rfl) ?_
   refine q_run rfl rfl (fun _ H => r_mv (v := .tuple _) rfl) ?_
   refine q_run rfl rfl (fun _ H => r_ext (v := .int _ _) rfl rfl) ?_
   refine q_run rfl rfl (fun _ H => r_ext (v := .bool _) rfl rfl) ?_
   refine q_run rfl rfl (fun _ H => r_as (v := .int _ _) rfl) ?_
   refine q_run rfl rfl (fun _ H => r_as (v := .bool _) rfl) ?_
   refine q_nil ?_
   intro _ H'; clear H; have H := H'; clear H'
   refine c_norm ?_
   refine k_seq ?_
   refine k_sg ?_
   refine s_run rfl rfl (rmb rfl) ?_
   refine s_run rfl rfl (r_notT rfl) ?_
   refine k_nc ?_
   refine k_f rfl ?_
   refine k_skip ?_
   refine c_norm ?_
   refine k_seq ?_
   refine k_qt 5 mixed (by kernel_rfl) H rfl rfl ?_
   refine q_run rfl rfl (fun _ H => r_mv (v := .pointer _) rfl) ?_
   refine q_run rfl rfl (fun _ H => r_nc rfl) ?_
   refine q_run rfl rfl (fun _ H => r_fa0 rfl fo76_0) ?_
   refine q_run rfl rfl (fun _ H => r_lo H 1 rfl rfl rfl ag74) ?_
   refine q_run rfl rfl (fun _ H => r_la H 0 rfl rfl rfl ag86 sz86) ?_
   refine q_nil ?_
   intro _ H'; clear H; have H := H'; clear H'
   refine s_dl H 2 rfl rfl rfl rfl (gd) Try.underlying74 ?_
   clear H; intro _ H; simp only [jA, jB, jC, jD, jE, jF, jG, jH, jI, jJ, jK, Nat.reduceAdd] at H
   refine k_nc ?_
   refine k_seq ?_
   refine k_qt 11 mixed (by kernel_rfl) H rfl rfl ?_
   refine q_run rfl rfl (fun _ H => r_mv (v := .pointer _) rfl) ?_
   refine q_run rfl rfl (fun _ H => r_mv (v := .int _ _) rfl) ?_
   refine q_run rfl rfl (fun _ H => r_nc rfl) ?_
   refine q_run rfl rfl (fun _ H => r_fa0 rfl fo76_2) ?_
   refine q_run rfl rfl (fun _ H => r_ia1 (i := k) rfl rfl (by omega) (by omega) Try.underlying29 sz3) ?_
   refine q_run rfl rfl (fun _ H => r_lo H 1 rfl rfl (gh hk) ag3) ?_
   refine q_run rfl rfl (fun _ H => r_mv (v := .int _ _) rfl) ?_
   refine q_run rfl rfl (fun _ H => r_sub rfl rfl (wI (by omega))) ?_
   refine q_run rfl rfl (fun _ H => r_nc rfl) ?_
   refine q_run rfl rfl (fun _ H => r_fa0 rfl fo76_2) ?_
   refine q_run rfl rfl (fun _ H => r_ia1 (i := k) rfl rfl (by omega) (by omega) Try.underlying29 sz3) ?_
   refine q_nil ?_
   intro _ H'; clear H; have H := H'; clear H'
   refine s_stC H 1 rfl rfl rfl rfl (gh hk) (sh hk) rfl sz3 ?_
   clear H; intro _ H; simp only [jA, jB, jC, jD, jE, jF, jG, jH, jI, jJ, jK, Nat.reduceAdd] at H
   refine k_nc ?_
   refine k_sg ?_
   refine s_run rfl rfl (rmi rfl) ?_
   refine s_run rfl rfl (rai rfl) ?_
   refine s_run rfl rfl (rai rfl) ?_
   refine k_nc ?_
   refine k_ret ?_
   refine fin2r (v := .int _ _) (v2 := .int _ _) rfl rfl rfl ?_
   exact ⟨rfl, H.drop⟩
 ·rw [if_pos (by omega)]
  simp only [inM_f (show m < 0 ∨ 4 ≤ m by omega)] at hR
  refine k_in (N := 45) Try.func15 rfl rfl rfl ?_
  refine k_sg ?_
  refine s_run rfl rfl (rai rfl) ?_
  refine s_run rfl rfl (rai rfl) ?_
  refine k_nc ?_
  refine k_seq ?_
  refine k_sg ?_
  refine s_run rfl rfl (rmi rfl) ?_
  refine s_call rfl (hR _) (ca39 rfl) ?_
  rintro e W1 ⟨rfl, H'⟩
  refine ⟨_, rfl, ?_⟩
  have H := H.same H'; clear H'
  refine s_run rfl rfl (r_notF rfl) ?_
  refine k_nc ?_
  refine k_t rfl ?_
  refine k_sg ?_
  refine s_run rfl rfl (rai rfl) ?_
  refine s_run rfl rfl (rai rfl) ?_
  refine k_nc ?_
  refine k_ret ?_
  refine c_ret ?_
  refine fin2r (v := .int _ _) (v2 := .int _ _) rfl rfl rfl ?_
  exact ⟨rfl, H⟩
theorem oPass (p b : Nat) (s : LdS) (N : Nat) (f t a : Int) (w : World) (hE : Ents (ldE p b s) w) (hok : LdOk N s) (hN : N ≤ 900) (ha : wfI a) :
  Calls Try.prog 14 [ptrL p, .int .i64 f, .int .i64 t, .int .i64 a].toArray w fun e w' => e = .returned (.int .i64 (s.pass f t a).2) ∧ Heap w (ids (ldE p b s)) (ldE p b (s.pass f t a).1) w' := by
 have H := Heap.start hE
 have hR := fun W => oRight f W
 have hR2 := fun W => oRight t W
 unfold LdS.pass
 by_cases hm : 0 ≤ f ∧ f < 4
 ·simp only [inM_t hm] at hR
  by_cases hm2 : 0 ≤ t ∧ t < 4
  ·simp only [inM_t hm2] at hR2
   rw [if_neg (by omega)]
   have gd := gdE hm ha
   cases hg : mget s.L (f, a) with
   | none =>
    unfold ldE at H
    refine k_in (N := 56) Try.func14 rfl rfl rfl ?_
    refine k_sg ?_
    refine s_run rfl rfl (rai rfl) ?_
    refine k_nc ?_
    refine k_seq ?_
    refine k_sg ?_
    refine s_run rfl rfl (rmi rfl) ?_
    refine s_call rfl (hR _) (ca39 rfl) ?_
    rintro e W1 ⟨rfl, H'⟩
    refine ⟨_, rfl, ?_⟩
    have H := H.same H'; clear H'
    refine s_run rfl rfl (r_notT rfl) ?_
    refine s_run rfl rfl (rmb rfl) ?_
    refine s_run rfl (g_on 17 (by kernel_rfl) rfl) (rmi rfl) ?_
    refine s_call (g_on 17 (by kernel_rfl) rfl) (hR2 _) (ca39 rfl) ?_
    rintro e W1 ⟨rfl, H'⟩
    refine ⟨_, rfl, ?_⟩
    have H := H.same H'; clear H'
    refine s_run rfl (g_on 17 (by kernel_rfl) rfl) (r_notT rfl) ?_
    refine s_run rfl rfl (r_pkF (v := .bool _) rfl rfl) ?_
    refine k_nc ?_
    refine k_f rfl ?_
    refine k_skip ?_
    refine c_norm ?_
    refine k_sg ?_
    refine s_run rfl rfl (rmp rfl) ?_
    refine s_run rfl rfl (r_nc rfl) ?_
    refine s_run rfl rfl (r_fa0 rfl fo76_0) ?_
    refine s_run rfl rfl (r_lo H 0 rfl rfl rfl ag74) ?_
    refine s_run rfl rfl (rmi rfl) ?_
    refine s_run rfl rfl (rmi rfl) ?_
    refine s_run rfl rfl (r_bd (bd86_0_1 _ _) rfl) ?_
    refine s_run rfl rfl (r_loN H 1 rfl rfl rfl (gd) (hg) Try.underlying74 (zv_of inf3)) ?_
    refine s_run rfl rfl (rmt rfl) ?_
    refine s_run rfl rfl (r_ext (v := .int _ _) rfl rfl) ?_
    refine s_run rfl rfl (r_ext (v := .bool _) rfl rfl) ?_
    refine s_run rfl rfl (rai rfl) ?_
    refine s_run rfl rfl (rab rfl) ?_
    refine k_nc ?_
    refine k_seq ?_
    refine k_b ?_
    refine k_sg ?_
    refine s_run rfl rfl (rmb rfl) ?_
    refine s_run rfl rfl (r_notF rfl) ?_
    refine s_run rfl rfl (rab rfl) ?_
    refine k_nc ?_
    refine k_t rfl ?_
    refine k_sg ?_
    refine s_run rfl rfl (rai rfl) ?_
    refine k_nc ?_
    refine k_ret ?_
    refine b_ret ?_
    refine c_ret ?_
    refine fin1r (v := .int _ _) rfl rfl ?_
    exact ⟨rfl, H⟩
   | some n =>
    simp only
    by_cases hft : f = t
    ·rw [if_pos hft]
     unfold ldE at H
     refine k_in (N := 56) Try.func14 rfl rfl rfl ?_
     refine k_sg ?_
     refine s_run rfl rfl (rai rfl) ?_
     refine k_nc ?_
     refine k_seq ?_
     refine k_sg ?_
     refine s_run rfl rfl (rmi rfl) ?_
     refine s_call rfl (hR _) (ca39 rfl) ?_
     rintro e W1 ⟨rfl, H'⟩
     refine ⟨_, rfl, ?_⟩
     have H := H.same H'; clear H'
     refine s_run rfl rfl (r_notT rfl) ?_
     refine s_run rfl rfl (rmb rfl) ?_
     refine s_run rfl (g_on 17 (by kernel_rfl) rfl) (rmi rfl) ?_
     refine s_call (g_on 17 (by kernel_rfl) rfl) (hR2 _) (ca39 rfl) ?_
     rintro e W1 ⟨rfl, H'⟩
     refine ⟨_, rfl, ?_⟩
     have H := H.same H'; clear H'
     refine s_run rfl (g_on 17 (by kernel_rfl) rfl) (r_notT rfl) ?_
     refine s_run rfl rfl (r_pkF (v := .bool _) rfl rfl) ?_
     refine k_nc ?_
     refine k_f rfl ?_
     refine k_skip ?_
     refine c_norm ?_
     refine k_sg ?_
     refine s_run rfl rfl (rmp rfl) ?_
     refine s_run rfl rfl (r_nc rfl) ?_
     refine s_run rfl rfl (r_fa0 rfl fo76_0) ?_
     refine s_run rfl rfl (r_lo H 0 rfl rfl rfl ag74) ?_
     refine s_run rfl rfl (rmi rfl) ?_
     refine s_run rfl rfl (rmi rfl) ?_
     refine s_run rfl rfl (r_bd (bd86_0_1 _ _) rfl) ?_
     refine s_run rfl rfl (r_loS H 1 rfl rfl rfl (gd) (hg) Try.underlying74 (zv_of inf3) rfl) ?_
     refine s_run rfl rfl (rmt rfl) ?_
     refine s_run rfl rfl (r_ext (v := .int _ _) rfl rfl) ?_
     refine s_run rfl rfl (r_ext (v := .bool _) rfl rfl) ?_
     refine s_run rfl rfl (rai rfl) ?_
     refine s_run rfl rfl (rab rfl) ?_
     refine k_nc ?_
     refine k_seq ?_
     refine k_b ?_
     refine k_sg ?_
     refine s_run rfl rfl (rmb rfl) ?_
     refine s_run rfl rfl (r_notT rfl) ?_
     refine s_run rfl rfl (rab rfl) ?_
     refine k_nc ?_
     refine k_f rfl ?_
     refine k_sg ?_
     refine s_run rfl rfl (rmi rfl) ?_
     refine s_run rfl rfl (rmi rfl) ?_
     refine s_run rfl rfl (r_eqlT rfl rfl (by omega)) ?_
     refine s_run rfl rfl (rab rfl) ?_
     refine k_nc ?_
     refine k_t rfl ?_
     refine k_sg ?_
     refine s_run rfl rfl (rai rfl) ?_
     refine k_nc ?_
     refine k_ret ?_
     refine b_ret ?_
     refine c_ret ?_
     refine fin1r (v := .int _ _) rfl rfl ?_
     exact ⟨rfl, H⟩
    ·rw [if_neg hft]
     have hT := fun {W : World} hE => oTake p b s N t a n W hE hok (by omega) ha
     have hok2 := hok.take t a n ha
     have hG := fun {W : World} hE => oGive p b (s.take t a n).1 (N + 1) f a W hE hok2 (by omega) ha
     by_cases hc : (s.take t a n).2 = 0
     ·rw [if_neg (by omega)]
      refine k_in (N := 56) Try.func14 rfl rfl rfl ?_
      refine k_sg ?_
      refine s_run rfl rfl (rai rfl) ?_
      refine k_nc ?_
      refine k_seq ?_
      refine k_sg ?_
      refine s_run rfl rfl (rmi rfl) ?_
      refine s_call rfl (hR _) (ca39 rfl) ?_
      rintro e W1 ⟨rfl, H'⟩
      refine ⟨_, rfl, ?_⟩
      have H := H.same H'; clear H'
      refine s_run rfl rfl (r_notT rfl) ?_
      refine s_run rfl rfl (rmb rfl) ?_
      refine s_run rfl (g_on 17 (by kernel_rfl) rfl) (rmi rfl) ?_
      refine s_call (g_on 17 (by kernel_rfl) rfl) (hR2 _) (ca39 rfl) ?_
      rintro e W1 ⟨rfl, H'⟩
      refine ⟨_, rfl, ?_⟩
      have H := H.same H'; clear H'
      refine s_run rfl (g_on 17 (by kernel_rfl) rfl) (r_notT rfl) ?_
      refine s_run rfl rfl (r_pkF (v := .bool _) rfl rfl) ?_
      refine k_nc ?_
      refine k_f rfl ?_
      refine k_skip ?_
      refine c_norm ?_
      refine k_sg ?_
      refine s_run rfl rfl (rmp rfl) ?_
      refine s_run rfl rfl (r_nc rfl) ?_
      refine s_run rfl rfl (r_fa0 rfl fo76_0) ?_
      refine s_run rfl rfl (r_lo H 0 rfl rfl rfl ag74) ?_
      refine s_run rfl rfl (rmi rfl) ?_
      refine s_run rfl rfl (rmi rfl) ?_
      refine s_run rfl rfl (r_bd (bd86_0_1 _ _) rfl) ?_
      refine s_run rfl rfl (r_loS H 1 rfl rfl rfl (gd) (hg) Try.underlying74 (zv_of inf3) rfl) ?_
      refine s_run rfl rfl (rmt rfl) ?_
      refine s_run rfl rfl (r_ext (v := .int _ _) rfl rfl) ?_
      refine s_run rfl rfl (r_ext (v := .bool _) rfl rfl) ?_
      refine s_run rfl rfl (rai rfl) ?_
      refine s_run rfl rfl (rab rfl) ?_
      refine k_nc ?_
      refine k_seq ?_
      refine k_b ?_
      refine k_sg ?_
      refine s_run rfl rfl (rmb rfl) ?_
      refine s_run rfl rfl (r_notT rfl) ?_
      refine s_run rfl rfl (rab rfl) ?_
      refine k_nc ?_
      refine k_f rfl ?_
      refine k_sg ?_
      refine s_run rfl rfl (rmi rfl) ?_
      refine s_run rfl rfl (rmi rfl) ?_
      refine s_run rfl rfl (r_eqlF rfl rfl (by omega)) ?_
      refine s_run rfl rfl (rab rfl) ?_
      refine k_nc ?_
      refine k_f rfl ?_
      refine k_skip ?_
      refine b_norm ?_
      refine c_norm ?_
      refine k_seq ?_
      refine k_sg ?_
      refine s_run rfl rfl (rmp rfl) ?_
      refine s_run rfl rfl (rmi rfl) ?_
      refine s_run rfl rfl (rmi rfl) ?_
      refine s_run rfl rfl (rmi rfl) ?_
      refine s_call rfl (hT H.ents) (ca16 rfl) ?_
      rintro e W1 ⟨rfl, H'⟩
      refine ⟨_, rfl, ?_⟩
      have H := H.whole H'; clear H'
      refine s_run rfl rfl (rai rfl) ?_
      refine k_nc ?_
      refine k_sg ?_
      refine s_run rfl rfl (rmi rfl) ?_
      refine s_run rfl rfl (r_neqF rfl rfl (by omega)) ?_
      refine k_nc ?_
      refine k_f rfl ?_
      refine k_skip ?_
      refine c_norm ?_
      refine k_sg ?_
      refine s_run rfl rfl (rmp rfl) ?_
      refine s_run rfl rfl (rmi rfl) ?_
      refine s_run rfl rfl (rmi rfl) ?_
      refine s_call rfl (hG H.ents) (ca15 rfl) ?_
      rintro e W1 ⟨rfl, H'⟩
      refine ⟨_, rfl, ?_⟩
      have H := H.whole H'; clear H'
      refine s_run rfl rfl (rmt rfl) ?_
      refine s_run rfl rfl (r_ext (v := .int _ _) rfl rfl) ?_
      refine s_run rfl rfl (r_ext (v := .int _ _) rfl rfl) ?_
      refine s_run rfl rfl (rai rfl) ?_
      refine s_run rfl rfl (rai rfl) ?_
      refine k_nc ?_
      refine k_sg ?_
      refine s_run rfl rfl (rmi rfl) ?_
      refine s_run rfl rfl (rai rfl) ?_
      refine k_nc ?_
      refine k_ret ?_
      refine fin1r (v := .int _ _) rfl rfl ?_
      exact ⟨rfl, H⟩
     ·rw [if_pos hc]
      have hsame : (s.take t a n).1 = s := by
       unfold LdS.take at hc ⊢
       split
       ·rfl
       ·rename_i h1
        rw [if_neg h1] at hc
        split
        ·rfl
        ·rename_i h2
         rw [if_neg h2] at hc
         split
         ·rfl
         ·rename_i h3
          rw [if_neg h3] at hc
          simp at hc
      rw [hsame] at hT
      refine k_in (N := 56) Try.func14 rfl rfl rfl ?_
      refine k_sg ?_
      refine s_run rfl rfl (rai rfl) ?_
      refine k_nc ?_
      refine k_seq ?_
      refine k_sg ?_
      refine s_run rfl rfl (rmi rfl) ?_
      refine s_call rfl (hR _) (ca39 rfl) ?_
      rintro e W1 ⟨rfl, H'⟩
      refine ⟨_, rfl, ?_⟩
      have H := H.same H'; clear H'
      refine s_run rfl rfl (r_notT rfl) ?_
      refine s_run rfl rfl (rmb rfl) ?_
      refine s_run rfl (g_on 17 (by kernel_rfl) rfl) (rmi rfl) ?_
      refine s_call (g_on 17 (by kernel_rfl) rfl) (hR2 _) (ca39 rfl) ?_
      rintro e W1 ⟨rfl, H'⟩
      refine ⟨_, rfl, ?_⟩
      have H := H.same H'; clear H'
      refine s_run rfl (g_on 17 (by kernel_rfl) rfl) (r_notT rfl) ?_
      refine s_run rfl rfl (r_pkF (v := .bool _) rfl rfl) ?_
      refine k_nc ?_
      refine k_f rfl ?_
      refine k_skip ?_
      refine c_norm ?_
      refine k_sg ?_
      refine s_run rfl rfl (rmp rfl) ?_
      refine s_run rfl rfl (r_nc rfl) ?_
      refine s_run rfl rfl (r_fa0 rfl fo76_0) ?_
      refine s_run rfl rfl (r_lo H 0 rfl rfl rfl ag74) ?_
      refine s_run rfl rfl (rmi rfl) ?_
      refine s_run rfl rfl (rmi rfl) ?_
      refine s_run rfl rfl (r_bd (bd86_0_1 _ _) rfl) ?_
      refine s_run rfl rfl (r_loS H 1 rfl rfl rfl (gd) (hg) Try.underlying74 (zv_of inf3) rfl) ?_
      refine s_run rfl rfl (rmt rfl) ?_
      refine s_run rfl rfl (r_ext (v := .int _ _) rfl rfl) ?_
      refine s_run rfl rfl (r_ext (v := .bool _) rfl rfl) ?_
      refine s_run rfl rfl (rai rfl) ?_
      refine s_run rfl rfl (rab rfl) ?_
      refine k_nc ?_
      refine k_seq ?_
      refine k_b ?_
      refine k_sg ?_
      refine s_run rfl rfl (rmb rfl) ?_
      refine s_run rfl rfl (r_notT rfl) ?_
      refine s_run rfl rfl (rab rfl) ?_
      refine k_nc ?_
      refine k_f rfl ?_
      refine k_sg ?_
      refine s_run rfl rfl (rmi rfl) ?_
      refine s_run rfl rfl (rmi rfl) ?_
      refine s_run rfl rfl (r_eqlF rfl rfl (by omega)) ?_
      refine s_run rfl rfl (rab rfl) ?_
      refine k_nc ?_
      refine k_f rfl ?_
      refine k_skip ?_
      refine b_norm ?_
      refine c_norm ?_
      refine k_seq ?_
      refine k_sg ?_
      refine s_run rfl rfl (rmp rfl) ?_
      refine s_run rfl rfl (rmi rfl) ?_
      refine s_run rfl rfl (rmi rfl) ?_
      refine s_run rfl rfl (rmi rfl) ?_
      refine s_call rfl (hT H.ents) (ca16 rfl) ?_
      rintro e W1 ⟨rfl, H'⟩
      refine ⟨_, rfl, ?_⟩
      have H := H.whole H'; clear H'
      refine s_run rfl rfl (rai rfl) ?_
      refine k_nc ?_
      refine k_sg ?_
      refine s_run rfl rfl (rmi rfl) ?_
      refine s_run rfl rfl (r_neqT rfl rfl (by omega)) ?_
      refine k_nc ?_
      refine k_t rfl ?_
      refine k_sg ?_
      refine s_run rfl rfl (rmi rfl) ?_
      refine s_run rfl rfl (rai rfl) ?_
      refine k_nc ?_
      refine k_ret ?_
      refine c_ret ?_
      refine fin1r (v := .int _ _) rfl rfl ?_
      exact ⟨rfl, H⟩
  ·simp only [inM_f (show t < 0 ∨ 4 ≤ t by omega)] at hR2
   rw [if_pos (by omega)]
   refine k_in (N := 56) Try.func14 rfl rfl rfl ?_
   refine k_sg ?_
   refine s_run rfl rfl (rai rfl) ?_
   refine k_nc ?_
   refine k_seq ?_
   refine k_sg ?_
   refine s_run rfl rfl (rmi rfl) ?_
   refine s_call rfl (hR _) (ca39 rfl) ?_
   rintro e W1 ⟨rfl, H'⟩
   refine ⟨_, rfl, ?_⟩
   have H := H.same H'; clear H'
   refine s_run rfl rfl (r_notT rfl) ?_
   refine s_run rfl rfl (rmb rfl) ?_
   refine s_run rfl (g_on 17 (by kernel_rfl) rfl) (rmi rfl) ?_
   refine s_call (g_on 17 (by kernel_rfl) rfl) (hR2 _) (ca39 rfl) ?_
   rintro e W1 ⟨rfl, H'⟩
   refine ⟨_, rfl, ?_⟩
   have H := H.same H'; clear H'
   refine s_run rfl (g_on 17 (by kernel_rfl) rfl) (r_notF rfl) ?_
   refine s_run rfl rfl (r_pkF (v := .bool _) rfl rfl) ?_
   refine k_nc ?_
   refine k_t rfl ?_
   refine k_sg ?_
   refine s_run rfl rfl (rai rfl) ?_
   refine k_nc ?_
   refine k_ret ?_
   refine c_ret ?_
   refine fin1r (v := .int _ _) rfl rfl ?_
   exact ⟨rfl, H⟩
 ·rw [if_pos (by omega)]
  simp only [inM_f (show f < 0 ∨ 4 ≤ f by omega)] at hR
  refine k_in (N := 56) Try.func14 rfl rfl rfl ?_
  refine k_sg ?_
  refine s_run rfl rfl (rai rfl) ?_
  refine k_nc ?_
  refine k_seq ?_
  refine k_sg ?_
  refine s_run rfl rfl (rmi rfl) ?_
  refine s_call rfl (hR _) (ca39 rfl) ?_
  rintro e W1 ⟨rfl, H'⟩
  refine ⟨_, rfl, ?_⟩
  have H := H.same H'; clear H'
  refine s_run rfl rfl (r_notF rfl) ?_
  refine s_run rfl rfl (rmb rfl) ?_
  refine s_off rfl (g_off 17 (by kernel_rfl) rfl rfl) ?_
  refine s_off rfl (g_off 17 (by kernel_rfl) rfl rfl) ?_
  refine s_off rfl (g_off 17 (by kernel_rfl) rfl rfl) ?_
  refine s_run rfl rfl (r_pkT (v := .bool _) rfl rfl) ?_
  refine k_nc ?_
  refine k_t rfl ?_
  refine k_sg ?_
  refine s_run rfl rfl (rai rfl) ?_
  refine k_nc ?_
  refine k_ret ?_
  refine c_ret ?_
  refine fin1r (v := .int _ _) rfl rfl ?_
  exact ⟨rfl, H⟩
def getM (g : Int → Int) (m : Int) : Int := if 0 ≤ m ∧ m < 4 then g m else 0
theorem oHeld (p b : Nat) (s : LdS) (m : Int) (w : World) (hE : Ents (ldE p b s) w) :
  Calls Try.prog 12 [ptrL p, .int .i64 m].toArray w fun e w' => e = .returned (.int .i64 (getM s.h m)) ∧ Only [] w w' := by
 have HR := Heap.start hE
 have H := Heap.nil w
 have hR := fun W => oRight m W
 unfold getM
 unfold ldE at HR
 by_cases hm : 0 ≤ m ∧ m < 4
 ·simp only [inM_t hm] at hR
  rw [if_pos hm]
  obtain ⟨k, rfl⟩ := Int.eq_ofNat_of_zero_le hm.1
  have hk : k < 4 := by omega
  refine k_in (N := 14) Try.func12 rfl rfl rfl ?_
  refine k_sg ?_
  refine s_run rfl rfl (rai rfl) ?_
  refine k_nc ?_
  refine k_seq ?_
  refine k_sg ?_
  refine s_run rfl rfl (rmi rfl) ?_
  refine s_call rfl (hR _) (ca39 rfl) ?_
  rintro e W1 ⟨rfl, H'⟩
  refine ⟨_, rfl, ?_⟩
  have H := H.same H'; clear H'
  refine s_run rfl rfl (r_notT rfl) ?_
  refine k_nc ?_
  refine k_f rfl ?_
  refine k_skip ?_
  refine c_norm ?_
  refine k_sg ?_
  refine s_run rfl rfl (rmp rfl) ?_
  refine s_run rfl rfl (rmi rfl) ?_
  refine s_run rfl rfl (r_nc rfl) ?_
  refine s_run rfl rfl (r_fa0 rfl fo76_2) ?_
  refine s_run rfl rfl (r_ia1 (i := k) rfl rfl (by omega) (by omega) Try.underlying29 sz3) ?_
  refine s_run rfl rfl (r_lo (HR.same H.only) 0 rfl rfl (gh hk) ag3) ?_
  refine s_run rfl rfl (rai rfl) ?_
  refine k_nc ?_
  refine k_ret ?_
  refine fin1r (v := .int _ _) rfl rfl ?_
  exact ⟨rfl, H.only⟩
 ·rw [if_neg hm]
  simp only [inM_f (show m < 0 ∨ 4 ≤ m by omega)] at hR
  refine k_in (N := 14) Try.func12 rfl rfl rfl ?_
  refine k_sg ?_
  refine s_run rfl rfl (rai rfl) ?_
  refine k_nc ?_
  refine k_seq ?_
  refine k_sg ?_
  refine s_run rfl rfl (rmi rfl) ?_
  refine s_call rfl (hR _) (ca39 rfl) ?_
  rintro e W1 ⟨rfl, H'⟩
  refine ⟨_, rfl, ?_⟩
  have H := H.same H'; clear H'
  refine s_run rfl rfl (r_notF rfl) ?_
  refine k_nc ?_
  refine k_t rfl ?_
  refine k_sg ?_
  refine s_run rfl rfl (rai rfl) ?_
  refine k_nc ?_
  refine k_ret ?_
  refine c_ret ?_
  refine fin1r (v := .int _ _) rfl rfl ?_
  exact ⟨rfl, H.only⟩
end Go.Proofs.Ytpbimgopiammaaa
end

section
namespace Go.Proofs.Ytpbimgopiammaaa
open Go.RowKit
set_option maxRecDepth 100000
set_option maxHeartbeats 4000000
def newQ (qs : List Int) (k : Int) : Int := if k.toNat < qs.length then max (qs.getD k.toNat 0) (-1) else -1
def ldNew (qs : List Int) : LdS := ⟨[], newQ qs, fun _ => 0, fun _ => 0, fun _ => 0⟩
theorem ldC_q {b : Nat} {q q' h pk tk : Int → Int} (hq : ∀ k : Nat, k < 4 → q k = q' k) : ldC b q h pk tk = ldC b q' h pk tk := by
 have h0 := hq 0 (by omega)
 have h1 := hq 1 (by omega)
 have h2 := hq 2 (by omega)
 have h3 := hq 3 (by omega)
 simp only [Int.ofNat_eq_natCast, Int.cast_ofNat_Int] at h0 h1 h2 h3
 unfold ldC
 rw [show q 0 = q' 0 from h0, show q 1 = q' 1 from h1, show q 2 = q' 2 from h2, show q 3 = q' 3 from h3]
theorem ldNew_ok (qs : List Int) (hb : ∀ x ∈ qs, wfI x) : LdOk 0 (ldNew qs) := by
 refine ⟨by simp [ldNew], by simp [ldNew], by simp [ldNew], fun m _ _ => rfl, fun m _ _ => ?_, fun m _ _ => ?_, fun m _ _ => ?_⟩
 ·show -1 ≤ newQ qs m ∧ newQ qs m ≤ _ ∧ (0 ≤ newQ qs m → (0 : Int) ≤ newQ qs m ∧ (0 : Int) ≤ newQ qs m)
  refine ⟨?_, ?_, fun h => ⟨h, h⟩⟩
  ·unfold newQ; split <;> omega
  ·unfold newQ
   split
   ·rename_i hl
    have : wfI (qs.getD m.toNat 0) := hb _ (by
     rw [List.getD_eq_getElem?_getD, List.getElem?_eq_getElem hl]; exact List.getElem_mem hl)
    have := this.2
    omega
   ·omega
 ·exact ⟨Int.le_refl _, by show (0 : Int) ≤ _; omega⟩
 ·exact ⟨Int.le_refl _, by show (0 : Int) ≤ _; omega⟩
theorem oNewL (A : Option Addr) (n c : Nat) (qs : List Int) (w : World) (hS : Sees (Value.int .i64) w [] A qs) (hl : qs.length = n) (hn : n ≤ 1000000) :
  Calls Try.prog 9 [.slice A n c].toArray w fun e w' => ∃ p b, e = .returned (ptrL p) ∧ Heap w [] (ldE p b (ldNew qs)) w' := by
 have H := Heap.nil w
 refine k_in (N := 32) Try.func9 rfl rfl rfl ?_
 refine k_sg ?_
 refine s_run rfl rfl (rap rfl) ?_
 refine k_nc ?_
 refine k_sg ?_
 refine s_mm kE (Value.int .i64) H rfl ?_
 intro b1 _ H'; clear H; have H := H'; clear H'
 refine s_run rfl rfl (r_bd (bd76_0 _) rfl) ?_
 refine s_box H rfl rfl ?_
 intro p7 _ H'; clear H; have H := H'; clear H'
 refine s_run rfl rfl (rap rfl) ?_
 refine k_nc ?_
 refine k_seq ?_
 refine k_sg ?_
 refine s_run rfl rfl (rmi rfl) ?_
 refine k_nc ?_
 refine k_b ?_
 refine k_loop (fun z f W => ∃ (i : Nat) (q : Int → Int), i ≤ 4 ∧ z = 4 - i ∧ (∀ k : Nat, k < i → q k = newQ qs k) ∧ f 0 = .slice A n c ∧ f 3 = ptrL p7 ∧ f 8 = .int .i64 i ∧ Heap w [] [blk p7 (ldC b1 q (fun _ => 0) (fun _ => 0) (fun _ => 0)) 76, mp kE (Value.int .i64) b1 []] W) 4 ⟨0, fun _ => 0, by omega, rfl, by omega, rfl, rfl, rfl, H⟩ ?_
 clear H
 rintro z f W ⟨i, q, hi, rfl, hq, f0, f3, f8, H⟩
 by_cases hlt : i < 4
 ·by_cases hin : i < n
  ·obtain ⟨x, hx⟩ : ∃ x, qs[i]? = some x := ⟨_, List.getElem?_eq_getElem (by omega)⟩
   obtain ⟨b, o, hA, _, hrd⟩ := hS (by omega)
   have hc := hrd i x hx
   have hnq : newQ qs (i : Int) = max x (-1) := by
    unfold newQ
    rw [Int.toNat_natCast, if_pos (by omega), List.getD_eq_getElem?_getD, hx]; rfl
   rw [hA] at f0
   obtain ⟨f, rfl⟩ := live3 f0 f3 f8
   clear f0 f3 f8
   refine k_sg ?_
   refine s_run rfl rfl (r_lssT rfl rfl (by omega)) ?_
   refine k_nc ?_
   refine k_seq ?_
   refine k_t rfl ?_
   refine k_skip ?_
   refine c_norm ?_
   refine k_seq ?_
   refine k_b ?_
   refine k_sg ?_
   refine s_run rfl rfl (rmi rfl) ?_
   refine s_run rfl rfl (rai rfl) ?_
   refine k_nc ?_
   refine k_sg ?_
   refine s_run rfl rfl (rmp rfl) ?_
   refine s_run rfl rfl (rmi rfl) ?_
   refine s_run rfl rfl (r_nc rfl) ?_
   refine s_run rfl rfl (r_fa0 rfl fo76_1) ?_
   refine s_run rfl rfl (r_ia1 (i := i) rfl rfl (by omega) (by omega) Try.underlying29 sz3) ?_
   refine s_stC H 0 rfl rfl rfl rfl (gq hlt) (sq hlt) rfl sz3 ?_
   clear H; intro _ H; simp only [jA, jB, jC, jD, jE, jF, jG, jH, jI, jJ, jK, Nat.reduceAdd] at H
   refine k_nc ?_
   refine k_sg ?_
   refine s_run rfl rfl (rmi rfl) ?_
   refine s_run rfl rfl (rms rfl) ?_
   refine s_run rfl rfl (r_len rfl Try.underlying22) ?_
   refine s_run rfl rfl (r_lssT rfl rfl (by omega)) ?_
   refine k_nc ?_
   refine k_t rfl ?_
   refine k_qt 10 mixed (by kernel_rfl) H rfl rfl ?_
   refine q_run rfl rfl (fun _ H => r_mv (v := .pointer _) rfl) ?_
   refine q_run rfl rfl (fun _ H => r_mv (v := .int _ _) rfl) ?_
   refine q_run rfl rfl (fun _ H => r_mv (v := .slice _ _ _) rfl) ?_
   refine q_run rfl rfl (fun _ H => r_mv (v := .int _ _) rfl) ?_
   refine q_run rfl rfl (fun _ H => r_ix1o (i := i) rfl rfl (by omega) (by omega) Try.underlying22 sz3) ?_
   refine q_run rfl rfl (fun _ H => r_lr H rfl hc (by simp) ag3) ?_
   refine q_run rfl rfl (fun _ H => r_max rfl rfl (imax _ _)) ?_
   refine q_run rfl rfl (fun _ H => r_nc rfl) ?_
   refine q_run rfl rfl (fun _ H => r_fa0 rfl fo76_1) ?_
   refine q_run rfl rfl (fun _ H => r_ia1 (i := i) rfl rfl (by omega) (by omega) Try.underlying29 sz3) ?_
   refine q_nil ?_
   intro _ H'; clear H; have H := H'; clear H'
   refine s_stC H 0 rfl rfl rfl rfl (gq hlt) (sq hlt) rfl sz3 ?_
   clear H; intro _ H; simp only [jA, jB, jC, jD, jE, jF, jG, jH, jI, jJ, jK, Nat.reduceAdd] at H
   refine k_nil ?_
   refine b_norm ?_
   refine c_norm ?_
   refine k_rg ?_
   refine s_run rfl rfl (r_add rfl rfl (wI (by omega))) ?_
   refine s_run rfl rfl (rmi rfl) ?_
   refine k_nil ?_
   refine c_round ?_
   refine ⟨_, _, ?_, rfl, i + 1, _, by omega, rfl, fun k hk => ?_, by rw [hA]; rfl, rfl, rfl, H⟩
   ·omega
   ·by_cases e : k = i
    ·subst e; rw [upI_at, hnq]
    ·rw [upI_off _ _ (by omega), upI_off _ _ (by omega)]; exact hq k (by omega)
  ·have hnq : newQ qs (i : Int) = -1 := by
    unfold newQ
    rw [Int.toNat_natCast, if_neg (by omega)]
   obtain ⟨f, rfl⟩ := live3 f0 f3 f8
   clear f0 f3 f8
   refine k_sg ?_
   refine s_run rfl rfl (r_lssT rfl rfl (by omega)) ?_
   refine k_nc ?_
   refine k_seq ?_
   refine k_t rfl ?_
   refine k_skip ?_
   refine c_norm ?_
   refine k_seq ?_
   refine k_b ?_
   refine k_sg ?_
   refine s_run rfl rfl (rmi rfl) ?_
   refine s_run rfl rfl (rai rfl) ?_
   refine k_nc ?_
   refine k_sg ?_
   refine s_run rfl rfl (rmp rfl) ?_
   refine s_run rfl rfl (rmi rfl) ?_
   refine s_run rfl rfl (r_nc rfl) ?_
   refine s_run rfl rfl (r_fa0 rfl fo76_1) ?_
   refine s_run rfl rfl (r_ia1 (i := i) rfl rfl (by omega) (by omega) Try.underlying29 sz3) ?_
   refine s_stC H 0 rfl rfl rfl rfl (gq hlt) (sq hlt) rfl sz3 ?_
   clear H; intro _ H; simp only [jA, jB, jC, jD, jE, jF, jG, jH, jI, jJ, jK, Nat.reduceAdd] at H
   refine k_nc ?_
   refine k_sg ?_
   refine s_run rfl rfl (rmi rfl) ?_
   refine s_run rfl rfl (rms rfl) ?_
   refine s_run rfl rfl (r_len rfl Try.underlying22) ?_
   refine s_run rfl rfl (r_lssF rfl rfl (by omega)) ?_
   refine k_nc ?_
   refine k_f rfl ?_
   refine k_skip ?_
   refine b_norm ?_
   refine c_norm ?_
   refine k_rg ?_
   refine s_run rfl rfl (r_add rfl rfl (wI (by omega))) ?_
   refine s_run rfl rfl (rmi rfl) ?_
   refine k_nil ?_
   refine c_round ?_
   refine ⟨_, _, ?_, rfl, i + 1, _, by omega, rfl, fun k hk => ?_, rfl, rfl, rfl, H⟩
   ·omega
   ·by_cases e : k = i
    ·subst e; rw [upI_at, hnq]
    ·rw [upI_off _ _ (by omega)]; exact hq k (by omega)
 ·obtain rfl : i = 4 := by omega
  obtain ⟨f, rfl⟩ := live3 f0 f3 f8
  clear f0 f3 f8
  rw [ldC_q hq] at H
  refine k_sg ?_
  refine s_run rfl rfl (r_lssF rfl rfl (by omega)) ?_
  refine k_nc ?_
  refine k_seq ?_
  refine k_f rfl ?_
  refine k_exit ?_
  refine c_exit ?_
  refine c_exit ?_
  refine b_hit ?_
  refine c_norm ?_
  refine k_sg ?_
  refine s_run rfl rfl (rmp rfl) ?_
  refine s_run rfl rfl (rap rfl) ?_
  refine k_nc ?_
  refine k_ret ?_
  refine fin1r (v := .pointer _) rfl rfl ?_
  exact ⟨p7, b1, rfl, H⟩
end Go.Proofs.Ytpbimgopiammaaa
end

section
namespace Go.Proofs.Ytpbimgopiammaaa
open Go.RowKit
set_option maxRecDepth 100000
set_option maxHeartbeats 4000000
theorem oTotal (p b : Nat) (s : LdS) (N : Nat) (w : World) (hE : Ents (ldE p b s) w) (hok : LdOk N s) (hN : N ≤ 1000) :
  Calls Try.prog 13 [ptrL p].toArray w fun e w' => e = .returned (.int .i64 (s.h 0 + s.h 1 + s.h 2 + s.h 3)) ∧ Only [] w w' := by
 have HR := Heap.start hE
 have H := Heap.nil w
 have b0 := hok.bd 0 (by omega) (by omega)
 have b1 := hok.bd 1 (by omega) (by omega)
 have b2 := hok.bd 2 (by omega) (by omega)
 have b3 := hok.bd 3 (by omega) (by omega)
 unfold ldE at HR
 refine k_in (N := 18) Try.func13 rfl rfl rfl ?_
 refine k_sg ?_
 refine s_run rfl rfl (rai rfl) ?_
 refine k_nc ?_
 refine k_sg ?_
 refine s_run rfl rfl (rai rfl) ?_
 refine k_nc ?_
 refine k_seq ?_
 refine k_sg ?_
 refine s_run rfl rfl (rmp rfl) ?_
 refine s_run rfl rfl (r_nc rfl) ?_
 refine s_run rfl rfl (r_fa0 rfl fo76_2) ?_
 refine s_run rfl rfl (r_lp (HR.same H.only) 0 rfl rfl (vs := [.int .i64 (s.h 0), .int .i64 (s.h 1), .int .i64 (s.h 2), .int .i64 (s.h 3)]) rfl rfl ag29 sz29) ?_
 refine s_run rfl rfl (rmi rfl) ?_
 refine k_nc ?_
 refine k_b ?_
 refine k_loop (fun z f W => ∃ (i : Nat) (t : Int), i ≤ 4 ∧ z = 4 - i ∧ t = (if 0 < i then s.h 0 else 0) + (if 1 < i then s.h 1 else 0) + (if 2 < i then s.h 2 else 0) + (if 3 < i then s.h 3 else 0) ∧ f 3 = .int .i64 t ∧ f 9 = .agg [.int .i64 (s.h 0), .int .i64 (s.h 1), .int .i64 (s.h 2), .int .i64 (s.h 3)].toArray ∧ f 10 = .int .i64 i ∧ Heap w [] [] W) 4 ⟨0, 0, by omega, rfl, rfl, rfl, rfl, rfl, H⟩ ?_
 clear H
 rintro z f W ⟨i, t, hi, rfl, ht, f3, f9, f10, H⟩
 by_cases hlt : i < 4
 ·have hv : ([.int .i64 (s.h 0), .int .i64 (s.h 1), .int .i64 (s.h 2), .int .i64 (s.h 3)] : List Value)[i]? = some (.int .i64 (s.h (i : Int))) := by
   rcases (by omega : i = 0 ∨ i = 1 ∨ i = 2 ∨ i = 3) with rfl | rfl | rfl | rfl <;> rfl
  have hst : (if 0 < i + 1 then s.h 0 else 0) + (if 1 < i + 1 then s.h 1 else 0) + (if 2 < i + 1 then s.h 2 else 0) + (if 3 < i + 1 then s.h 3 else 0) = t + s.h (i : Int) ∧ 0 ≤ t ∧ t ≤ 4 * (N * 1048576) ∧ 0 ≤ s.h (i : Int) ∧ s.h (i : Int) ≤ N * 1048576 := by
   rcases (by omega : i = 0 ∨ i = 1 ∨ i = 2 ∨ i = 3) with rfl | rfl | rfl | rfl
   ·subst ht; simp; omega
   ·subst ht; simp; omega
   ·subst ht; simp; omega
   ·subst ht; simp; omega
  obtain ⟨hs1, hs2, hs3, hs4, hs5⟩ := hst
  obtain ⟨f, rfl⟩ := live3 f3 f9 f10
  clear f3 f9 f10
  refine k_sg ?_
  refine s_run rfl rfl (r_lssT rfl rfl (by omega)) ?_
  refine k_nc ?_
  refine k_seq ?_
  refine k_t rfl ?_
  refine k_skip ?_
  refine c_norm ?_
  refine k_seq ?_
  refine k_b ?_
  refine k_sg ?_
  refine s_run rfl rfl (r_iv (i := i) (v := .int .i64 (s.h (i : Int))) rfl rfl rfl hlt hv Try.underlying29 sz3 ag3) ?_
  refine s_run rfl rfl (rai rfl) ?_
  refine k_nc ?_
  refine k_rg ?_
  refine s_run rfl rfl (rmi rfl) ?_
  refine s_run rfl rfl (rmi rfl) ?_
  refine s_run rfl rfl (r_add rfl rfl (wI (by omega))) ?_
  refine s_run rfl rfl (rai rfl) ?_
  refine k_nil ?_
  refine b_norm ?_
  refine c_norm ?_
  refine k_rg ?_
  refine s_run rfl rfl (r_add rfl rfl (wI (by omega))) ?_
  refine s_run rfl rfl (rmi rfl) ?_
  refine k_nil ?_
  refine c_round ?_
  refine ⟨_, _, ?_, rfl, i + 1, _, by omega, rfl, hs1.symm, rfl, rfl, rfl, H⟩
  omega
 ·obtain rfl : i = 4 := by omega
  simp only [Nat.reduceLT, if_true, show (0 : Nat) < 4 by omega, show (1 : Nat) < 4 by omega] at ht
  subst ht
  obtain ⟨f, rfl⟩ := live3 f3 f9 f10
  clear f3 f9 f10
  refine k_sg ?_
  refine s_run rfl rfl (r_lssF rfl rfl (by omega)) ?_
  refine k_nc ?_
  refine k_seq ?_
  refine k_f rfl ?_
  refine k_exit ?_
  refine c_exit ?_
  refine c_exit ?_
  refine b_hit ?_
  refine c_norm ?_
  refine k_sg ?_
  refine s_run rfl rfl (rmi rfl) ?_
  refine s_run rfl rfl (rai rfl) ?_
  refine k_nc ?_
  refine k_ret ?_
  refine fin1r (v := .int _ _) rfl rfl ?_
  exact ⟨rfl, H.only⟩
theorem sum2_erase : ∀ (L : LdL) (j : Nat) (p : (Int × Int) × Int), L[j]? = some p → sum2 (L.eraseIdx j) = sum2 L - p.2
 | [], j, p, h => by simp at h
 | x :: l, 0, p, h => by simp at h; subst h; rw [List.eraseIdx_cons_zero, sum2]; omega
 | x :: l, j + 1, p, h => by
  have := sum2_erase l j p (by simpa using h)
  rw [List.eraseIdx_cons_succ, sum2, sum2, this]; omega
theorem sum2_split (q : (Int × Int) × Int → Prop) [DecidablePred q] : ∀ L : LdL, sum2 (L.filter fun x => decide (q x)) + sum2 (L.filter fun x => decide (¬ q x)) = sum2 L
 | [] => rfl
 | x :: l => by
  have := sum2_split q l
  by_cases h : q x
  ·rw [List.filter_cons_of_pos (by simpa using h), List.filter_cons_of_neg (by simpa using h), sum2, sum2]; omega
  ·rw [List.filter_cons_of_neg (by simpa using h), List.filter_cons_of_pos (by simpa using h), sum2, sum2]; omega
theorem sum2_bd : ∀ (L : LdL), (∀ x ∈ L, 1 ≤ x.2 ∧ x.2 ≤ 1048576) → 0 ≤ sum2 L ∧ sum2 L ≤ L.length * 1048576
 | [], _ => by simp [sum2]
 | x :: l, h => by
  have h1 := sum2_bd l (fun y hy => h y (by simp [hy]))
  have h2 := h x (by simp)
  rw [sum2, List.length_cons]; omega
theorem bdelG {α β : Type} [DecidableEq α] (lb : List ((α × β) × Bool)) (a : α) : (lb.filter (fun x => decide (x.1.1 ≠ a))).map (·.1) = (lb.map (·.1)).filter (fun y => decide (y.1 ≠ a)) := by
 rw [List.filter_map]; rfl
end Go.Proofs.Ytpbimgopiammaaa
end

section
namespace Go.Proofs.Ytpbimgopiammaaa
open Go.RowKit
set_option maxRecDepth 100000
set_option maxHeartbeats 4000000
theorem mgetP_same {α β : Type} [DecidableEq α] : ∀ (l : List (α × β)) (a : α) (v : β), mget (mput l a v) a = some v
 | [], a, v => by simp [mput, mget]
 | p :: l, a, v => by
  unfold mput
  split
  ·simp [mget]
  ·rename_i h
   rw [mget, if_neg h]; exact mgetP_same l a v
theorem mgetP_other {α β : Type} [DecidableEq α] : ∀ (l : List (α × β)) (a b : α) (v : β), b ≠ a → mget (mput l a v) b = mget l b
 | [], a, b, v, h => by simp [mput, mget, Ne.symm h]
 | p :: l, a, b, v, h => by
  unfold mput
  split
  ·rename_i e
   subst e
   simp [mget, Ne.symm h]
  ·rw [mget, mget, mgetP_other l a b v h]
theorem iter_all {α β : Type} (l : List (α × β)) : (l.map fun p => (p, true)).map (fun x : (α × β) × Bool => x.1) = l := by rw [List.map_map]; exact List.map_id' l
theorem mleft_filter_leG {α β : Type} (q : (α × β) × Bool → Bool) : ∀ lb : List ((α × β) × Bool), (mleft (lb.filter q)).length ≤ (mleft lb).length := fun lb => by
 unfold mleft
 rw [List.length_map, List.length_map]
 exact (List.Sublist.filter _ List.filter_sublist).length_le
def inL (live : List Int) (x : (Int × Int) × Int) : Bool := decide (x.1.2 ∈ live)
theorem filter_erase1 {L : LdL} {j : Nat} {q : (Int × Int) × Int} (hd : (L.map Prod.fst).Nodup) (hj : L[j]? = some q) : L.filter (fun y => decide (y.1 ≠ q.1)) = L.eraseIdx j := by
 rw [← mdel_filter L q.1 hd]
 exact (m_some L j q hj hd).2.2
theorem erase_filter (live : List Int) : ∀ (L : LdL) (j : Nat) (q : (Int × Int) × Int), L[j]? = some q → inL live q = false → (L.eraseIdx j).filter (inL live) = L.filter (inL live)
 | [], j, q, h, _ => by simp at h
 | x :: l, 0, q, h, hq => by
  simp at h; subst h
  rw [List.eraseIdx_cons_zero, List.filter_cons_of_neg (by rw [hq]; simp)]
 | x :: l, j + 1, q, h, hq => by
  rw [List.eraseIdx_cons_succ, List.filter_cons, List.filter_cons, erase_filter live l j q (by simpa using h) hq]
theorem oSweep (p b : Nat) (s : LdS) (N : Nat) (A : Option Addr) (n c : Nat) (live : List Int) (w : World) (hE : Ents (ldE p b s) w) (hok : LdOk N s) (hN : N ≤ 1000) (hS : Sees (Value.int .i64) w (ids (ldE p b s)) A live) (hl : live.length = n) (hn : n ≤ 1000000) (hb : ∀ x ∈ live, wfI x) :
  Calls Try.prog 37 [ptrL p, .slice A n c].toArray w fun e w' => e = .returned (.int .i64 (s.sweep live).2) ∧ ∃ s', Heap w (ids (ldE p b s)) (ldE p b s') w' ∧ s'.L = (s.sweep live).1.L ∧ (∀ k : Nat, k < 4 → s'.h k = (s.sweep live).1.h k) ∧ s'.q = s.q ∧ s'.pk = s.pk ∧ s'.tk = s.tk := by
 have H := Heap.start hE
 unfold ldE at H
 obtain ⟨I, hI⟩ : ∃ I, ids (ldE p b s) = I := ⟨_, rfl⟩
 replace H : Heap w I [blk p (ldC b s.q s.h s.pk s.tk) 76, mp kE (Value.int .i64) b s.L] w := by rw [← hI]; exact H
 rw [hI] at hS
 rw [hI]
 refine k_in (N := 57) Try.func37 rfl rfl rfl ?_
 refine k_sg ?_
 refine s_run rfl rfl (rai rfl) ?_
 refine k_nc ?_
 refine k_sg ?_
 refine s_mm kI2 Value.bool H rfl ?_
 intro bk _ H'; clear H; have H := H'; clear H'
 refine s_run rfl rfl (r_as (v := .map _) rfl) ?_
 refine k_nc ?_
 refine k_seq ?_
 refine k_sg ?_
 refine s_run rfl rfl (rms rfl) ?_
 refine s_run rfl rfl (r_len rfl Try.underlying22) ?_
 refine s_run rfl rfl (rmi rfl) ?_
 refine k_nc ?_
 refine k_b ?_
 refine k_loop (fun z f W => ∃ (i : Nat) (K : List (Int × Bool)), i ≤ n ∧ z = n - i ∧ (∀ x, mget K x = if x ∈ live.take i then some true else none) ∧ f 0 = ptrL p ∧ f 5 = .map (some bk) ∧ f 12 = .slice A n c ∧ f 13 = .int .i64 n ∧ f 14 = .int .i64 i ∧ Heap w I [mp kI2 Value.bool bk K, blk p (ldC b s.q s.h s.pk s.tk) 76, mp kE (Value.int .i64) b s.L] W) n ⟨0, [], by omega, rfl, fun x => by simp [mget], rfl, rfl, rfl, rfl, rfl, H⟩ ?_
 clear H
 rintro z f W ⟨i, K, hi, rfl, hK, f0, f5, f12, f13, f14, H⟩
 by_cases hlt : i < n
 ·obtain ⟨x, hx⟩ : ∃ x, live[i]? = some x := ⟨_, List.getElem?_eq_getElem (by omega)⟩
  obtain ⟨bs, os, hA, hbn, hrd⟩ := hS (by omega)
  have hc := hrd i x hx
  have gx : kI2.Gd x := hb x (List.mem_of_getElem? hx)
  rw [hA] at f12
  obtain ⟨f, rfl⟩ := live5 f0 f5 f12 f13 f14
  clear f0 f5 f12 f13 f14
  refine k_sg ?_
  refine s_run rfl rfl (r_lssT rfl rfl (by omega)) ?_
  refine k_nc ?_
  refine k_seq ?_
  refine k_t rfl ?_
  refine k_skip ?_
  refine c_norm ?_
  refine k_seq ?_
  refine k_b ?_
  refine k_sg ?_
  refine s_run rfl rfl (r_ix1o (i := i) rfl rfl (by omega) (by omega) Try.underlying22 sz3) ?_
  refine s_run rfl rfl (r_lr H rfl hc hbn ag3) ?_
  refine s_run rfl rfl (rai rfl) ?_
  refine k_nc ?_
  refine k_rg ?_
  refine s_run rfl rfl (r_mv (v := .map _) rfl) ?_
  refine s_run rfl rfl (rmi rfl) ?_
  refine s_mu H 0 rfl rfl rfl rfl rfl (gx) Try.underlying88 ?_
  clear H; intro _ H; simp only [jA, jB, jC, jD, jE, jF, jG, jH, jI, jJ, jK, Nat.reduceAdd] at H
  refine k_nil ?_
  refine b_norm ?_
  refine c_norm ?_
  refine k_rg ?_
  refine s_run rfl rfl (r_add rfl rfl (wI (by omega))) ?_
  refine s_run rfl rfl (rmi rfl) ?_
  refine k_nil ?_
  refine c_round ?_
  refine ⟨_, _, ?_, rfl, i + 1, _, by omega, rfl, fun y => ?_, rfl, rfl, by rw [hA]; rfl, rfl, rfl, H⟩
  ·omega
  ·rw [← tk_snoc hx]
   by_cases e : y = x
   ·subst e; rw [mgetP_same, if_pos (by simp)]
   ·rw [mgetP_other _ _ _ _ e, hK y]
    simp [e]
 ·obtain rfl : i = n := by omega
  rw [show live.take i = live by rw [← hl]; exact List.take_length] at hK
  obtain ⟨f, rfl⟩ := live5 f0 f5 f12 f13 f14
  clear f0 f5 f12 f13 f14
  refine k_sg ?_
  refine s_run rfl rfl (r_lssF rfl rfl (by omega)) ?_
  refine k_nc ?_
  refine k_seq ?_
  refine k_f rfl ?_
  refine k_exit ?_
  refine c_exit ?_
  refine c_exit ?_
  refine b_hit ?_
  refine c_norm ?_
  refine k_sg ?_
  refine s_run rfl rfl (rai rfl) ?_
  refine k_nc ?_
  refine k_seq ?_
  refine k_sg ?_
  refine s_run rfl rfl (rmp rfl) ?_
  refine s_run rfl rfl (r_nc rfl) ?_
  refine s_run rfl rfl (r_fa0 rfl fo76_0) ?_
  refine s_run rfl rfl (r_lo H 1 rfl rfl rfl ag74) ?_
  refine s_rm H 2 rfl rfl rfl Try.underlying74 ?_
  intro r _ H'; simp only [List.set_cons_zero, List.set_cons_succ, List.take_succ_cons, List.take_zero, List.drop_succ_cons, List.drop_zero, List.cons_append, List.nil_append, List.append_nil, List.length_cons, List.length_nil, Nat.reduceAdd] at H'; clear H; have H := H'; clear H'
  refine k_nc ?_
  refine k_b ?_
  refine k_loop (fun z f W => ∃ (lb : List (((Int × Int) × Int) × Bool)) (cur : Option ((Int × Int) × Int)) (h : Int → Int) (t : Int), z = (mleft lb).length ∧ (lb.map (·.1)).filter (inL live) = s.L.filter (inL live) ∧ (∀ x ∈ lb, x.2 = false → inL live x.1 = true) ∧ (∀ x ∈ lb, x.1 ∈ s.L) ∧ lb.length ≤ N ∧ (∀ k : Nat, k < 4 → h k = hld (lb.map (·.1)) k) ∧ t + sum2 (lb.map (·.1)) = sum2 s.L ∧ 0 ≤ t ∧ f 0 = ptrL p ∧ f 5 = .map (some bk) ∧ f 8 = .int .i64 t ∧ f 25 = ptrL r ∧ Heap w I [mp kI2 Value.bool bk K, blk p (ldC b s.q h s.pk s.tk) 76, mi kE (Value.int .i64) b r lb cur] W) _ ⟨s.L.map fun p => (p, true), none, s.h, 0, rfl, by rw [iter_all], (fun x hx h => by obtain ⟨y, _, rfl⟩ := List.mem_map.1 hx; cases h), (fun x hx => by obtain ⟨y, hy, rfl⟩ := List.mem_map.1 hx; exact hy), by rw [List.length_map]; exact hok.len, (fun k hk => by rw [iter_all]; exact hok.h k (by omega) (by omega)), by rw [iter_all]; omega, by omega, rfl, rfl, rfl, rfl, H⟩ ?_
  clear H
  rintro z f W ⟨lb, cur, h, t, rfl, hlb, hdone, hmem, hlen, hh, ht, ht0, f0, f5, f8, f25, H⟩
  have hkey := hok.key
  have hsb := sum2_bd s.L (fun x hx => ⟨(hkey x hx).2.2.1, (hkey x hx).2.2.2.1⟩)
  have hsb2 := sum2_bd (lb.map (·.1)) (fun x hx => by
   obtain ⟨y, hy, rfl⟩ := List.mem_map.1 hx
   exact ⟨(hkey _ (hmem y hy)).2.2.1, (hkey _ (hmem y hy)).2.2.2.1⟩)
  have hLl := hok.len
  obtain ⟨f, rfl⟩ := live4 f0 f5 f8 f25
  clear f0 f5 f8 f25
  by_cases hlf : mleft lb = []
  ·have e : lb.map (·.1) = s.L.filter (inL live) := by
    rw [← hlb]
    exact (List.filter_eq_self.2 fun x hx => by
     obtain ⟨y, hy, rfl⟩ := List.mem_map.1 hx
     exact hdone y hy ((mleft_nil lb).1 hlf y hy)).symm
   have hsp := sum2_split (fun x : (Int × Int) × Int => x.1.2 ∈ live) s.L
   have e2 : t = (s.sweep live).2 := by
    show t = sum2 (s.L.filter fun x => decide (¬ x.1.2 ∈ live))
    rw [e] at ht
    have ht2 : t + sum2 (s.L.filter fun x => decide (x.1.2 ∈ live)) = sum2 s.L := ht
    omega
   subst e2
   refine k_sg ?_
   refine s_nx0 H 2 (hlf) rfl rfl rfl ?_
   refine s_run rfl rfl (r_ext (v := .bool _) rfl rfl) ?_
   refine k_nc ?_
   refine k_seq ?_
   refine k_f rfl ?_
   refine k_exit ?_
   refine c_exit ?_
   refine c_exit ?_
   refine b_hit ?_
   refine c_norm ?_
   refine k_sg ?_
   refine s_run rfl rfl (rmi rfl) ?_
   refine s_run rfl rfl (rai rfl) ?_
   refine k_nc ?_
   refine k_ret ?_
   refine fin1r (v := .int _ _) rfl rfl ?_
   have H2 := H.mi_done 2 rfl
   rw [e] at H2 hh
   exact ⟨rfl, ⟨s.L.filter (inL live), s.q, h, s.pk, s.tk⟩, (H2.drop), rfl, hh, rfl, rfl, rfl⟩
  ·refine k_sg ?_
   refine s_nx1 H 2 (hlf) rfl rfl rfl ?_
   intro j q _ hq gq H'; simp only [List.set_cons_zero, List.set_cons_succ, List.take_succ_cons, List.take_zero, List.drop_succ_cons, List.drop_zero, List.cons_append, List.nil_append, List.append_nil, List.length_cons, List.length_nil, Nat.reduceAdd] at H'; clear H; have H := H'; clear H'
   refine s_run rfl rfl (r_ext (v := .bool _) rfl rfl) ?_
   refine k_nc ?_
   refine k_seq ?_
   refine k_t rfl ?_
   refine k_skip ?_
   refine c_norm ?_
   refine k_b ?_
   refine k_sg ?_
   refine s_run rfl rfl (r_en H 2 rfl rfl) ?_
   refine s_run rfl rfl (r_ext (v := .agg _) rfl rfl) ?_
   refine s_run rfl rfl (r_ext (v := .int _ _) rfl rfl) ?_
   refine s_al H rfl inf86 ?_
   intro p9 _ H'; clear H; have H := H'; clear H'
   refine s_sw H 0 rfl rfl rfl rfl rfl rfl rfl sz86 ?_
   clear H; intro _ H; simp only [jA, jB, jC, jD, jE, jF, jG, jH, jI, jJ, jK, Nat.reduceAdd] at H
   refine s_run rfl rfl (rai rfl) ?_
   refine k_nc ?_
   refine k_seq ?_
   have hfs : (lb.set j (q, false)).map (·.1) = lb.map (·.1) := mset_fstG hq
   have hml := (mleft_set lb j q hq).length_eq
   rw [List.length_cons] at hml
   have hqL := hmem _ (List.mem_of_getElem? hq)
   simp only at hqL
   obtain ⟨k0, k4, w1, w2, wa⟩ := hkey q hqL
   have gx : kI2.Gd q.1.2 := wa
   have hKx := hK q.1.2
   by_cases hin : q.1.2 ∈ live
   ·rw [if_pos hin] at hKx
    refine k_rg ?_
    refine s_run rfl rfl (r_mv (v := .map _) rfl) ?_
    refine s_run rfl rfl (r_fa0 rfl fo86_1) ?_
    refine s_run rfl rfl (r_lo H 0 rfl rfl rfl ag3) ?_
    refine s_run rfl rfl (r_lkS H 1 rfl rfl rfl (gx) (hKx) Try.underlying88 (zv_of inf4) rfl) ?_
    refine s_run rfl rfl (r_notT rfl) ?_
    refine k_nc ?_
    refine k_f rfl ?_
    refine k_skip ?_
    refine b_norm ?_
    refine c_round ?_
    refine ⟨_, _, ?_, rfl, lb.set j (q, false), some q, h, t, rfl, by rw [hfs]; exact hlb, fun x hx hx2 => ?_, fun x hx => ?_, by rw [List.length_set]; exact hlen, by rw [hfs]; exact hh, by rw [hfs]; exact ht, ht0, rfl, rfl, rfl, rfl, H.drop⟩
    ·omega
    ·rcases List.mem_or_eq_of_mem_set hx with hx | rfl
     ·exact hdone x hx hx2
     ·exact decide_eq_true hin
    ·rcases List.mem_or_eq_of_mem_set hx with hx | rfl
     ·exact hmem x hx
     ·exact hqL
   ·rw [if_neg hin] at hKx
    have hnd := H.mi_nd 3 rfl
    rw [hfs] at hnd
    have hqj : (lb.map (·.1))[j]? = some q := by rw [List.getElem?_map, hq]; rfl
    obtain ⟨kq, hkq⟩ := Int.eq_ofNat_of_zero_le k0
    have hk4 : kq < 4 := by omega
    have hhk := hh kq hk4
    have hld1 := hld_bd (lb.map (·.1)) kq (fun x hx => by
     obtain ⟨y, hy, rfl⟩ := List.mem_map.1 hx
     exact ⟨(hkey _ (hmem y hy)).2.2.1, (hkey _ (hmem y hy)).2.2.2.1⟩)
    rw [List.length_map] at hld1
    have hq2 : q.2 ≤ sum2 (lb.map (·.1)) := by
     have h1 := sum2_erase _ j q hqj
     have h2 := sum2_bd ((lb.map (·.1)).eraseIdx j) (fun x hx => by
      obtain ⟨y, hy, rfl⟩ := List.mem_map.1 (List.mem_of_mem_eraseIdx hx)
      exact ⟨(hkey _ (hmem y hy)).2.2.1, (hkey _ (hmem y hy)).2.2.2.1⟩)
     omega
    refine k_rg ?_
    refine s_run rfl rfl (r_mv (v := .map _) rfl) ?_
    refine s_run rfl rfl (r_fa0 rfl fo86_1) ?_
    refine s_run rfl rfl (r_lo H 0 rfl rfl rfl ag3) ?_
    refine s_run rfl rfl (r_lkN H 1 rfl rfl rfl (gx) (hKx) Try.underlying88 (zv_of inf4)) ?_
    refine s_run rfl rfl (r_notF rfl) ?_
    refine k_nc ?_
    refine k_t rfl ?_
    refine k_seq ?_
    refine k_qt 5 mixed (by kernel_rfl) H rfl rfl ?_
    refine q_run rfl rfl (fun _ H => r_mv (v := .pointer _) rfl) ?_
    refine q_run rfl rfl (fun _ H => r_nc rfl) ?_
    refine q_run rfl rfl (fun _ H => r_fa0 rfl fo76_0) ?_
    refine q_run rfl rfl (fun _ H => r_lo H 2 rfl rfl rfl ag74) ?_
    refine q_run rfl rfl (fun _ H => r_la H 0 rfl rfl rfl ag86 sz86) ?_
    refine q_nil ?_
    intro _ H'; clear H; have H := H'; clear H'
    refine s_di H 3 rfl rfl rfl rfl (gq) Try.underlying74 ?_
    clear H; intro _ H; simp only [jA, jB, jC, jD, jE, jF, jG, jH, jI, jJ, jK, Nat.reduceAdd] at H
    refine k_nc ?_
    refine k_seq ?_
    refine k_qt 12 mixed (by kernel_rfl) H rfl rfl ?_
    refine q_run rfl rfl (fun _ H => r_mv (v := .pointer _) rfl) ?_
    refine q_run rfl rfl (fun _ H => r_fa0 rfl fo86_0) ?_
    refine q_run rfl rfl (fun _ H => r_lo H 0 rfl rfl rfl ag3) ?_
    refine q_run rfl rfl (fun _ H => r_nc rfl) ?_
    refine q_run rfl rfl (fun _ H => r_fa0 rfl fo76_2) ?_
    refine q_run rfl rfl (fun _ H => r_ia1 (i := kq) rfl rfl (by omega) (by omega) Try.underlying29 sz3) ?_
    refine q_run rfl rfl (fun _ H => r_lo H 2 rfl rfl (gh hk4) ag3) ?_
    refine q_run rfl rfl (fun _ H => r_mv (v := .int _ _) rfl) ?_
    refine q_run rfl rfl (fun _ H => r_sub rfl rfl (wI (by omega))) ?_
    refine q_run rfl rfl (fun _ H => r_nc rfl) ?_
    refine q_run rfl rfl (fun _ H => r_fa0 rfl fo76_2) ?_
    refine q_run rfl rfl (fun _ H => r_ia1 (i := kq) rfl rfl (by omega) (by omega) Try.underlying29 sz3) ?_
    refine q_nil ?_
    intro _ H'; clear H; have H := H'; clear H'
    refine s_stC H 2 rfl rfl rfl rfl (gh hk4) (sh hk4) rfl sz3 ?_
    clear H; intro _ H; simp only [jA, jB, jC, jD, jE, jF, jG, jH, jI, jJ, jK, Nat.reduceAdd] at H
    refine k_nc ?_
    refine k_rg ?_
    refine s_run rfl rfl (rmi rfl) ?_
    refine s_run rfl rfl (rmi rfl) ?_
    refine s_run rfl rfl (r_add rfl rfl (wI (by omega))) ?_
    refine s_run rfl rfl (rai rfl) ?_
    refine k_nil ?_
    refine b_norm ?_
    refine c_round ?_
    have hml2 := mleft_filter_leG (fun x : ((Int × Int) × Int) × Bool => decide (x.1.1 ≠ q.1)) (lb.set j (q, false))
    have hnew : ((lb.set j (q, false)).filter (fun x => decide (x.1.1 ≠ q.1))).map (·.1) = (lb.map (·.1)).eraseIdx j := by rw [bdelG, hfs, filter_erase1 hnd hqj]
    refine ⟨_, _, ?_, rfl, _, none, _, _, rfl, ?_, fun x hx hx2 => ?_, fun x hx => ?_, ?_, fun k hk => ?_, ?_, ?_, rfl, rfl, rfl, rfl, H.drop⟩
    ·omega
    ·rw [hnew, erase_filter live _ j q hqj (decide_eq_false hin)]; exact hlb
    ·obtain ⟨hx, hne⟩ := List.mem_filter.1 hx
     rcases List.mem_or_eq_of_mem_set hx with hx | rfl
     ·exact hdone x hx hx2
     ·simp at hne
    ·obtain ⟨hx, hne⟩ := List.mem_filter.1 hx
     rcases List.mem_or_eq_of_mem_set hx with hx | rfl
     ·exact hmem x hx
     ·exact hqL
    ·have := List.length_filter_le (fun x : ((Int × Int) × Int) × Bool => decide (x.1.1 ≠ q.1)) (lb.set j (q, false))
     rw [List.length_set] at this; omega
    ·rw [hnew, hld_erase _ _ _ hqj]
     by_cases e : k = kq
     ·subst e; rw [upI_at, if_pos hkq, hhk]
     ·rw [upI_off _ _ (by omega), if_neg (by omega), hh k hk]; omega
    ·rw [hnew, sum2_erase _ _ _ hqj]; omega
    ·omega
end Go.Proofs.Ytpbimgopiammaaa
end

section
namespace Go.Proofs.Ytpbimgopiammaaa
end Go.Proofs.Ytpbimgopiammaaa
end
