/- Parts of the proof, one behind the other. -/
import Derived.DeepKeys4
import Derived.Shelf.Sort.Plain
import Derived.Shelf.Slices.In.SortNone
import Derived.Sort.OwnSortedInts
import Derived.Test.YtpbimgopiammaaaKLedgerPlaysa
set_option linter.unusedSimpArgs false
set_option linter.unusedVariables false
set_option linter.unusedSectionVars false
section
namespace Go.Proofs.Ytpbimgopiammaaa
open Go.RowKit Go.MapKept
open Go.Maps (Keyed)
open Go.ChangeMaps (setBlock)
/-- what is still to come -/
def mleft {α β : Type} (lb : List ((α × β) × Bool)) : List (α × β) := (lb.filter (·.2)).map (·.1)
theorem mleft_set {α β : Type} : ∀ (lb : List ((α × β) × Bool)) (j : Nat) (p : α × β), lb[j]? = some (p, true) → (mleft lb).Perm (p :: mleft (lb.set j (p, false)))
 | [], j, p, h => by simp at h
 | q :: lb, 0, p, h => by
  obtain rfl : q = (p, true) := by simpa using h
  simp [mleft]
 | q :: lb, j + 1, p, h => by
  have ih := mleft_set lb j p (by simpa using h)
  obtain ⟨q1, q2⟩ := q
  cases q2 with
  | false => simpa [mleft] using ih
  | true =>
   have : (q1 :: mleft lb).Perm (p :: q1 :: mleft (lb.set j (p, false))) := (ih.cons q1).trans (List.Perm.swap _ _ _)
   simpa [mleft] using this
theorem mleft_all {α β : Type} (l : List (α × β)) : mleft (l.map fun p => (p, true)) = l := by
 unfold mleft
 induction l with
 | nil => rfl
 | cons p l ih => simpa using ih
theorem mleft_nil {α β : Type} (lb : List ((α × β) × Bool)) : mleft lb = [] ↔ ∀ q ∈ lb, q.2 = false := by
 unfold mleft
 rw [List.map_eq_nil_iff, List.filter_eq_nil_iff]
 constructor
 ·intro h q hq; have := h q hq; simpa using this
 ·intro h q hq; rw [h q hq]; simp
structure IterOk {P : Program} {k : TypeId} {α β : Type} (C : KC P k α) (venc : β → Value) (es : Array MapEntry) (clock since : Nat) (seen : Array Nat) (c0 : Nat) (lb : List ((α × β) × Bool)) : Prop where
 ok : MapOk C venc es clock (lb.map (·.1))
 fl : es.toList.map (fun e => !seen.contains e.born) = lb.map (·.2)
 old : ∀ x ∈ es.toList, x.born < since
 s0 : since ≤ c0
 s1 : since ≤ clock
section
variable {P : Program} {k : TypeId} {α β : Type} [DecidableEq α] {C : KC P k α} {venc : β → Value} {es : Array MapEntry} {clock since c0 : Nat} {seen : Array Nat} {lb : List ((α × β) × Bool)} {l : List (α × β)}
theorem IterOk.start (h : MapOk C venc es clock l) : IterOk C venc es clock clock #[] clock (l.map fun p => (p, true)) := by
 have e : (l.map fun p => (p, true)).map (·.1) = l := by rw [List.map_map]; exact List.map_id' l
 refine ⟨by rw [e]; exact h, ?_, h.born, Nat.le_refl _, Nat.le_refl _⟩
 have hl : es.toList.length = l.length := by rw [Array.length_toList]; exact h.len
 rw [List.map_map]
 apply List.ext_getElem?
 intro i
 rw [List.getElem?_map, List.getElem?_map]
 by_cases hi : i < l.length
 ·rw [List.getElem?_eq_getElem (by omega), List.getElem?_eq_getElem hi]; simp
 ·rw [List.getElem?_eq_none (by omega), List.getElem?_eq_none (by omega)]; rfl
theorem IterOk.at (h : IterOk C venc es clock since seen c0 lb) (j : Nat) (e : MapEntry) (he : es.toList[j]? = some e) : ∃ p, lb[j]? = some (p, !seen.contains e.born) ∧ e.key = C.enc p.1 ∧ e.val = venc p.2 := by
 obtain ⟨p, hp, h1, h2⟩ := h.ok.at j e he
 have h3 := congrArg (fun x => x[j]?) h.fl
 simp only [List.getElem?_map, he, Option.map_some] at h3 hp
 cases hq : lb[j]? with
 | none => rw [hq] at hp; cases hp
 | some q =>
  rw [hq] at hp h3
  simp only [Option.map_some, Option.some.injEq] at hp h3
  obtain ⟨q1, q2⟩ := q
  simp only at hp h3
  exact ⟨p, by rw [hp, h3], h1, h2⟩
/-- the step -/
theorem IterOk.next (h : IterOk C venc es clock since seen c0 lb) {W : World} {b r : Nat} (hb : W.heap[b]? = some (.map es clock)) (hr : W.heap[r]? = some (.mapIter (some b) since seen c0)) (ty : TypeId) :
  (mleft lb = [] ∧ (Instr.next (.pointer (some ⟨r, 0, none⟩)) false ty).run P W = .ok (.tuple #[.bool false]) W) ∨
  (mleft lb ≠ [] ∧ ∃ j p e, ∃ w1 : World, (w1 = W ∨ w1 = W.drew) ∧ lb[j]? = some (p, true) ∧ e ∈ es.toList ∧ e.key = C.enc p.1 ∧ e.val = venc p.2 ∧ (Instr.next (.pointer (some ⟨r, 0, none⟩)) false ty).run P W = .ok (.tuple #[.bool true, C.enc p.1, venc p.2]) (setBlock w1 r (.mapIter (some b) since (seen.push e.born) clock)) ∧ IterOk C venc es clock since (seen.push e.born) clock (lb.set j (p, false))) := by
 rcases run_next_at (P := P) W ty r b since c0 seen es clock hr hb h.old h.s0 with ⟨h0, hrun⟩ | ⟨e, he, w1, hal, hrun⟩
 ·refine .inl ⟨(mleft_nil lb).2 fun q hq => ?_, hrun⟩
  obtain ⟨j, hj⟩ := List.getElem?_of_mem hq
  have h3 := congrArg (fun x => x[j]?) h.fl
  simp only [List.getElem?_map, hj, Option.map_some] at h3
  cases hx : es.toList[j]? with
  | none => rw [hx] at h3; cases h3
  | some x =>
   rw [hx] at h3
   simp only [Option.map_some, Option.some.injEq] at h3
   rw [← h3, all_seen es seen h0 x (List.mem_of_getElem? hx)]; rfl
 ·obtain ⟨hem, hes⟩ := mem_left he
  obtain ⟨j, hj⟩ := List.getElem?_of_mem hem
  obtain ⟨p, hp, hk, hv⟩ := h.at j e hj
  rw [hes] at hp
  refine .inr ⟨fun hn => ?_, j, p, e, w1, hal, hp, hem, hk, hv, by rw [← hk, ← hv]; exact hrun, ?_⟩
  ·have := (mleft_nil lb).1 hn _ (List.mem_of_getElem? hp); cases this
  ·have hfst : (lb.set j (p, false)).map (·.1) = lb.map (·.1) := by
    rw [List.map_set]
    apply List.ext_getElem?
    intro i
    rw [List.getElem?_set]
    by_cases e : j = i
    ·subst e
     rw [if_pos rfl, List.getElem?_map, hp]
     have := (List.getElem?_eq_some_iff.1 hp).1
     rw [if_pos (by simpa using this)]; rfl
    ·rw [if_neg e]
   refine ⟨by rw [hfst]; exact h.ok, ?_, h.old, h.s1, h.s1⟩
   have hlen := congrArg List.length h.fl
   simp only [List.length_map] at hlen
   rw [List.map_set]
   apply List.ext_getElem?
   intro i
   rw [List.getElem?_set]
   have h3 := congrArg (fun x => x[i]?) h.fl
   simp only [List.getElem?_map] at h3 ⊢
   by_cases e2 : j = i
   ·subst e2
    rw [if_pos rfl, hj, if_pos (by have := (List.getElem?_eq_some_iff.1 hp).1; simpa using this)]
    simp
   ·rw [if_neg e2, ← h3]
    cases hx : es.toList[i]? with
    | none => rfl
    | some x =>
     have hne : x.born ≠ e.born := fun hbe => by
      have g1 := h.ok.bn
      have hi := (List.getElem?_eq_some_iff.1 hx).1
      have hj' := (List.getElem?_eq_some_iff.1 hj).1
      have a1 : (es.toList.map (·.born))[i]? = some x.born := by rw [List.getElem?_map, hx]; rfl
      have a2 : (es.toList.map (·.born))[j]? = some x.born := by rw [List.getElem?_map, hj, hbe]; rfl
      exact e2 (((List.getElem?_inj (by simpa using hi) g1).1 (a1.trans a2.symm)).symm)
     simp [hne]
theorem mdel_filter : ∀ (l : List (α × β)) (a : α), (l.map Prod.fst).Nodup → mdel l a = l.filter (fun p => decide (p.1 ≠ a))
 | [], a, _ => rfl
 | p :: l, a, h => by
  simp only [List.map_cons, List.nodup_cons] at h
  unfold mdel
  by_cases hp : p.1 = a
  ·rw [if_pos hp]
   subst hp
   have : l.filter (fun q => decide (q.1 ≠ p.1)) = l := List.filter_eq_self.2 fun q hq => decide_eq_true fun e => h.1 (e ▸ List.mem_map.2 ⟨q, hq, rfl⟩)
   rw [List.filter_cons_of_neg (by simp), this]
  ·rw [if_neg hp, mdel_filter l a h.2, List.filter_cons_of_pos (by simpa using hp)]
theorem filter_erase : ∀ (lb : List ((α × β) × Bool)) (j : Nat) (q : (α × β) × Bool), lb[j]? = some q → ((lb.map (·.1)).map Prod.fst).Nodup → lb.filter (fun x => decide (x.1.1 ≠ q.1.1)) = lb.eraseIdx j
 | [], j, q, h, _ => by simp at h
 | x :: lb, 0, q, h, hd => by
  obtain rfl : x = q := by simpa using h
  simp only [List.map_cons, List.nodup_cons] at hd
  have : lb.filter (fun y => decide (y.1.1 ≠ x.1.1)) = lb := List.filter_eq_self.2 fun y hy => decide_eq_true fun e => hd.1 (e ▸ List.mem_map.2 ⟨y.1, List.mem_map.2 ⟨y, hy, rfl⟩, rfl⟩)
  rw [List.filter_cons_of_neg (by simp), this]; rfl
 | x :: lb, j + 1, q, h, hd => by
  have h' : lb[j]? = some q := by simpa using h
  simp only [List.map_cons, List.nodup_cons] at hd
  have hne : x.1.1 ≠ q.1.1 := fun e => hd.1 (e ▸ List.mem_map.2 ⟨q.1, List.mem_map.2 ⟨q, List.mem_of_getElem? h', rfl⟩, rfl⟩)
  rw [List.filter_cons_of_pos (by simpa using hne), filter_erase lb j q h' hd.2]; rfl
/-- delete(m, a) in a round -/
theorem IterOk.del {t e ty : TypeId} (h : IterOk C venc es clock since seen c0 lb) (ht : P.underlying t = some (.map k e)) {W : World} {b : Nat} (hb : W.heap[b]? = some (.map es clock)) (a : α) (ga : C.Gd a) :
  ∃ es', (Builtin.delete_ #[t, k] ty #[.map (some b), C.enc a]).run P W = .ok (.tuple #[]) (setBlock W b (.map es' clock)) ∧ IterOk C venc es' clock since seen c0 (lb.filter (fun x => decide (x.1.1 ≠ a))) := by
 obtain ⟨es', hrun, hok, hes⟩ := h.ok.del ht hb a ga
 refine ⟨es', hrun, ?_⟩
 rcases hes with ⟨rfl, hno⟩ | ⟨j, p, hj, rfl, hes⟩
 ·have : lb.filter (fun x => decide (x.1.1 ≠ a)) = lb := List.filter_eq_self.2 fun q hq => decide_eq_true (hno q.1 (List.mem_map.2 ⟨q, hq, rfl⟩))
  rw [this]; exact h
 ·rw [List.getElem?_map] at hj
  cases hq : lb[j]? with
  | none => rw [hq] at hj; cases hj
  | some q =>
   rw [hq] at hj
   simp only [Option.map_some, Option.some.injEq] at hj
   subst hj
   have hf := filter_erase lb j q hq h.ok.nd
   have hm : (lb.eraseIdx j).map (·.1) = mdel (lb.map (·.1)) q.1.1 := by
    rw [(m_some (lb.map (·.1)) j q.1 (by rw [List.getElem?_map, hq]; rfl) h.ok.nd).2.2, ChangeMaps.map_eraseIdx]
   rw [hf]
   refine ⟨by rw [hm]; exact hok, ?_, fun x hx => h.old x ?_, h.s0, h.s1⟩
   ·rw [hes, ChangeMaps.map_eraseIdx, ChangeMaps.map_eraseIdx, h.fl]
   ·rw [hes] at hx; exact (List.eraseIdx_sublist es.toList j).subset hx
end
end Go.Proofs.Ytpbimgopiammaaa
end

section
namespace Go.Proofs.Ytpbimgopiammaaa
open Go.RowKit Go.MapKept
open Go.Maps (Keyed)
open Go.ChangeMaps (setBlock)
section
variable {P : Program} {kt : TypeId} {α β : Type}
/-- a map -/
def mp (C : KC P kt α) (venc : β → Value) (b : Nat) (l : List (α × β)) : Ent :=
 ⟨[b], fun W => ∃ es clock, W.heap[b]? = some (.map es clock) ∧ MapOk C venc es clock l, by
  rintro W ⟨es, clock, h, _⟩ i hi
  rw [List.mem_singleton.1 hi]; exact arr_lt h, by
  rintro W W' h ⟨es, clock, hb, hk⟩
  exact ⟨es, clock, by rw [h b (by simp)]; exact hb, hk⟩⟩
/-- a map that is ranged over -/
def mi (C : KC P kt α) (venc : β → Value) (b r : Nat) (lb : List ((α × β) × Bool)) (cur : Option (α × β)) : Ent :=
 ⟨[b, r], fun W => ∃ es clock since seen c0, W.heap[b]? = some (.map es clock) ∧ W.heap[r]? = some (.mapIter (some b) since seen c0) ∧ IterOk C venc es clock since seen c0 lb ∧
   ∀ p, cur = some p → ∃ (e : MapEntry) (seen' : Array Nat), seen = seen'.push e.born ∧ c0 = clock ∧ e ∈ es.toList ∧ e.key = C.enc p.1 ∧ e.val = venc p.2, by
  rintro W ⟨es, clock, since, seen, c0, h, hr, _⟩ i hi
  rcases List.mem_cons.1 hi with rfl | hi
  ·exact arr_lt h
  ·rw [List.mem_singleton.1 hi]; exact arr_lt hr, by
  rintro W W' h ⟨es, clock, since, seen, c0, hb, hr, hk⟩
  exact ⟨es, clock, since, seen, c0, by rw [h b (by simp)]; exact hb, by rw [h r (by simp)]; exact hr, hk⟩⟩
end
theorem only_sb (W : World) (b : Nat) (o : Obj) : Only [b] W (setBlock W b o) :=
 ⟨rfl, rfl, rfl, by simp [setBlock], fun i _ hi => by
  have : b ≠ i := fun e => hi (by rw [e]; simp)
  simp [setBlock, Array.getElem?_setIfInBounds, this]⟩
theorem set_at (W : World) (b : Nat) (o o1 : Obj) (h : W.heap[b]? = some o1) : (setBlock W b o).heap[b]? = some o := by
 have := arr_lt h
 simp [setBlock, Array.getElem?_setIfInBounds, this]
theorem set_off (W : World) (b : Nat) (o : Obj) {i : Nat} (h : i ≠ b) : (setBlock W b o).heap[i]? = W.heap[i]? := by
 have : b ≠ i := fun e => h e.symm
 simp [setBlock, Array.getElem?_setIfInBounds, this]
section
variable {P : Program} {kt : TypeId} {α β : Type} [DecidableEq α] {C : KC P kt α} {venc : β → Value} {b r : Nat} {l : List (α × β)} {lb : List ((α × β) × Bool)} {cur : Option (α × β)} {W w0 : World} {F : List Nat} {L : List Ent}
theorem Heap.mp_get (H : Heap w0 F L W) (j : Nat) (hj : L[j]? = some (mp C venc b l)) : ∃ es clock, W.heap[b]? = some (.map es clock) ∧ MapOk C venc es clock l := H.ok _ (List.mem_of_getElem? hj)
theorem Heap.mi_get (H : Heap w0 F L W) (j : Nat) (hj : L[j]? = some (mi C venc b r lb cur)) : ∃ es clock since seen c0, W.heap[b]? = some (.map es clock) ∧ W.heap[r]? = some (.mapIter (some b) since seen c0) ∧ IterOk C venc es clock since seen c0 lb ∧
   ∀ p, cur = some p → ∃ (e : MapEntry) (seen' : Array Nat), seen = seen'.push e.born ∧ c0 = clock ∧ e ∈ es.toList ∧ e.key = C.enc p.1 ∧ e.val = venc p.2 := H.ok _ (List.mem_of_getElem? hj)
theorem Heap.mp_set (H : Heap w0 F L W) (j : Nat) (hj : L[j]? = some (mp C venc b l)) {es : Array MapEntry} {clock : Nat} {l' : List (α × β)} (hk : MapOk C venc es clock l') : Heap w0 F (L.set j (mp C venc b l')) (setBlock W b (.map es clock)) := by
 obtain ⟨es0, clock0, hb, _⟩ := H.mp_get j hj
 refine H.at j hj (F' := [b]) ⟨?_, by simp [ids, mp], by simp [ids, mp], only_sb W b _⟩ (by simp [mp])
 intro E hE
 rw [List.mem_singleton.1 hE]
 exact ⟨es, clock, set_at W b _ _ hb, hk⟩
theorem mi_ne (H : Heap w0 F L W) (j : Nat) (hj : L[j]? = some (mi C venc b r lb cur)) : r ≠ b := by
 obtain ⟨es, clock, since, seen, c0, hb, hr, _⟩ := H.mi_get j hj
 intro e
 rw [e, hb] at hr
 cases hr
/-- the loop is over: the map alone -/
theorem Heap.mi_done (H : Heap w0 F L W) (j : Nat) (hj : L[j]? = some (mi C venc b r lb cur)) : Heap w0 F (L.set j (mp C venc b (lb.map (·.1)))) W := by
 obtain ⟨es, clock, since, seen, c0, hb, hr, hk, _⟩ := H.mi_get j hj
 refine H.at j hj (F' := [b]) ⟨?_, by simp [ids, mp], by simp [ids, mp], Only.refl _ _⟩ (by simp [mi])
 intro E hE
 rw [List.mem_singleton.1 hE]
 exact ⟨es, clock, hb, hk.ok⟩
end
section
variable {P : Program} {ops : Array Oper} {rest : List Oper} {n : Sz} {k : Nat} {f : Nat → Value} {W W' w0 : World} {F : List Nat} {L : List Ent} {Q : Exit → Act → World → Prop} {ty : TypeId} {pos : String} {af : Array Edge} {g : Option (Nat × Bool)} {dst : Option Tmp} {x y u : Operand} {v z : Value} {t e kt : TypeId}
variable {α β : Type} [DecidableEq α] {C : KC P kt α} {venc : β → Value} {b r : Nat} {l : List (α × β)} {lb : List ((α × β) × Bool)} {cur : Option (α × β)} {a : α} {q : β}
theorem s_dv {o : Oper} (hd : o.dst = none) (hw : Region.wanted o (yl n f ops) = true) (hr : (execOp (ev n f) o).run P W = .ok (.value v) W') (h : SL P ops Q rest n f W') : SL P ops Q (o :: rest) n f W := by
 have hy : yielded ops (Fn n f).tmps = yl n f ops := funext (yl_eq n f ops)
 have hr' : (execOp (Fn n f).eval o).run P W = .ok (.value v) W' := by rw [Fn_eval]; exact hr
 refine ⟨?_, fun l0 m => ?_⟩
 ·unfold wpList
  rw [hy, if_pos hw]
  refine .inl ?_
  unfold Oper.wp
  rw [hr', Oper.upon_value, hd]
  exact h.out
 ·unfold wpListIn
  rw [hy, if_pos hw]
  refine inr_step hr' (fun d => by intro e; cases e) ?_
  rw [Oper.uponIn_value, hd]
  exact h.inr l0 m
/-- make(map[K]V) -/
theorem s_mm (C : KC P kt α) (venc : β → Value) (H : Heap w0 F L W) (hw : Region.wanted ⟨some k, .makeMap t none, ty, pos, af, g⟩ (yl n f ops) = true)
  (h : ∀ b W', Heap w0 F (mp C venc b ([] : List (α × β)) :: L) W' → SL P ops Q rest n (upd f k (.map (some b))) W') : SL P ops Q (⟨some k, .makeMap t none, ty, pos, af, g⟩ :: rest) n f W := by
 refine s_run rfl hw (W' := W.alloc (.map #[] 0)) rfl (h _ _ (H.more (A := [mp C venc W.heap.size []]) ⟨?_, by simp [ids, mp], by simp [ids, mp], ?_⟩))
 ·intro E hE
  rw [List.mem_singleton.1 hE]
  exact ⟨#[], 0, heap_alloc_new W _, MapOk.nil⟩
 ·exact Only.of_below ((Below.refl _ _).alloc (Nat.le_refl _) _) _
/-- m[a] -/
theorem r_lk (H : Heap w0 F L W) (j : Nat) (hj : L[j]? = some (mp C venc b l)) (hx : ev n f x = .map (some b)) (hy : ev n f y = C.enc a) (ga : C.Gd a) (ht : P.underlying t = some (.map kt e)) (hz : ∀ W, (zeroValue e).run P W = .ok z W) (ok : Bool) :
  (execOp (ev n f) ⟨dst, .lookup t x y ok, ty, pos, af, g⟩).run P W = .ok (.value (if ok then .tuple #[((mget l a).map venc).getD z, .bool (mget l a).isSome] else ((mget l a).map venc).getD z)) W := by
 obtain ⟨es, clock, hb, hk⟩ := H.mp_get j hj
 have h := hk.look ht (hz W) hb a ga ok
 simp only [execOp, hx, hy, Sem.run_bind, h, Result.andThen_ok, Sem.run_pure]
theorem r_lkS (H : Heap w0 F L W) (j : Nat) (hj : L[j]? = some (mp C venc b l)) (hx : ev n f x = .map (some b)) (hy : ev n f y = C.enc a) (ga : C.Gd a) (hm : mget l a = some q) (ht : P.underlying t = some (.map kt e)) (hz : ∀ W, (zeroValue e).run P W = .ok z W) (hv : venc q = v) :
  (execOp (ev n f) ⟨dst, .lookup t x y false, ty, pos, af, g⟩).run P W = .ok (.value v) W := by
 have h := r_lk (dst := dst) (ty := ty) (pos := pos) (af := af) (g := g) H j hj hx hy ga ht hz false
 rw [h, hm, ← hv]; rfl
theorem r_lkN (H : Heap w0 F L W) (j : Nat) (hj : L[j]? = some (mp C venc b l)) (hx : ev n f x = .map (some b)) (hy : ev n f y = C.enc a) (ga : C.Gd a) (hm : mget l a = none) (ht : P.underlying t = some (.map kt e)) (hz : ∀ W, (zeroValue e).run P W = .ok z W) :
  (execOp (ev n f) ⟨dst, .lookup t x y false, ty, pos, af, g⟩).run P W = .ok (.value z) W := by
 have h := r_lk (dst := dst) (ty := ty) (pos := pos) (af := af) (g := g) H j hj hx hy ga ht hz false
 rw [h, hm]; rfl
theorem r_loS (H : Heap w0 F L W) (j : Nat) (hj : L[j]? = some (mp C venc b l)) (hx : ev n f x = .map (some b)) (hy : ev n f y = C.enc a) (ga : C.Gd a) (hm : mget l a = some q) (ht : P.underlying t = some (.map kt e)) (hz : ∀ W, (zeroValue e).run P W = .ok z W) (hv : venc q = v) :
  (execOp (ev n f) ⟨dst, .lookup t x y true, ty, pos, af, g⟩).run P W = .ok (.value (.tuple [v, .bool true].toArray)) W := by
 have h := r_lk (dst := dst) (ty := ty) (pos := pos) (af := af) (g := g) H j hj hx hy ga ht hz true
 rw [h, hm, ← hv]; rfl
theorem r_loN (H : Heap w0 F L W) (j : Nat) (hj : L[j]? = some (mp C venc b l)) (hx : ev n f x = .map (some b)) (hy : ev n f y = C.enc a) (ga : C.Gd a) (hm : mget l a = none) (ht : P.underlying t = some (.map kt e)) (hz : ∀ W, (zeroValue e).run P W = .ok z W) :
  (execOp (ev n f) ⟨dst, .lookup t x y true, ty, pos, af, g⟩).run P W = .ok (.value (.tuple [z, .bool false].toArray)) W := by
 have h := r_lk (dst := dst) (ty := ty) (pos := pos) (af := af) (g := g) H j hj hx hy ga ht hz true
 rw [h, hm]; rfl
/-- m[a] = q -/
theorem s_mu (H : Heap w0 F L W) (j : Nat) (hw : Region.wanted ⟨none, .mapUpdate t x y u, ty, pos, af, g⟩ (yl n f ops) = true) (hj : L[j]? = some (mp C venc b l)) (hx : ev n f x = .map (some b)) (hy : ev n f y = C.enc a) (hu : ev n f u = venc q) (ga : C.Gd a) (ht : P.underlying t = some (.map kt e))
  (h : ∀ W', Heap w0 F (L.set j (mp C venc b (mput l a q))) W' → SL P ops Q rest n f W') : SL P ops Q (⟨none, .mapUpdate t x y u, ty, pos, af, g⟩ :: rest) n f W := by
 obtain ⟨es, clock, hb, hk⟩ := H.mp_get j hj
 obtain ⟨es', clock', hrun, hk'⟩ := hk.put ht hb a ga q
 exact s_do rfl hw (by simp only [execOp, hx, hy, hu, Sem.run_bind, hrun, Result.andThen_ok, Sem.run_pure]) (h _ (H.mp_set j hj hk'))
/-- delete(m, a) -/
theorem s_dl (H : Heap w0 F L W) (j : Nat) (hw : Region.wanted ⟨none, .call ⟨.builtin .delete, #[x, y], #[t, kt]⟩, ty, pos, af, g⟩ (yl n f ops) = true) (hj : L[j]? = some (mp C venc b l)) (hx : ev n f x = .map (some b)) (hy : ev n f y = C.enc a) (ga : C.Gd a) (ht : P.underlying t = some (.map kt e))
  (h : ∀ W', Heap w0 F (L.set j (mp C venc b (mdel l a))) W' → SL P ops Q rest n f W') : SL P ops Q (⟨none, .call ⟨.builtin .delete, #[x, y], #[t, kt]⟩, ty, pos, af, g⟩ :: rest) n f W := by
 obtain ⟨es, clock, hb, hk⟩ := H.mp_get j hj
 obtain ⟨es', hrun, hk', _⟩ := hk.del (ty := ty) ht hb a ga
 exact s_dv (v := .tuple #[]) rfl hw (by simp only [execOp, resolve, invoke, builtin, List.map_toArray, List.map_cons, List.map_nil, hx, hy, Sem.run_bind, Sem.run_pure, Result.andThen_ok, hrun]) (h _ (H.mp_set j hj hk'))
/-- range m -/
theorem s_rm (H : Heap w0 F L W) (j : Nat) (hw : Region.wanted ⟨some k, .range t x, ty, pos, af, g⟩ (yl n f ops) = true) (hx : ev n f x = .map (some b)) (hj : L[j]? = some (mp C venc b l)) (ht : P.underlying t = some (.map kt e))
  (h : ∀ r W', Heap w0 F (L.set j (mi C venc b r (l.map fun p => (p, true)) none)) W' → SL P ops Q rest n (upd f k (.pointer (some ⟨r, 0, none⟩))) W') : SL P ops Q (⟨some k, .range t x, ty, pos, af, g⟩ :: rest) n f W := by
 obtain ⟨es, clock, hb, hk⟩ := H.mp_get j hj
 have hlt := arr_lt hb
 have hrun := run_range_map (P := P) W t kt e b es clock ht hb
 refine s_run rfl hw (W' := W.alloc (.mapIter (some b) clock #[] clock)) (by simp only [execOp, hx, Sem.run_bind, hrun, Result.andThen_ok, Sem.run_pure]) (h W.heap.size _ (H.at j hj (F' := [b]) ⟨?_, ?_, ?_, ?_⟩ (by simp [mp])))
 ·intro E hE
  rw [List.mem_singleton.1 hE]
  exact ⟨es, clock, clock, #[], clock, ((MapKept.heap_alloc W _).2 b hlt).trans hb, (MapKept.heap_alloc W _).1, IterOk.start hk, fun p hp => by cases hp⟩
 ·have : b ≠ W.heap.size := by omega
  simp [ids, mi, this]
 ·intro i hi
  simp [ids, mi] at hi
  rcases hi with rfl | rfl
  ·exact .inl (by simp)
  ·exact .inr (Nat.le_refl _)
 ·exact (Only.of_below ((Below.refl _ _).alloc (Nat.le_refl _) _) _)
/-- the step: nothing is left -/
theorem s_nx0 (H : Heap w0 F L W) (j : Nat) (hl : mleft lb = []) (hw : Region.wanted ⟨some k, .next x false, ty, pos, af, g⟩ (yl n f ops) = true) (hx : ev n f x = .pointer (some ⟨r, 0, none⟩)) (hj : L[j]? = some (mi C venc b r lb cur))
  (h : SL P ops Q rest n (upd f k (.tuple [.bool false].toArray)) W) : SL P ops Q (⟨some k, .next x false, ty, pos, af, g⟩ :: rest) n f W := by
 obtain ⟨es, clock, since, seen, c0, hb, hr, hk, _⟩ := H.mi_get j hj
 rcases hk.next hb hr ty with ⟨_, hrun⟩ | ⟨hn, _⟩
 ·exact s_run rfl hw (by simp only [execOp, hx, Sem.run_bind, hrun, Result.andThen_ok, Sem.run_pure]) h
 ·exact absurd hl hn
/-- the step: one that is left, whichever -/
theorem s_nx1 (H : Heap w0 F L W) (j : Nat) (hl : mleft lb ≠ []) (hw : Region.wanted ⟨some k, .next x false, ty, pos, af, g⟩ (yl n f ops) = true) (hx : ev n f x = .pointer (some ⟨r, 0, none⟩)) (hj : L[j]? = some (mi C venc b r lb cur))
  (h : ∀ i p W', lb[i]? = some (p, true) → C.Gd p.1 → Heap w0 F (L.set j (mi C venc b r (lb.set i (p, false)) (some p))) W' → SL P ops Q rest n (upd f k (.tuple [.bool true, C.enc p.1, venc p.2].toArray)) W') : SL P ops Q (⟨some k, .next x false, ty, pos, af, g⟩ :: rest) n f W := by
 obtain ⟨es, clock, since, seen, c0, hb, hr, hk, _⟩ := H.mi_get j hj
 have hne := mi_ne H j hj
 rcases hk.next hb hr ty with ⟨hn, _⟩ | ⟨_, i, p, e0, w1, hal, hp, hem, hkey, hval, hrun, hk'⟩
 ·exact absurd hn hl
 ·have hr1 : w1.heap[r]? = some (.mapIter (some b) since seen c0) := by rcases hal with rfl | rfl <;> exact hr
  have hb1 : w1.heap[b]? = some (.map es clock) := by rcases hal with rfl | rfl <;> exact hb
  have ho : Only [] W w1 := by
   rcases hal with rfl | rfl
   ·exact Only.refl _ _
   ·exact ⟨rfl, rfl, rfl, Nat.le_refl _, fun _ _ _ => rfl⟩
  have gp : C.Gd p.1 := hk.ok.gd p (List.mem_map.2 ⟨(p, true), List.mem_of_getElem? hp, rfl⟩)
  refine s_run rfl hw (W' := setBlock w1 r (.mapIter (some b) since (seen.push e0.born) clock)) (by simp only [execOp, hx, Sem.run_bind, hrun, Result.andThen_ok, Sem.run_pure]) (h i p _ hp gp (H.at j hj (F' := [b, r]) ⟨?_, ?_, ?_, ?_⟩ (by simp [mi])))
  ·intro E hE
   rw [List.mem_singleton.1 hE]
   exact ⟨es, clock, since, seen.push e0.born, clock, (set_off w1 r _ (fun e => hne e.symm)).trans hb1, set_at w1 r _ _ hr1, hk', fun p' hp' => by
    injection hp' with hp'
    subst hp'
    exact ⟨e0, seen, rfl, rfl, hem, hkey, hval⟩⟩
  ·have : b ≠ r := fun e => hne e.symm
   simp [ids, mi, this]
  ·intro i hi
   simp [ids, mi] at hi
   rcases hi with rfl | rfl
   ·exact .inl (by simp)
   ·exact .inl (by simp)
  ·exact (ho.mono (by simp)).trans ((only_sb w1 r _).mono (by simp))
/-- the round's key and value -/
theorem r_en {p : α × β} (H : Heap w0 F L W) (j : Nat) (hj : L[j]? = some (mi C venc b r lb (some p))) (hx : ev n f x = .pointer (some ⟨r, 0, none⟩)) : (execOp (ev n f) ⟨dst, .entry x, ty, pos, af, g⟩).run P W = .ok (.value (.tuple [C.enc p.1, venc p.2].toArray)) W := by
 obtain ⟨es, clock, since, seen, c0, hb, hr, hk, hc⟩ := H.mi_get j hj
 obtain ⟨e0, seen', rfl, rfl, hem, hkey, hval⟩ := hc p rfl
 have hrun := run_entry_at (P := P) W r b since seen' es c0 e0 hr hb hem hk.ok.bn
 rw [hkey, hval] at hrun
 simp only [execOp, hx, Sem.run_bind, hrun, Result.andThen_ok, Sem.run_pure]
/-- delete(m, a) in a round -/
theorem s_di (H : Heap w0 F L W) (j : Nat) (hw : Region.wanted ⟨none, .call ⟨.builtin .delete, #[x, y], #[t, kt]⟩, ty, pos, af, g⟩ (yl n f ops) = true) (hj : L[j]? = some (mi C venc b r lb cur)) (hx : ev n f x = .map (some b)) (hy : ev n f y = C.enc a) (ga : C.Gd a) (ht : P.underlying t = some (.map kt e))
  (h : ∀ W', Heap w0 F (L.set j (mi C venc b r (lb.filter (fun x => decide (x.1.1 ≠ a))) none)) W' → SL P ops Q rest n f W') : SL P ops Q (⟨none, .call ⟨.builtin .delete, #[x, y], #[t, kt]⟩, ty, pos, af, g⟩ :: rest) n f W := by
 obtain ⟨es, clock, since, seen, c0, hb, hr, hk, _⟩ := H.mi_get j hj
 have hne := mi_ne H j hj
 obtain ⟨es', hrun, hk'⟩ := hk.del (ty := ty) ht hb a ga
 refine s_dv (v := .tuple #[]) rfl hw (W' := setBlock W b (.map es' clock)) (by simp only [execOp, resolve, invoke, builtin, List.map_toArray, List.map_cons, List.map_nil, hx, hy, Sem.run_bind, Sem.run_pure, Result.andThen_ok, hrun]) (h _ (H.at j hj (F' := [b, r]) ⟨?_, ?_, ?_, (only_sb W b _).mono (by simp)⟩ (by simp [mi])))
 ·intro E hE
  rw [List.mem_singleton.1 hE]
  exact ⟨es', clock, since, seen, c0, set_at W b _ _ hb, (set_off W b _ hne).trans hr, hk', fun p hp => by cases hp⟩
 ·have : b ≠ r := fun e => hne e.symm
  simp [ids, mi, this]
 ·intro i hi
  simp [ids, mi] at hi
  rcases hi with rfl | rfl
  ·exact .inl (by simp)
  ·exact .inl (by simp)
end
theorem zv_of {P : Program} {t : TypeId} {z : Value} {size bytes : Nat} (hi : Inf P t z size bytes) : ∀ W, (zeroValue t).run P W = .ok z W := by
 obtain ⟨i, h1, h2, _, _⟩ := hi.ex
 exact fun W => by simp [zeroValue, typeInfo, h1, h2]
/-- keys that are ints -/
def kI (P : Program) (kt : TypeId) (h : P.underlying kt = some (.int .i64)) : KC P kt Int :=
 ⟨Value.int .i64, fun a => -9223372036854775808 ≤ a ∧ a ≤ 9223372036854775807, Go.Maps.int_keyed h, fun a ha => ⟨_, Go.Maps.keyOf_int_mk h (wf_i64 ha)⟩, fun a b e => by injection e⟩
end Go.Proofs.Ytpbimgopiammaaa
end

section
namespace Go.Proofs.Ytpbimgopiammaaa
open Go.RowKit
theorem tk_snoc {α : Type} {l : List α} {k : Nat} {x : α} (h : l[k]? = some x) : l.take k ++ [x] = l.take (k + 1) := by rw [List.take_add_one, h]; rfl
theorem Heap.mi_nd {P : Program} {kt : TypeId} {α β : Type} {C : KC P kt α} {venc : β → Value} {b r : Nat} {lb : List ((α × β) × Bool)} {cur : Option (α × β)} {W w0 : World} {F : List Nat} {L : List Ent} (H : Heap w0 F L W) (j : Nat) (hj : L[j]? = some (mi C venc b r lb cur)) : ((lb.map (·.1)).map Prod.fst).Nodup := by
 obtain ⟨es, clock, since, seen, c0, hb, hr, hk, _⟩ := H.ok _ (List.mem_of_getElem? hj)
 exact hk.ok.nd
section
variable {P : Program} {n : Sz} {f : Nat → Value} {W w0 : World} {dst : Option Tmp} {ty : TypeId} {pos : String} {af : Array Edge} {g : Option (Nat × Bool)} {x y : Operand} {t t2 e : TypeId} {v : Value} {k k2 : IntKind} {a b : Int}
/-- s[:hi:max] -/
theorem r_shm {A : Option Addr} {l c : Nat} {hi mx : Operand} {j j2 m : Nat} (hx : ev n f x = .slice A l c) (hh : ev n f hi = .int k a) (ha : a = (j : Int)) (hq : ev n f mx = .int k2 b) (hb : b = (j2 : Int)) (hj : j ≤ j2) (hj2 : j2 ≤ c) (h : P.underlying t = some (.slice e)) (hm : ∀ W, (Go.sizeOf e).run P W = .ok m W) :
  (execOp (ev n f) ⟨dst, .slice t x none (some hi) (some mx), ty, pos, af, g⟩).run P W = .ok (.value (.slice A j j2)) W := by
 subst ha; subst hb
 have h1 : (0 : Int) ≤ j ∧ (j : Int) ≤ j2 := by omega
 have h2 : (0 : Int) ≤ j2 ∧ (j2 : Int) ≤ c := by omega
 have h0 : ∀ p : Addr, p.add 0 = p := fun p => by simp [Addr.add]
 simp only [execOp, Instr.sliceAt, Instr.slice, Instr.sliceBounds, Instr.sliceBound, hx, hh, hq, asIntOf, Option.map_some, Option.map_none, Sem.run_bind, run_underlying h, Result.andThen_ok, Sem.run_pure, h1, h2, and_self, if_true, hm, Int.toNat_natCast, Nat.zero_mul, Nat.sub_zero]
 cases A <;> simp [h0]
/-- s[lo:] of any slice -/
def sloA (A : Option Addr) (c i m : Nat) : Option Addr := A.map fun p => if c = i then p else p.add (i * m)
theorem r_sloA {A : Option Addr} {l c : Nat} {lo : Operand} {i m : Nat} (hx : ev n f x = .slice A l c) (hl : ev n f lo = .int k a) (ha : a = (i : Int)) (hi : i ≤ l) (h : P.underlying t = some (.slice e)) (hm : ∀ W, (Go.sizeOf e).run P W = .ok m W) :
  (execOp (ev n f) ⟨dst, .slice t x (some lo) none none, ty, pos, af, g⟩).run P W = .ok (.value (.slice (sloA A c i m) (l - i) (c - i))) W := by
 subst ha
 have h1 : (0 : Int) ≤ i ∧ (i : Int) ≤ l := by omega
 simp only [execOp, Instr.sliceAt, Instr.slice, Instr.sliceBounds, Instr.sliceBound, hx, hl, asIntOf, Option.map_some, Option.map_none, Sem.run_bind, run_underlying h, Result.andThen_ok, Sem.run_pure, h1, and_self, if_true, hm, Int.toNat_natCast]
 cases A with
 | none => simp [sloA]
 | some p => by_cases h2 : c = i <;> simp [sloA, h2]
theorem Sees.slo {α : Type} {enc : α → Value} {w : World} {F : List Nat} {A : Option Addr} {xs : List α} (h : Sees enc w F A xs) {c : Nat} (i : Nat) (hc : xs.length ≤ c) : Sees enc w F (sloA A c i 1) (xs.drop i) := by
 intro h0
 rw [List.length_drop] at h0
 obtain ⟨b, o, e, hb, hr⟩ := h (by omega)
 subst e
 refine ⟨b, o + i, ?_, hb, fun j z hj => ?_⟩
 ·show some (if c = i then _ else _) = _
  rw [if_neg (by omega)]; simp [Addr.add]
 ·rw [List.getElem?_drop] at hj
  rw [Nat.add_assoc]; exact hr _ z hj
theorem Sees.sloN {α : Type} {enc : α → Value} {w : World} {F : List Nat} {A : Option Addr} {xs : List α} (h : Sees enc w F A xs) {c : Nat} (m i : Nat) (hc : xs.length ≤ c * m) : Sees enc w F (sloA A c i m) (xs.drop (i * m)) := by
 intro h0
 rw [List.length_drop] at h0
 obtain ⟨b, o, e, hb, hr⟩ := h (by omega)
 subst e
 refine ⟨b, o + i * m, ?_, hb, fun j z hj => ?_⟩
 ·show some (if c = i then _ else _) = _
  rw [if_neg (by rintro rfl; omega)]; simp [Addr.add]
 ·rw [List.getElem?_drop] at hj
  rw [Nat.add_assoc]; exact hr _ z hj
theorem Sees.head {α : Type} {enc : α → Value} {w : World} {F : List Nat} {A : Option Addr} {xs : List α} (h : Sees enc w F A xs) (k : Nat) : Sees enc w F A (xs.take k) := by
 intro h0
 obtain ⟨b, o, e, hb, hr⟩ := h (by rw [List.length_take] at h0; omega)
 refine ⟨b, o, e, hb, fun j z hj => hr j z ?_⟩
 rw [List.getElem?_take] at hj
 split at hj
 ·exact hj
 ·cases hj
theorem own_cap {size m c : Nat} {A : Option Addr} {xs : List Value} {T : TypeId} {F : List Nat} {L : List Ent} (H : Heap w0 F L W) (j : Nat) (hj : L[j]? = some (ownN size (.slice A m c) m xs T)) : m ≤ c := by
 rcases (H.own_get j hj).2 with ⟨e, h0⟩ | ⟨g, cap, cur, e, _, _, h, _⟩
 ·injection e with _ _ e; omega
 ·injection e with _ _ e; omega
theorem own_seesC {α : Type} {enc : α → Value} {size : Nat} {F : List Nat} {L : List Ent} (H : Heap w0 F L W) (j : Nat) {A : Option Addr} {n c : Nat} {xs : List α} {T : TypeId} (hj : L[j]? = some (ownN size (.slice A n c) n (xs.map enc) T)) : Sees enc W [] A xs := by
 intro h0
 obtain ⟨b, e, _, hr⟩ := H.own_seesN j hj h0
 exact ⟨b, 0, e, by simp, hr⟩
/-- what a row of the call's own reads as lies in none of the blocks that were there -/
theorem Heap.own_fresh {α : Type} {enc : α → Value} {size : Nat} {F : List Nat} {L : List Ent} (H : Heap w0 [] L W) (j : Nat) {A : Option Addr} {n c : Nat} {xs : List α} {T : TypeId} (hj : L[j]? = some (ownN size (.slice A n c) n (xs.map enc) T)) (hF : ∀ i ∈ F, i < w0.heap.size) : Sees enc W F A xs := by
 intro h0
 obtain ⟨b, e, hb, hr⟩ := H.own_seesN j hj h0
 refine ⟨b, 0, e, fun hm => ?_, hr⟩
 have h1 := H.own b (mem_ids.2 ⟨_, List.mem_of_getElem? hj, hb⟩)
 have h2 := hF b hm
 simp at h1
 omega
end
section
variable {P : Program} {ops : Array Oper} {rest : List Oper} {n : Sz} {k k2 : Nat} {f : Nat → Value} {W w0 : World} {F : List Nat} {L : List Ent} {Q : Exit → Act → World → Prop} {ty ty2 : TypeId} {pos pos2 : String} {af af2 : Array Edge} {g : Option (Nat × Bool)} {x y s : Operand} {v u : Value} {t e : TypeId}
/-- a store into a block whose cells are told by a function -/
theorem s_stC (H : Heap w0 F L W) (j : Nat) {p o : Nat} {cs cs' : List Value} {T : TypeId} {c0 : Value} (hw : Region.wanted ⟨none, .store t x y, ty, pos, af, g⟩ (yl n f ops) = true) (hx : ev n f x = .pointer (some ⟨p, o, none⟩)) (hy : ev n f y = u) (hj : L[j]? = some (blk p cs T)) (hv : cs[o]? = some c0) (hcs : cs.set o u = cs') (h1 : u.oneCell' = true) (hs : ∀ W, (Go.sizeOf t).run P W = .ok 1 W)
  (h : ∀ W', Heap w0 F (L.set j (blk p cs' T)) W' → SL P ops Q rest n f W') : SL P ops Q (⟨none, .store t x y, ty, pos, af, g⟩ :: rest) n f W := by
 subst hcs
 exact s_st H j hw hx hy hj hv h1 hs h
theorem owns_any {W : World} {lo : Nat} {T : TypeId} {size : Nat} {v : Value} {n : Nat} {xs : List Value} (h : W.ownsRow lo T size v n xs) : W.ownsRow 0 T size v n xs :=
 ⟨h.1, h.2.imp id fun ⟨g, cap, cur, e, hg, r⟩ => ⟨g, cap, cur, e, Nat.zero_le _, r⟩⟩
/-- append(s, y...): s is full; both are only read -/
theorem s_apG {α : Type} {enc : α → Value} {z0 : Value} {bytes m l c : Nat} {A B : Option Addr} {xs zs : List α} (H : Heap w0 F L W) (hS : Sees enc W [] A xs) (hl : xs.length = m) (hZ : Sees enc W [] B zs) (hzl : zs.length = l) (h0 : 0 < l)
  (hw : Region.wanted ⟨some k, .call ⟨.builtin .append, #[s, y], #[t, t]⟩, ty, pos, af, g⟩ (yl n f ops) = true) (hs : ev n f s = .slice A m m) (hy : ev n f y = .slice B l c) (h1 : ∀ z, (enc z).oneCell' = true)
  (hm : m + l ≤ 100000000000 ∧ (m + l) * bytes ≤ 140737488355328) (ht : P.underlying t = some (.slice e)) (hi : Inf P e z0 1 bytes) (hz : z0.oneCell' = true)
  (h : ∀ A' c' W', Heap w0 F (ownN 1 (.slice A' (m + l) c') (m + l) ((xs ++ zs).map enc) e :: L) W' → SL P ops Q rest n (upd f k (.slice A' (m + l) c')) W') :
  SL P ops Q (⟨some k, .call ⟨.builtin .append, #[s, y], #[t, t]⟩, ty, pos, af, g⟩ :: rest) n f W := by
 obtain ⟨i, hi0, hz0, hsz, hby⟩ := hi.ex
 obtain ⟨bz, oz, rfl, _, hrz⟩ := hZ (by omega)
 have hnew : ∀ q u, (zs.map enc)[q]? = some u → W.cell? ((⟨bz, oz, none⟩ : Addr).add q) = some u := fun q u hq => by
  rw [List.getElem?_map] at hq
  cases hzq : zs[q]? with
  | none => rw [hzq] at hq; simp at hq
  | some z => rw [hzq] at hq; rw [add_plain, hrz q z hzq]; simpa using hq
 have hone : ∀ u ∈ zs.map enc, u.oneCell' = true := fun u hu => by
  obtain ⟨z, _, rfl⟩ := List.mem_map.1 hu; exact h1 z
 obtain ⟨v', W2, hr, o1, o2⟩ : ∃ v' W2, (Builtin.append_ #[t, t] ty #[.slice A m m, .slice (some ⟨bz, oz, none⟩) l c]).run P W = .ok v' W2 ∧ W2.ownsRow W.heap.size e 1 v' (m + l) (xs.map enc ++ zs.map enc) ∧ W.grownBy W2 none := by
  cases A with
  | none =>
   have h0 : xs.length = 0 := by
    rcases Nat.eq_zero_or_pos xs.length with h0 | h0
    ·exact h0
    ·obtain ⟨q, r, e0, _⟩ := hS (by omega); cases e0
   obtain rfl : xs = [] := List.eq_nil_of_length_eq_zero h0
   obtain rfl : m = 0 := by simpa using hl.symm
   obtain ⟨v2, W2, hr2, h22, h23, _⟩ := run_append_own (P := P) W W.heap.size t ty e i z0 1 bytes ht hi0 hz0 hsz hby (by simp [one_cells hz]) (by omega) (.slice none 0 0) 0 [] (World.ownsRow_nil _ _ e 1) ⟨bz, oz, none⟩ l c (zs.map enc) (by simp [hzl]) hnew hone (by unfold maxLen; omega) hm.2 (Nat.le_refl _)
   exact ⟨v2, W2, hr2, by simpa using h22, h23⟩
  | some p =>
   have holds : ∀ j u, (xs.map enc)[j]? = some u → W.cell? (p.add j) = some u := fun j u hj => by
    rw [List.getElem?_map] at hj
    cases hzj : xs[j]? with
    | none => rw [hzj] at hj; simp at hj
    | some x' =>
     rw [hzj] at hj
     obtain ⟨b, o, e0, hb, hr⟩ := hS (by have := (List.getElem?_eq_some_iff.1 hzj).1; omega)
     injection e0 with e0
     subst e0
     rw [add_plain, hr j x' hzj]; simpa using hj
   obtain ⟨v2, W2, hr2, h22, h23⟩ := run_append_arg_grows (P := P) (w := W) t ty e i z0 1 bytes ht hi0 hz0 hsz hby (by simp [one_cells hz]) (by omega) p m m (xs.map enc) (by simp [hl]) holds ⟨bz, oz, none⟩ l c (zs.map enc) (by simp [hzl]) hnew (by omega) (by unfold maxLen; omega) hm.2
   exact ⟨v2, W2, hr2, h22, h23⟩
 obtain ⟨A', c', rfl⟩ : ∃ A c, v' = .slice A (m + l) c := by
  rcases o1.2 with ⟨rfl, h0⟩ | ⟨g, cap, cur, rfl, _⟩
  ·omega
  ·exact ⟨_, cap, rfl⟩
 have H3 : Heap w0 F (ownN 1 (.slice A' (m + l) c') (m + l) ((xs ++ zs).map enc) e :: L) W2 := by
  refine H.more (A := [ownN 1 (.slice A' (m + l) c') (m + l) ((xs ++ zs).map enc) e]) ⟨?_, ?_, ?_, ?_⟩
  ·intro E hE; rw [List.mem_singleton.1 hE]
   have := owns_any o1
   show W2.ownsRow 0 e 1 _ _ _
   rw [List.map_append]; exact this
  ·simp only [ids, ownN, List.flatMap_cons, List.flatMap_nil, List.append_nil]; exact nodup_opt _
  ·intro i hi
   simp only [ids, ownN, List.flatMap_cons, List.flatMap_nil, List.append_nil, Option.mem_toList] at hi
   exact .inr (o1.lt i hi).1
  ·exact ⟨o2.os, o2.tape, o2.output, o2.size, fun k hk hf => o2.block k hk (by simp)⟩
 exact s_run rfl hw (W' := W2) (v := .slice A' (m + l) c') (by
  simp only [execOp, resolve, invoke, builtin, List.map_toArray, List.map_cons, List.map_nil, hs, hy, Sem.run_bind, Sem.run_pure, Result.andThen_ok, hr]) (h A' c' W2 H3)
end
end Go.Proofs.Ytpbimgopiammaaa
end

section
namespace Go.Proofs.Ytpbimgopiammaaa
open Go.RowKit Go.MapKept
open Go.Maps (Keyed)
open Go.ChangeMaps (setBlock)
theorem mset_fstG {α β : Type} {lb : List ((α × β) × Bool)} {j : Nat} {p : α × β} (h : lb[j]? = some (p, true)) : (lb.set j (p, false)).map (·.1) = lb.map (·.1) := by
 rw [List.map_set]
 apply List.ext_getElem?
 intro i
 rw [List.getElem?_set]
 by_cases e : j = i
 ·subst e
  rw [if_pos rfl, List.getElem?_map, h]
  have := (List.getElem?_eq_some_iff.1 h).1
  rw [if_pos (by simpa using this)]; rfl
 ·rw [if_neg e]
section
variable {P : Program} {kt : TypeId} {α β : Type}
/-- a map that lies where nothing changes -/
structure MapAt (C : KC P kt α) (venc : β → Value) (w0 : World) (F : List Nat) (b : Nat) (es : Array MapEntry) (clock : Nat) (l : List (α × β)) : Prop where
 hb : w0.heap[b]? = some (.map es clock)
 hk : MapOk C venc es clock l
 hF : b ∉ F
theorem MapAt.now {C : KC P kt α} {venc : β → Value} {w0 W : World} {F : List Nat} {b : Nat} {es : Array MapEntry} {clock : Nat} {l : List (α × β)} (M : MapAt C venc w0 F b es clock l) (hO : Only F w0 W) : W.heap[b]? = some (.map es clock) :=
 (hO.block b (arr_lt M.hb) M.hF).trans M.hb
theorem MapAt.nd {C : KC P kt α} {venc : β → Value} {w0 : World} {F : List Nat} {b : Nat} {es : Array MapEntry} {clock : Nat} {l : List (α × β)} (M : MapAt C venc w0 F b es clock l) : (l.map Prod.fst).Nodup := M.hk.nd
theorem Ents.map_at [DecidableEq α] {C : KC P kt α} {venc : β → Value} {w : World} {A : List Ent} {b : Nat} {l : List (α × β)} (hE : Ents A w) (j : Nat) (hj : A[j]? = some (mp C venc b l)) : ∃ es clock, MapAt C venc w [] b es clock l := by
 obtain ⟨es, clock, h1, h2⟩ := (Heap.start hE).mp_get j hj
 exact ⟨es, clock, h1, h2, by simp⟩
/-- the iterator of a map that is only read -/
def mri (C : KC P kt α) (venc : β → Value) (es : Array MapEntry) (clock b r : Nat) (lb : List ((α × β) × Bool)) (cur : Option (α × β)) : Ent :=
 ⟨[r], fun W => ∃ since seen c0, W.heap[r]? = some (.mapIter (some b) since seen c0) ∧ IterOk C venc es clock since seen c0 lb ∧
   ∀ p, cur = some p → ∃ (e : MapEntry) (seen' : Array Nat), seen = seen'.push e.born ∧ c0 = clock ∧ e ∈ es.toList ∧ e.key = C.enc p.1 ∧ e.val = venc p.2, by
  rintro W ⟨since, seen, c0, hr, _⟩ i hi
  rw [List.mem_singleton.1 hi]; exact arr_lt hr, by
  rintro W W' h ⟨since, seen, c0, hr, hk⟩
  exact ⟨since, seen, c0, by rw [h r (by simp)]; exact hr, hk⟩⟩
end
section
variable {P : Program} {ops : Array Oper} {rest : List Oper} {n : Sz} {k : Nat} {f : Nat → Value} {W w0 : World} {F : List Nat} {L : List Ent} {Q : Exit → Act → World → Prop} {ty : TypeId} {pos : String} {af : Array Edge} {g : Option (Nat × Bool)} {x y u : Operand} {t e kt : TypeId} {v z : Value} {dst : Option Tmp}
variable {α β : Type} [DecidableEq α] {C : KC P kt α} {venc : β → Value} {b r : Nat} {l : List (α × β)} {lb : List ((α × β) × Bool)} {cur : Option (α × β)} {a : α} {q : β} {es : Array MapEntry} {clock : Nat}
theorem Heap.mri_get (H : Heap w0 F L W) (j : Nat) (hj : L[j]? = some (mri C venc es clock b r lb cur)) : ∃ since seen c0, W.heap[r]? = some (.mapIter (some b) since seen c0) ∧ IterOk C venc es clock since seen c0 lb ∧
   ∀ p, cur = some p → ∃ (e : MapEntry) (seen' : Array Nat), seen = seen'.push e.born ∧ c0 = clock ∧ e ∈ es.toList ∧ e.key = C.enc p.1 ∧ e.val = venc p.2 := H.ok _ (List.mem_of_getElem? hj)
theorem s_rmR (M : MapAt C venc w0 F b es clock l) (H : Heap w0 F L W) (hw : Region.wanted ⟨some k, .range t x, ty, pos, af, g⟩ (yl n f ops) = true) (hx : ev n f x = .map (some b)) (ht : P.underlying t = some (.map kt e))
  (h : ∀ r W', Heap w0 F (mri C venc es clock b r (l.map fun p => (p, true)) none :: L) W' → SL P ops Q rest n (upd f k (.pointer (some ⟨r, 0, none⟩))) W') : SL P ops Q (⟨some k, .range t x, ty, pos, af, g⟩ :: rest) n f W := by
 have hb := M.now H.only
 have hrun := run_range_map (P := P) W t kt e b es clock ht hb
 refine s_run rfl hw (W' := W.alloc (.mapIter (some b) clock #[] clock)) (by simp only [execOp, hx, Sem.run_bind, hrun, Result.andThen_ok, Sem.run_pure]) (h W.heap.size _ (H.more (A := [mri C venc es clock b W.heap.size (l.map fun p => (p, true)) none]) ⟨?_, ?_, ?_, ?_⟩))
 ·intro E hE
  rw [List.mem_singleton.1 hE]
  exact ⟨clock, #[], clock, (MapKept.heap_alloc W _).1, IterOk.start M.hk, fun p hp => by cases hp⟩
 ·simp [ids, mri]
 ·intro i hi
  simp [ids, mri] at hi
  exact .inr (by omega)
 ·exact (Only.of_below ((Below.refl _ _).alloc (Nat.le_refl _) _) _)
theorem s_nx0R (M : MapAt C venc w0 F b es clock l) (H : Heap w0 F L W) (j : Nat) (hl : mleft lb = []) (hw : Region.wanted ⟨some k, .next x false, ty, pos, af, g⟩ (yl n f ops) = true) (hx : ev n f x = .pointer (some ⟨r, 0, none⟩)) (hj : L[j]? = some (mri C venc es clock b r lb cur))
  (h : SL P ops Q rest n (upd f k (.tuple [.bool false].toArray)) W) : SL P ops Q (⟨some k, .next x false, ty, pos, af, g⟩ :: rest) n f W := by
 obtain ⟨since, seen, c0, hr, hk, _⟩ := H.mri_get j hj
 rcases hk.next (M.now H.only) hr ty with ⟨_, hrun⟩ | ⟨hn, _⟩
 ·exact s_run rfl hw (by simp only [execOp, hx, Sem.run_bind, hrun, Result.andThen_ok, Sem.run_pure]) h
 ·exact absurd hl hn
theorem s_nx1R (M : MapAt C venc w0 F b es clock l) (H : Heap w0 F L W) (j : Nat) (hl : mleft lb ≠ []) (hw : Region.wanted ⟨some k, .next x false, ty, pos, af, g⟩ (yl n f ops) = true) (hx : ev n f x = .pointer (some ⟨r, 0, none⟩)) (hj : L[j]? = some (mri C venc es clock b r lb cur))
  (h : ∀ i p W', lb[i]? = some (p, true) → C.Gd p.1 → Heap w0 F (L.set j (mri C venc es clock b r (lb.set i (p, false)) (some p))) W' → SL P ops Q rest n (upd f k (.tuple [.bool true, C.enc p.1, venc p.2].toArray)) W') : SL P ops Q (⟨some k, .next x false, ty, pos, af, g⟩ :: rest) n f W := by
 obtain ⟨since, seen, c0, hr, hk, _⟩ := H.mri_get j hj
 rcases hk.next (M.now H.only) hr ty with ⟨hn, _⟩ | ⟨_, i, p, e0, w1, hal, hp, hem, hkey, hval, hrun, hk'⟩
 ·exact absurd hn hl
 ·have hr1 : w1.heap[r]? = some (.mapIter (some b) since seen c0) := by rcases hal with rfl | rfl <;> exact hr
  have ho : Only [] W w1 := by
   rcases hal with rfl | rfl
   ·exact Only.refl _ _
   ·exact ⟨rfl, rfl, rfl, Nat.le_refl _, fun _ _ _ => rfl⟩
  have gp : C.Gd p.1 := hk.ok.gd p (List.mem_map.2 ⟨(p, true), List.mem_of_getElem? hp, rfl⟩)
  refine s_run rfl hw (W' := setBlock w1 r (.mapIter (some b) since (seen.push e0.born) clock)) (by simp only [execOp, hx, Sem.run_bind, hrun, Result.andThen_ok, Sem.run_pure]) (h i p _ hp gp (H.at j hj (F' := [r]) ⟨?_, ?_, ?_, ?_⟩ (by simp [mri])))
  ·intro E hE
   rw [List.mem_singleton.1 hE]
   exact ⟨since, seen.push e0.born, clock, set_at w1 r _ _ hr1, hk', fun p' hp' => by
    injection hp' with hp'
    subst hp'
    exact ⟨e0, seen, rfl, rfl, hem, hkey, hval⟩⟩
  ·simp [ids, mri]
  ·intro i hi
   simp [ids, mri] at hi
   exact .inl (by simp [hi])
  ·exact (ho.mono (by simp)).trans (only_sb w1 r _)
theorem r_enR {p : α × β} (M : MapAt C venc w0 F b es clock l) (H : Heap w0 F L W) (j : Nat) (hj : L[j]? = some (mri C venc es clock b r lb (some p))) (hx : ev n f x = .pointer (some ⟨r, 0, none⟩)) : (execOp (ev n f) ⟨dst, .entry x, ty, pos, af, g⟩).run P W = .ok (.value (.tuple [C.enc p.1, venc p.2].toArray)) W := by
 obtain ⟨since, seen, c0, hr, hk, hc⟩ := H.mri_get j hj
 obtain ⟨e0, seen', rfl, rfl, hem, hkey, hval⟩ := hc p rfl
 have hrun := run_entry_at (P := P) W r b since seen' es c0 e0 hr (M.now H.only) hem hk.ok.bn
 rw [hkey, hval] at hrun
 simp only [execOp, hx, Sem.run_bind, hrun, Result.andThen_ok, Sem.run_pure]
end
end Go.Proofs.Ytpbimgopiammaaa
end

section
namespace Go.Proofs.Ytpbimgopiammaaa
theorem keyOf_pairS {P : Program} {k e0 e1 : TypeId} {q0 q1 : IntKind} (hu : P.underlying k = some (.struct (P.fieldsOf k))) (hf : (P.fieldsOf k).toList.map (fun f => (f.name != "_", f.type, f.offset)) = [(true, e0, 0), (true, e1, 1)]) (h0 : P.underlying e0 = some (.int q0)) (h1 : P.underlying e1 = some (.int q1))
  (hc : P.cellsOf k = 2) (c0 : P.cellsOf e0 = 1) (c1 : P.cellsOf e1 = 1) (hkt : P.keyType k = true) (hsz : ∃ m, P.types.size = m + 1) {a b : Int} (wa : (Lit.int q0 a).wf = true) (wb : (Lit.int q1 b).wf = true) :
  ∃ l, keyOf P k (.agg [.int q0 a, .int q1 b].toArray) = some l := by
 obtain ⟨m, hm⟩ := hsz
 unfold keyOf
 generalize P.fieldsOf k = fs at hu hf
 simp only [hu]
 rw [if_pos (by simp [hkt, Value.formed, hu, hc]), hm]
 obtain ⟨l⟩ := fs
 simp only at hf
 obtain ⟨f1, f2, rfl⟩ : ∃ f1 f2, l = [f1, f2] := by
  have := congrArg List.length hf
  simp only [List.length_map, List.length_cons, List.length_nil] at this
  rcases l with _ | ⟨f1, _ | ⟨f2, _ | ⟨f3, l⟩⟩⟩
  ·simp at this
  ·simp at this
  ·exact ⟨f1, f2, rfl⟩
  ·simp at this
 simp only [List.map_cons, List.map_nil, List.cons.injEq, Prod.mk.injEq, and_true, bne_iff_ne] at hf
 obtain ⟨⟨n1, rfl, o1⟩, n2, rfl, o2⟩ := hf
 unfold Program.keyLits
 simp only [hu, Value.cells]
 rw [if_pos ⟨by rw [hc]; rfl, by simp [n1, n2]⟩]
 simp [List.mapM_cons, o1, o2, c0, c1, Program.keyLits, h0, h1, wa, wb]
theorem agg2_inj {k0 k1 : IntKind} {a b : Int × Int} (h : Value.agg [.int k0 a.1, .int k1 a.2].toArray = Value.agg [.int k0 b.1, .int k1 b.2].toArray) : a = b := by
 obtain ⟨a1, a2⟩ := a
 obtain ⟨b1, b2⟩ := b
 simp at h
 simp [h.1, h.2]
end Go.Proofs.Ytpbimgopiammaaa
end

section
namespace Go.Proofs.Ytpbimgopiammaaa
open Go.RowKit
theorem ag3 (W : World) : (isAgg 3).run Try.prog W = .ok false W := by kernel_rfl
theorem sz3 (W : World) : (Go.sizeOf 3).run Try.prog W = .ok 1 W := by kernel_rfl
theorem ag22 (W : World) : (isAgg 22).run Try.prog W = .ok false W := by kernel_rfl
theorem ag28 (W : World) : (isAgg 28).run Try.prog W = .ok false W := by kernel_rfl
theorem sz28 (W : World) : (Go.sizeOf 28).run Try.prog W = .ok 1 W := by kernel_rfl
theorem ag29 (W : World) : (isAgg 29).run Try.prog W = .ok true W := by kernel_rfl
theorem sz29 (W : World) : (Go.sizeOf 29).run Try.prog W = .ok 4 W := by kernel_rfl
theorem ag31 (W : World) : (isAgg 31).run Try.prog W = .ok true W := by kernel_rfl
theorem sz31 (W : World) : (Go.sizeOf 31).run Try.prog W = .ok 13 W := by kernel_rfl
theorem fo31_0 (a : Addr) (W : World) : (Instr.fieldAt 31 (.pointer (some a)) 0).run Try.prog W = .ok (.pointer (some (a.add 0))) W := by kernel_rfl
theorem fo31_1 (a : Addr) (W : World) : (Instr.fieldAt 31 (.pointer (some a)) 1).run Try.prog W = .ok (.pointer (some (a.add 1))) W := by kernel_rfl
theorem fo31_2 (a : Addr) (W : World) : (Instr.fieldAt 31 (.pointer (some a)) 2).run Try.prog W = .ok (.pointer (some (a.add 5))) W := by kernel_rfl
theorem fo31_3 (a : Addr) (W : World) : (Instr.fieldAt 31 (.pointer (some a)) 3).run Try.prog W = .ok (.pointer (some (a.add 9))) W := by kernel_rfl
theorem ag36 (W : World) : (isAgg 36).run Try.prog W = .ok true W := by kernel_rfl
theorem sz36 (W : World) : (Go.sizeOf 36).run Try.prog W = .ok 5 W := by kernel_rfl
theorem fo36_0 (a : Addr) (W : World) : (Instr.fieldAt 36 (.pointer (some a)) 0).run Try.prog W = .ok (.pointer (some (a.add 0))) W := by kernel_rfl
theorem fo36_1 (a : Addr) (W : World) : (Instr.fieldAt 36 (.pointer (some a)) 1).run Try.prog W = .ok (.pointer (some (a.add 1))) W := by kernel_rfl
theorem fo36_2 (a : Addr) (W : World) : (Instr.fieldAt 36 (.pointer (some a)) 2).run Try.prog W = .ok (.pointer (some (a.add 2))) W := by kernel_rfl
theorem fo36_3 (a : Addr) (W : World) : (Instr.fieldAt 36 (.pointer (some a)) 3).run Try.prog W = .ok (.pointer (some (a.add 3))) W := by kernel_rfl
theorem fo36_4 (a : Addr) (W : World) : (Instr.fieldAt 36 (.pointer (some a)) 4).run Try.prog W = .ok (.pointer (some (a.add 4))) W := by kernel_rfl
theorem ag74 (W : World) : (isAgg 74).run Try.prog W = .ok false W := by kernel_rfl
theorem fo76_0 (a : Addr) (W : World) : (Instr.fieldAt 76 (.pointer (some a)) 0).run Try.prog W = .ok (.pointer (some (a.add 0))) W := by kernel_rfl
theorem fo76_1 (a : Addr) (W : World) : (Instr.fieldAt 76 (.pointer (some a)) 1).run Try.prog W = .ok (.pointer (some (a.add 1))) W := by kernel_rfl
theorem fo76_2 (a : Addr) (W : World) : (Instr.fieldAt 76 (.pointer (some a)) 2).run Try.prog W = .ok (.pointer (some (a.add 5))) W := by kernel_rfl
theorem fo76_3 (a : Addr) (W : World) : (Instr.fieldAt 76 (.pointer (some a)) 3).run Try.prog W = .ok (.pointer (some (a.add 9))) W := by kernel_rfl
theorem fo76_4 (a : Addr) (W : World) : (Instr.fieldAt 76 (.pointer (some a)) 4).run Try.prog W = .ok (.pointer (some (a.add 13))) W := by kernel_rfl
theorem ag86 (W : World) : (isAgg 86).run Try.prog W = .ok true W := by kernel_rfl
theorem sz86 (W : World) : (Go.sizeOf 86).run Try.prog W = .ok 2 W := by kernel_rfl
theorem fo86_0 (a : Addr) (W : World) : (Instr.fieldAt 86 (.pointer (some a)) 0).run Try.prog W = .ok (.pointer (some (a.add 0))) W := by kernel_rfl
theorem fo86_1 (a : Addr) (W : World) : (Instr.fieldAt 86 (.pointer (some a)) 1).run Try.prog W = .ok (.pointer (some (a.add 1))) W := by kernel_rfl
theorem ag100 (W : World) : (isAgg 100).run Try.prog W = .ok true W := by kernel_rfl
theorem sz100 (W : World) : (Go.sizeOf 100).run Try.prog W = .ok 3 W := by kernel_rfl
theorem fo100_0 (a : Addr) (W : World) : (Instr.fieldAt 100 (.pointer (some a)) 0).run Try.prog W = .ok (.pointer (some (a.add 0))) W := by kernel_rfl
theorem fo100_1 (a : Addr) (W : World) : (Instr.fieldAt 100 (.pointer (some a)) 1).run Try.prog W = .ok (.pointer (some (a.add 1))) W := by kernel_rfl
theorem fo100_2 (a : Addr) (W : World) : (Instr.fieldAt 100 (.pointer (some a)) 2).run Try.prog W = .ok (.pointer (some (a.add 2))) W := by kernel_rfl
theorem inf3 : Inf Try.prog 3 (.int .i64 0) 1 8 := inf_of (by kernel_rfl)
theorem inf4 : Inf Try.prog 4 (.bool false) 1 1 := inf_of (by kernel_rfl)
theorem inf31 : Inf Try.prog 31 (.agg [.slice none 0 0, .int .i64 0, .int .i64 0, .int .i64 0, .int .i64 0, .int .i64 0, .int .i64 0, .int .i64 0, .int .i64 0, .int .i64 0, .int .i64 0, .int .i64 0, .int .i64 0].toArray) 13 120 := inf_of (by kernel_rfl)
theorem inf86 : Inf Try.prog 86 (.agg [.int .i64 0, .int .i64 0].toArray) 2 16 := inf_of (by kernel_rfl)
theorem inf100 : Inf Try.prog 100 (.agg [.int .i64 0, .int .i64 0, .int .i64 0].toArray) 3 24 := inf_of (by kernel_rfl)
theorem bd76_0 (z0 : Option Nat) (W : World) : (Instr.build 76 ([(0, .map z0)] : List (Nat × Value)).toArray).run Try.prog W = .ok (.agg ([(.map z0), (.int .i64 0), (.int .i64 0), (.int .i64 0), (.int .i64 0), (.int .i64 0), (.int .i64 0), (.int .i64 0), (.int .i64 0), (.int .i64 0), (.int .i64 0), (.int .i64 0), (.int .i64 0), (.int .i64 0), (.int .i64 0), (.int .i64 0), (.int .i64 0)] : List Value).toArray) W := by kernel_rfl
theorem bd86_0_1 (z0 : Int) (z1 : Int) (W : World) : (Instr.build 86 ([(0, .int .i64 z0), (1, .int .i64 z1)] : List (Nat × Value)).toArray).run Try.prog W = .ok (.agg ([(.int .i64 z0), (.int .i64 z1)] : List Value).toArray) W := by kernel_rfl
theorem bd100_0_1_2 (z0 : Int) (z1 : Int) (z2 : Int) (W : World) : (Instr.build 100 ([(0, .int .i64 z0), (1, .int .i64 z1), (2, .int .i64 z2)] : List (Nat × Value)).toArray).run Try.prog W = .ok (.agg ([(.int .i64 z0), (.int .i64 z1), (.int .i64 z2)] : List Value).toArray) W := by kernel_rfl
theorem mixed : Try.prog.follows .mixedOrders = true := by kernel_rfl
variable {n : Nat} {f : Nat → Value} {ty : TypeId} {pos : String} {af : Array Edge} {g : Option (Nat × Bool)} {xs : Array Operand} {tys : Array TypeId} {dst : Option Tmp} {vs : List Value}
theorem ca8 {n : Sz} {f : Nat → Value} {ty : TypeId} {pos : String} {af : Array Edge} {g : Option (Nat × Bool)} {xs : Array Operand} {tys : Array TypeId} {dst : Option Tmp} {vs : List Value} (hv : xs.toList.map (ev n f) = vs) (W : World) : (execOp (ev n f) ⟨dst, .call ⟨.value (.func 8), xs, tys⟩, ty, pos, af, g⟩).run Try.prog W = .ok (.enter 8 vs.toArray) W := r_call Try.func8 (by kernel_rfl) (by kernel_rfl) hv W
theorem ca9 {n : Sz} {f : Nat → Value} {ty : TypeId} {pos : String} {af : Array Edge} {g : Option (Nat × Bool)} {xs : Array Operand} {tys : Array TypeId} {dst : Option Tmp} {vs : List Value} (hv : xs.toList.map (ev n f) = vs) (W : World) : (execOp (ev n f) ⟨dst, .call ⟨.value (.func 9), xs, tys⟩, ty, pos, af, g⟩).run Try.prog W = .ok (.enter 9 vs.toArray) W := r_call Try.func9 (by kernel_rfl) (by kernel_rfl) hv W
theorem ca10 {n : Sz} {f : Nat → Value} {ty : TypeId} {pos : String} {af : Array Edge} {g : Option (Nat × Bool)} {xs : Array Operand} {tys : Array TypeId} {dst : Option Tmp} {vs : List Value} (hv : xs.toList.map (ev n f) = vs) (W : World) : (execOp (ev n f) ⟨dst, .call ⟨.value (.func 10), xs, tys⟩, ty, pos, af, g⟩).run Try.prog W = .ok (.enter 10 vs.toArray) W := r_call Try.func10 (by kernel_rfl) (by kernel_rfl) hv W
theorem ca11 {n : Sz} {f : Nat → Value} {ty : TypeId} {pos : String} {af : Array Edge} {g : Option (Nat × Bool)} {xs : Array Operand} {tys : Array TypeId} {dst : Option Tmp} {vs : List Value} (hv : xs.toList.map (ev n f) = vs) (W : World) : (execOp (ev n f) ⟨dst, .call ⟨.value (.func 11), xs, tys⟩, ty, pos, af, g⟩).run Try.prog W = .ok (.enter 11 vs.toArray) W := r_call Try.func11 (by kernel_rfl) (by kernel_rfl) hv W
theorem ca12 {n : Sz} {f : Nat → Value} {ty : TypeId} {pos : String} {af : Array Edge} {g : Option (Nat × Bool)} {xs : Array Operand} {tys : Array TypeId} {dst : Option Tmp} {vs : List Value} (hv : xs.toList.map (ev n f) = vs) (W : World) : (execOp (ev n f) ⟨dst, .call ⟨.value (.func 12), xs, tys⟩, ty, pos, af, g⟩).run Try.prog W = .ok (.enter 12 vs.toArray) W := r_call Try.func12 (by kernel_rfl) (by kernel_rfl) hv W
theorem ca13 {n : Sz} {f : Nat → Value} {ty : TypeId} {pos : String} {af : Array Edge} {g : Option (Nat × Bool)} {xs : Array Operand} {tys : Array TypeId} {dst : Option Tmp} {vs : List Value} (hv : xs.toList.map (ev n f) = vs) (W : World) : (execOp (ev n f) ⟨dst, .call ⟨.value (.func 13), xs, tys⟩, ty, pos, af, g⟩).run Try.prog W = .ok (.enter 13 vs.toArray) W := r_call Try.func13 (by kernel_rfl) (by kernel_rfl) hv W
theorem ca14 {n : Sz} {f : Nat → Value} {ty : TypeId} {pos : String} {af : Array Edge} {g : Option (Nat × Bool)} {xs : Array Operand} {tys : Array TypeId} {dst : Option Tmp} {vs : List Value} (hv : xs.toList.map (ev n f) = vs) (W : World) : (execOp (ev n f) ⟨dst, .call ⟨.value (.func 14), xs, tys⟩, ty, pos, af, g⟩).run Try.prog W = .ok (.enter 14 vs.toArray) W := r_call Try.func14 (by kernel_rfl) (by kernel_rfl) hv W
theorem ca15 {n : Sz} {f : Nat → Value} {ty : TypeId} {pos : String} {af : Array Edge} {g : Option (Nat × Bool)} {xs : Array Operand} {tys : Array TypeId} {dst : Option Tmp} {vs : List Value} (hv : xs.toList.map (ev n f) = vs) (W : World) : (execOp (ev n f) ⟨dst, .call ⟨.value (.func 15), xs, tys⟩, ty, pos, af, g⟩).run Try.prog W = .ok (.enter 15 vs.toArray) W := r_call Try.func15 (by kernel_rfl) (by kernel_rfl) hv W
theorem ca16 {n : Sz} {f : Nat → Value} {ty : TypeId} {pos : String} {af : Array Edge} {g : Option (Nat × Bool)} {xs : Array Operand} {tys : Array TypeId} {dst : Option Tmp} {vs : List Value} (hv : xs.toList.map (ev n f) = vs) (W : World) : (execOp (ev n f) ⟨dst, .call ⟨.value (.func 16), xs, tys⟩, ty, pos, af, g⟩).run Try.prog W = .ok (.enter 16 vs.toArray) W := r_call Try.func16 (by kernel_rfl) (by kernel_rfl) hv W
theorem ca20 {n : Sz} {f : Nat → Value} {ty : TypeId} {pos : String} {af : Array Edge} {g : Option (Nat × Bool)} {xs : Array Operand} {tys : Array TypeId} {dst : Option Tmp} {vs : List Value} (hv : xs.toList.map (ev n f) = vs) (W : World) : (execOp (ev n f) ⟨dst, .call ⟨.value (.func 20), xs, tys⟩, ty, pos, af, g⟩).run Try.prog W = .ok (.enter 20 vs.toArray) W := r_call Try.func20 (by kernel_rfl) (by kernel_rfl) hv W
theorem ca31 {n : Sz} {f : Nat → Value} {ty : TypeId} {pos : String} {af : Array Edge} {g : Option (Nat × Bool)} {xs : Array Operand} {tys : Array TypeId} {dst : Option Tmp} {vs : List Value} (hv : xs.toList.map (ev n f) = vs) (W : World) : (execOp (ev n f) ⟨dst, .call ⟨.value (.func 31), xs, tys⟩, ty, pos, af, g⟩).run Try.prog W = .ok (.enter 31 vs.toArray) W := r_call Try.func31 (by kernel_rfl) (by kernel_rfl) hv W
theorem ca32 {n : Sz} {f : Nat → Value} {ty : TypeId} {pos : String} {af : Array Edge} {g : Option (Nat × Bool)} {xs : Array Operand} {tys : Array TypeId} {dst : Option Tmp} {vs : List Value} (hv : xs.toList.map (ev n f) = vs) (W : World) : (execOp (ev n f) ⟨dst, .call ⟨.value (.func 32), xs, tys⟩, ty, pos, af, g⟩).run Try.prog W = .ok (.enter 32 vs.toArray) W := r_call Try.func32 (by kernel_rfl) (by kernel_rfl) hv W
theorem ca33 {n : Sz} {f : Nat → Value} {ty : TypeId} {pos : String} {af : Array Edge} {g : Option (Nat × Bool)} {xs : Array Operand} {tys : Array TypeId} {dst : Option Tmp} {vs : List Value} (hv : xs.toList.map (ev n f) = vs) (W : World) : (execOp (ev n f) ⟨dst, .call ⟨.value (.func 33), xs, tys⟩, ty, pos, af, g⟩).run Try.prog W = .ok (.enter 33 vs.toArray) W := r_call Try.func33 (by kernel_rfl) (by kernel_rfl) hv W
theorem ca34 {n : Sz} {f : Nat → Value} {ty : TypeId} {pos : String} {af : Array Edge} {g : Option (Nat × Bool)} {xs : Array Operand} {tys : Array TypeId} {dst : Option Tmp} {vs : List Value} (hv : xs.toList.map (ev n f) = vs) (W : World) : (execOp (ev n f) ⟨dst, .call ⟨.value (.func 34), xs, tys⟩, ty, pos, af, g⟩).run Try.prog W = .ok (.enter 34 vs.toArray) W := r_call Try.func34 (by kernel_rfl) (by kernel_rfl) hv W
theorem ca35 {n : Sz} {f : Nat → Value} {ty : TypeId} {pos : String} {af : Array Edge} {g : Option (Nat × Bool)} {xs : Array Operand} {tys : Array TypeId} {dst : Option Tmp} {vs : List Value} (hv : xs.toList.map (ev n f) = vs) (W : World) : (execOp (ev n f) ⟨dst, .call ⟨.value (.func 35), xs, tys⟩, ty, pos, af, g⟩).run Try.prog W = .ok (.enter 35 vs.toArray) W := r_call Try.func35 (by kernel_rfl) (by kernel_rfl) hv W
theorem ca36 {n : Sz} {f : Nat → Value} {ty : TypeId} {pos : String} {af : Array Edge} {g : Option (Nat × Bool)} {xs : Array Operand} {tys : Array TypeId} {dst : Option Tmp} {vs : List Value} (hv : xs.toList.map (ev n f) = vs) (W : World) : (execOp (ev n f) ⟨dst, .call ⟨.value (.func 36), xs, tys⟩, ty, pos, af, g⟩).run Try.prog W = .ok (.enter 36 vs.toArray) W := r_call Try.func36 (by kernel_rfl) (by kernel_rfl) hv W
theorem ca37 {n : Sz} {f : Nat → Value} {ty : TypeId} {pos : String} {af : Array Edge} {g : Option (Nat × Bool)} {xs : Array Operand} {tys : Array TypeId} {dst : Option Tmp} {vs : List Value} (hv : xs.toList.map (ev n f) = vs) (W : World) : (execOp (ev n f) ⟨dst, .call ⟨.value (.func 37), xs, tys⟩, ty, pos, af, g⟩).run Try.prog W = .ok (.enter 37 vs.toArray) W := r_call Try.func37 (by kernel_rfl) (by kernel_rfl) hv W
theorem ca38 {n : Sz} {f : Nat → Value} {ty : TypeId} {pos : String} {af : Array Edge} {g : Option (Nat × Bool)} {xs : Array Operand} {tys : Array TypeId} {dst : Option Tmp} {vs : List Value} (hv : xs.toList.map (ev n f) = vs) (W : World) : (execOp (ev n f) ⟨dst, .call ⟨.value (.func 38), xs, tys⟩, ty, pos, af, g⟩).run Try.prog W = .ok (.enter 38 vs.toArray) W := r_call Try.func38 (by kernel_rfl) (by kernel_rfl) hv W
theorem ca39 {n : Sz} {f : Nat → Value} {ty : TypeId} {pos : String} {af : Array Edge} {g : Option (Nat × Bool)} {xs : Array Operand} {tys : Array TypeId} {dst : Option Tmp} {vs : List Value} (hv : xs.toList.map (ev n f) = vs) (W : World) : (execOp (ev n f) ⟨dst, .call ⟨.value (.func 39), xs, tys⟩, ty, pos, af, g⟩).run Try.prog W = .ok (.enter 39 vs.toArray) W := r_call Try.func39 (by kernel_rfl) (by kernel_rfl) hv W
theorem ca43 {n : Sz} {f : Nat → Value} {ty : TypeId} {pos : String} {af : Array Edge} {g : Option (Nat × Bool)} {xs : Array Operand} {tys : Array TypeId} {dst : Option Tmp} {vs : List Value} (hv : xs.toList.map (ev n f) = vs) (W : World) : (execOp (ev n f) ⟨dst, .call ⟨.value (.func 43), xs, tys⟩, ty, pos, af, g⟩).run Try.prog W = .ok (.enter 43 vs.toArray) W := r_call Try.func43 (by kernel_rfl) (by kernel_rfl) hv W
theorem ca49 {n : Sz} {f : Nat → Value} {ty : TypeId} {pos : String} {af : Array Edge} {g : Option (Nat × Bool)} {xs : Array Operand} {tys : Array TypeId} {dst : Option Tmp} {vs : List Value} (hv : xs.toList.map (ev n f) = vs) (W : World) : (execOp (ev n f) ⟨dst, .call ⟨.value (.func 49), xs, tys⟩, ty, pos, af, g⟩).run Try.prog W = .ok (.enter 49 vs.toArray) W := r_call Try.func49 (by kernel_rfl) (by kernel_rfl) hv W
theorem ca50 {n : Sz} {f : Nat → Value} {ty : TypeId} {pos : String} {af : Array Edge} {g : Option (Nat × Bool)} {xs : Array Operand} {tys : Array TypeId} {dst : Option Tmp} {vs : List Value} (hv : xs.toList.map (ev n f) = vs) (W : World) : (execOp (ev n f) ⟨dst, .call ⟨.value (.func 50), xs, tys⟩, ty, pos, af, g⟩).run Try.prog W = .ok (.enter 50 vs.toArray) W := r_call Try.func50 (by kernel_rfl) (by kernel_rfl) hv W
theorem ca51 {n : Sz} {f : Nat → Value} {ty : TypeId} {pos : String} {af : Array Edge} {g : Option (Nat × Bool)} {xs : Array Operand} {tys : Array TypeId} {dst : Option Tmp} {vs : List Value} (hv : xs.toList.map (ev n f) = vs) (W : World) : (execOp (ev n f) ⟨dst, .call ⟨.value (.func 51), xs, tys⟩, ty, pos, af, g⟩).run Try.prog W = .ok (.enter 51 vs.toArray) W := r_call Try.func51 (by kernel_rfl) (by kernel_rfl) hv W
theorem ca52 {n : Sz} {f : Nat → Value} {ty : TypeId} {pos : String} {af : Array Edge} {g : Option (Nat × Bool)} {xs : Array Operand} {tys : Array TypeId} {dst : Option Tmp} {vs : List Value} (hv : xs.toList.map (ev n f) = vs) (W : World) : (execOp (ev n f) ⟨dst, .call ⟨.value (.func 52), xs, tys⟩, ty, pos, af, g⟩).run Try.prog W = .ok (.enter 52 vs.toArray) W := r_call Try.func52 (by kernel_rfl) (by kernel_rfl) hv W
theorem ca53 {n : Sz} {f : Nat → Value} {ty : TypeId} {pos : String} {af : Array Edge} {g : Option (Nat × Bool)} {xs : Array Operand} {tys : Array TypeId} {dst : Option Tmp} {vs : List Value} (hv : xs.toList.map (ev n f) = vs) (W : World) : (execOp (ev n f) ⟨dst, .call ⟨.value (.func 53), xs, tys⟩, ty, pos, af, g⟩).run Try.prog W = .ok (.enter 53 vs.toArray) W := r_call Try.func53 (by kernel_rfl) (by kernel_rfl) hv W
theorem ca54 {n : Sz} {f : Nat → Value} {ty : TypeId} {pos : String} {af : Array Edge} {g : Option (Nat × Bool)} {xs : Array Operand} {tys : Array TypeId} {dst : Option Tmp} {vs : List Value} (hv : xs.toList.map (ev n f) = vs) (W : World) : (execOp (ev n f) ⟨dst, .call ⟨.value (.func 54), xs, tys⟩, ty, pos, af, g⟩).run Try.prog W = .ok (.enter 54 vs.toArray) W := r_call Try.func54 (by kernel_rfl) (by kernel_rfl) hv W
end Go.Proofs.Ytpbimgopiammaaa
end

section
namespace Go.Proofs.Ytpbimgopiammaaa
open Go.RowKit

end Go.Proofs.Ytpbimgopiammaaa
end

section
namespace Go.Proofs.Ytpbimgopiammaaa
open Go.Sort Go.RowKit
set_option maxRecDepth 100000
def lays189_ren : Go.Shelf.Ren := ⟨fun | 189 => 43 | 125 => 56 | 257 => 55 | 128 => 66 | 129 => 67 | 294 => 57 | 295 => 58 | 296 => 59 | 297 => 60 | 298 => 61 | 299 => 62 | 216 => 63 | 300 => 64 | 301 => 65 | 328 => 68 | 329 => 69 | 330 => 70 | 331 => 71 | 332 => 72 | 215 => 73 | 343 => 74 | n => n, fun | 28 => 22 | 3 => 3 | 46 => 104 | 0 => 0 | 51 => 114 | 53 => 116 | 4 => 4 | 183 => 107 | 182 => 106 | 131 => 84 | 5 => 5 | 9 => 9 | 218 => 117 | 222 => 121 | 228 => 123 | 229 => 124 | n => n, fun | n => n⟩
theorem lays189 : Go.Proofs.Lays.n189 Try.prog lays189_ren := {
  mixed := by kernel_rfl
  f125 := Try.func56.trans (congrArg some (by kernel_rfl))
  f128 := Try.func66.trans (congrArg some (by kernel_rfl))
  f129 := Try.func67.trans (congrArg some (by kernel_rfl))
  f189 := Try.func43.trans (congrArg some (by kernel_rfl))
  f215 := Try.func73.trans (congrArg some (by kernel_rfl))
  f216 := Try.func63.trans (congrArg some (by kernel_rfl))
  f257 := Try.func55.trans (congrArg some (by kernel_rfl))
  f294 := Try.func57.trans (congrArg some (by kernel_rfl))
  f295 := Try.func58.trans (congrArg some (by kernel_rfl))
  f296 := Try.func59.trans (congrArg some (by kernel_rfl))
  f297 := Try.func60.trans (congrArg some (by kernel_rfl))
  f298 := Try.func61.trans (congrArg some (by kernel_rfl))
  f299 := Try.func62.trans (congrArg some (by kernel_rfl))
  f300 := Try.func64.trans (congrArg some (by kernel_rfl))
  f301 := Try.func65.trans (congrArg some (by kernel_rfl))
  f328 := Try.func68.trans (congrArg some (by kernel_rfl))
  f329 := Try.func69.trans (congrArg some (by kernel_rfl))
  f330 := Try.func70.trans (congrArg some (by kernel_rfl))
  f331 := Try.func71.trans (congrArg some (by kernel_rfl))
  f332 := Try.func72.trans (congrArg some (by kernel_rfl))
  f343 := Try.func74.trans (congrArg some (by kernel_rfl))
  t0 := Try.underlying0
  a0 := Try.isAgg0
  z0 := Try.sizeOf0
  v0 := Try.zeroValue0
  t3 := Try.underlying3
  a3 := Try.isAgg3
  z3 := Try.sizeOf3
  v3 := Try.zeroValue3
  t4 := Try.underlying4
  a4 := Try.isAgg4
  z4 := Try.sizeOf4
  v4 := Try.zeroValue4
  t5 := Try.underlying5
  a5 := Try.isAgg5
  z5 := Try.sizeOf5
  v5 := Try.zeroValue5
  t9 := Try.underlying9
  a9 := Try.isAgg9
  z9 := Try.sizeOf9
  v9 := Try.zeroValue9
  t28 := Try.underlying22
  a28 := Try.isAgg22
  z28 := Try.sizeOf22
  v28 := Try.zeroValue22
  t46 := Try.underlying104
  a46 := Try.isAgg104
  z46 := Try.sizeOf104
  v46 := Try.zeroValue104
  t51 := Try.underlying114
  a51 := Try.isAgg114
  z51 := Try.sizeOf114
  v51 := Try.zeroValue114
  t53 := Try.underlying116
  a53 := Try.isAgg116
  z53 := Try.sizeOf116
  v53 := Try.zeroValue116
  t131 := Try.underlying84
  a131 := Try.isAgg84
  z131 := Try.sizeOf84
  v131 := Try.zeroValue84
  t182 := Try.underlying106
  a182 := Try.isAgg106
  z182 := Try.sizeOf106
  v182 := Try.zeroValue106
  t183 := Try.underlying107
  a183 := Try.isAgg107
  z183 := Try.sizeOf107
  v183 := Try.zeroValue107
  t218 := Try.underlying117
  a218 := Try.isAgg117
  z218 := Try.sizeOf117
  v218 := Try.zeroValue117
  t222 := Try.underlying121
  a222 := Try.isAgg121
  z222 := Try.sizeOf121
  v222 := Try.zeroValue121
  t228 := Try.underlying123
  a228 := Try.isAgg123
  z228 := Try.sizeOf123
  v228 := Try.zeroValue123
  t229 := Try.underlying124
  a229 := Try.isAgg124
  z229 := Try.sizeOf124
  v229 := Try.zeroValue124 }
theorem gSort0 (blk off cap : Nat) (zs : List Int) (w : World) (hH : Holds (Value.int .i64) w blk off zs.toArray) (hblk : blk < w.heap.size) (hsz : zs.length < 4611686018427387904) :
  Calls Try.prog 43 #[.slice (some ⟨blk, off, none⟩) zs.length cap] w fun e w' =>
   e = .returned (.tuple #[]) ∧ ∃ n os, w' = grow (putRow (Value.int .i64) (Sort.ahead w n) blk off (zs.mergeSort fun x y => decide (x ≤ y)).toArray) os := Any.slices_Sort_int lays189 blk off cap zs w hH hblk hsz
def srt (l : List Int) : List Int := l.mergeSort fun x y => decide (x ≤ y)
theorem srt_perm (l : List Int) : (srt l).Perm l := List.mergeSort_perm _ _
theorem srt_len (l : List Int) : (srt l).length = l.length := (srt_perm l).length_eq
/-- a row of the call's own is sorted -/
theorem sorted_eq : ∀ {a b : List Int}, a.Perm b → a.Pairwise (· ≤ ·) → b.Pairwise (· ≤ ·) → a = b
 | [], b, h, _, _ => (List.nil_perm.1 h).symm
 | x :: a, [], h, _, _ => by have := h.length_eq; simp at this
 | x :: a, y :: b, h, ha, hb => by
  obtain ⟨a1, a2⟩ := List.pairwise_cons.1 ha
  obtain ⟨b1, b2⟩ := List.pairwise_cons.1 hb
  have e : x = y := by
   have h1 : x ∈ y :: b := h.mem_iff.1 (by simp)
   have h2 : y ∈ x :: a := h.mem_iff.2 (by simp)
   rcases List.mem_cons.1 h1 with h1 | h1
   ·exact h1
   ·rcases List.mem_cons.1 h2 with h2 | h2
    ·exact h2.symm
    ·have := a1 y h2; have := b1 x h1; omega
  subst e
  rw [sorted_eq (List.Perm.cons_inv h) a2 b2]
theorem srt_sorted (l : List Int) : (srt l).Pairwise (· ≤ ·) := by
 have h := List.pairwise_mergeSort (le := fun x y : Int => decide (x ≤ y)) (fun a b c h1 h2 => by simp at *; omega) (fun a b => by simp; omega) l
 exact h.imp fun h => by simpa using h
theorem srt_eq {a b : List Int} (h : a.Perm b) : srt a = srt b := sorted_eq ((srt_perm a).trans (h.trans (srt_perm b).symm)) (srt_sorted a) (srt_sorted b)
theorem gSort (A : Option Addr) (n c : Nat) (zs : List Int) (T : TypeId) (w : World) (hE : Ents [ownN 1 (.slice A n c) n (zs.map (Value.int .i64)) T] w) (hn : n ≤ 1000000) :
  Calls Try.prog 43 [.slice A n c].toArray w fun e w' => e = .returned (.tuple #[]) ∧ Heap w (ids [ownN 1 (.slice A n c) n (zs.map (Value.int .i64)) T]) [ownN 1 (.slice A n c) n ((srt zs).map (Value.int .i64)) T] w' := by
 have H := Heap.start hE
 have ho := H.own_get 0 rfl
 have hl : zs.length = n := by have := ho.1; simpa using this
 rcases ho.2 with ⟨hv, h0⟩ | ⟨g, cap, cur, hv, _, hg, hnc, hcm, hcs, htk⟩
 ·injection hv with h1 h2 h3
  subst h1; subst h2; subst h3
  have hz : zs = [] := List.eq_nil_of_length_eq_zero hl
  subst hz
  refine (Any.slices_Sort_int_none lays189 none 0 w).mono ?_
  rintro e w' ⟨rfl, rfl⟩
  have e0 : srt [] = [] := by simp [srt]
  rw [e0]
  exact ⟨rfl, H⟩
 ·injection hv with h1 h2 h3
  subst h1; subst h3
  subst hl
  have htk' : cur.toList.take zs.length = zs.map (Value.int .i64) := by rw [Nat.mul_one] at htk; exact htk
  refine (gSort0 g 0 c zs w (holds_of_blockI hg htk') (arr_lt hg) (by omega)).mono ?_
  rintro e w' ⟨rfl, m, os, rfl⟩
  have hs := ownsRow_sortedI (w := w) (base := 0) (n := m) (e := T) (os := os) (ss := zs) (ts := srt zs) (srt_len zs) (Nat.zero_le _) hg hnc hcm hcs
  have hgr : w.grownBy (grow (putRow (Value.int .i64) (Sort.ahead w m) g 0 (srt zs).toArray) os) (some g) := grownBy_sortedI _
  refine ⟨rfl, H.at 0 rfl (F' := [g]) ⟨?_, by simp [ids, ownN, Value.ownBlock], by simp [ids, ownN, Value.ownBlock], ⟨hgr.os, hgr.tape, hgr.output, hgr.size, fun k hk hne => hgr.block k hk (fun e => hne (by injection e with e; rw [e]; simp))⟩⟩ (by simp [ownN, Value.ownBlock])⟩
  intro E hE
  rw [List.mem_singleton.1 hE]
  exact hs
end Go.Proofs.Ytpbimgopiammaaa
end

section
namespace Go.Proofs.Ytpbimgopiammaaa
open Go.RowKit
set_option maxRecDepth 100000
set_option maxHeartbeats 2000000
abbrev ptrL (p : Nat) : Value := .pointer (some ⟨p, 0, none⟩)
theorem laidL : laidOutB Try.prog = true := by kernel_rfl
theorem keyedE : Go.Maps.Keyed Try.prog 86 := Go.Maps.Keyed.of_law (deep_law_laid laidL (m := 2) (by omega) (of_decide_eq_true (by kernel_rfl)) (by kernel_rfl) (by rw [Try.underlying86]))
def wfI (a : Int) : Prop := -9223372036854775808 ≤ a ∧ a ≤ 9223372036854775807
def kE : KC Try.prog 86 (Int × Int) :=
 ⟨fun a => .agg [.int .i64 a.1, .int .i64 a.2].toArray, fun a => wfI a.1 ∧ wfI a.2, keyedE, fun a ha => keyOf_pairS (by kernel_rfl) (by kernel_rfl) Try.underlying3 Try.underlying3 (by kernel_rfl) (by kernel_rfl) (by kernel_rfl) (by kernel_rfl) ⟨Try.prog.types.size - 1, by kernel_rfl⟩ (wf_i64 ha.1) (wf_i64 ha.2), fun a b => agg2_inj⟩
def kI2 : KC Try.prog 3 Int := kI Try.prog 3 Try.underlying3
abbrev LdL := List ((Int × Int) × Int)
/-- what one has -/
def hld : LdL → Int → Int
 | [], _ => 0
 | x :: l, m => (if x.1.1 = m then x.2 else 0) + hld l m
def upI (f : Int → Int) (k v : Int) : Int → Int := fun i => if i = k then v else f i
structure LdS where
 L : LdL
 q : Int → Int
 h : Int → Int
 pk : Int → Int
 tk : Int → Int
def ldC (b : Nat) (q h pk tk : Int → Int) : List Value :=
 [.map (some b), .int .i64 (q 0), .int .i64 (q 1), .int .i64 (q 2), .int .i64 (q 3), .int .i64 (h 0), .int .i64 (h 1), .int .i64 (h 2), .int .i64 (h 3), .int .i64 (pk 0), .int .i64 (pk 1), .int .i64 (pk 2), .int .i64 (pk 3), .int .i64 (tk 0), .int .i64 (tk 1), .int .i64 (tk 2), .int .i64 (tk 3)]
def ldE (p b : Nat) (s : LdS) : List Ent := [blk p (ldC b s.q s.h s.pk s.tk) 76, mp kE (Value.int .i64) b s.L]
section
variable {b : Nat} {q h pk tk : Int → Int} {k : Nat} {v : Int}
theorem gq (hk : k < 4) : (ldC b q h pk tk)[1 + k]? = some (.int .i64 (q (k : Int))) := by
 rcases (by omega : k = 0 ∨ k = 1 ∨ k = 2 ∨ k = 3) with rfl | rfl | rfl | rfl <;> rfl
theorem gh (hk : k < 4) : (ldC b q h pk tk)[5 + k]? = some (.int .i64 (h (k : Int))) := by
 rcases (by omega : k = 0 ∨ k = 1 ∨ k = 2 ∨ k = 3) with rfl | rfl | rfl | rfl <;> rfl
theorem gp (hk : k < 4) : (ldC b q h pk tk)[9 + k]? = some (.int .i64 (pk (k : Int))) := by
 rcases (by omega : k = 0 ∨ k = 1 ∨ k = 2 ∨ k = 3) with rfl | rfl | rfl | rfl <;> rfl
theorem gt (hk : k < 4) : (ldC b q h pk tk)[13 + k]? = some (.int .i64 (tk (k : Int))) := by
 rcases (by omega : k = 0 ∨ k = 1 ∨ k = 2 ∨ k = 3) with rfl | rfl | rfl | rfl <;> rfl
theorem sq (hk : k < 4) : (ldC b q h pk tk).set (1 + k) (.int .i64 v) = ldC b (upI q k v) h pk tk := by
 rcases (by omega : k = 0 ∨ k = 1 ∨ k = 2 ∨ k = 3) with rfl | rfl | rfl | rfl <;> rfl
theorem sh (hk : k < 4) : (ldC b q h pk tk).set (5 + k) (.int .i64 v) = ldC b q (upI h k v) pk tk := by
 rcases (by omega : k = 0 ∨ k = 1 ∨ k = 2 ∨ k = 3) with rfl | rfl | rfl | rfl <;> rfl
theorem sp (hk : k < 4) : (ldC b q h pk tk).set (9 + k) (.int .i64 v) = ldC b q h (upI pk k v) tk := by
 rcases (by omega : k = 0 ∨ k = 1 ∨ k = 2 ∨ k = 3) with rfl | rfl | rfl | rfl <;> rfl
theorem st (hk : k < 4) : (ldC b q h pk tk).set (13 + k) (.int .i64 v) = ldC b q h pk (upI tk k v) := by
 rcases (by omega : k = 0 ∨ k = 1 ∨ k = 2 ∨ k = 3) with rfl | rfl | rfl | rfl <;> rfl
end
def inM (m : Int) : Bool := decide (0 ≤ m ∧ m < 4)
theorem oRight (m : Int) (w : World) : Calls Try.prog 39 [.int .i64 m].toArray w fun e w' => e = .returned (.bool (inM m)) ∧ Only [] w w' := by
 have H := Heap.nil w
 unfold inM
 by_cases h1 : 0 ≤ m
 ·by_cases h2 : m < 4
  ·rw [decide_eq_true ⟨h1, h2⟩]
   refine k_in (N := 9) Try.func39 rfl rfl rfl ?_
   refine k_sg ?_
   refine s_run rfl rfl (rab rfl) ?_
   refine k_nc ?_
   refine k_sg ?_
   refine s_run rfl rfl (rmi rfl) ?_
   refine s_run rfl rfl (r_geqT rfl rfl (by omega)) ?_
   refine s_run rfl rfl (rmb rfl) ?_
   refine s_run rfl (g_on 5 (by kernel_rfl) rfl) (rmi rfl) ?_
   refine s_run rfl (g_on 5 (by kernel_rfl) rfl) (r_lssT rfl rfl (by omega)) ?_
   refine s_run rfl rfl (r_pkT (v := .bool _) rfl rfl) ?_
   refine s_run rfl rfl (rab rfl) ?_
   refine k_nc ?_
   refine k_ret ?_
   refine fin1r (v := .bool _) rfl rfl ?_
   exact ⟨rfl, H.only⟩
  ·rw [decide_eq_false (fun h => h2 h.2)]
   refine k_in (N := 9) Try.func39 rfl rfl rfl ?_
   refine k_sg ?_
   refine s_run rfl rfl (rab rfl) ?_
   refine k_nc ?_
   refine k_sg ?_
   refine s_run rfl rfl (rmi rfl) ?_
   refine s_run rfl rfl (r_geqT rfl rfl (by omega)) ?_
   refine s_run rfl rfl (rmb rfl) ?_
   refine s_run rfl (g_on 5 (by kernel_rfl) rfl) (rmi rfl) ?_
   refine s_run rfl (g_on 5 (by kernel_rfl) rfl) (r_lssF rfl rfl (by omega)) ?_
   refine s_run rfl rfl (r_pkT (v := .bool _) rfl rfl) ?_
   refine s_run rfl rfl (rab rfl) ?_
   refine k_nc ?_
   refine k_ret ?_
   refine fin1r (v := .bool _) rfl rfl ?_
   exact ⟨rfl, H.only⟩
 ·rw [decide_eq_false (fun h => h1 h.1)]
  refine k_in (N := 9) Try.func39 rfl rfl rfl ?_
  refine k_sg ?_
  refine s_run rfl rfl (rab rfl) ?_
  refine k_nc ?_
  refine k_sg ?_
  refine s_run rfl rfl (rmi rfl) ?_
  refine s_run rfl rfl (r_geqF rfl rfl (by omega)) ?_
  refine s_run rfl rfl (rmb rfl) ?_
  refine s_off rfl (g_off 5 (by kernel_rfl) rfl rfl) ?_
  refine s_off rfl (g_off 5 (by kernel_rfl) rfl rfl) ?_
  refine s_run rfl rfl (r_pkF (v := .bool _) rfl rfl) ?_
  refine s_run rfl rfl (rab rfl) ?_
  refine k_nc ?_
  refine k_ret ?_
  refine fin1r (v := .bool _) rfl rfl ?_
  exact ⟨rfl, H.only⟩
end Go.Proofs.Ytpbimgopiammaaa
end

section
namespace Go.Proofs.Ytpbimgopiammaaa
def LdS.take (s : LdS) (m at_ w : Int) : LdS × Int :=
 if m < 0 ∨ 4 ≤ m ∨ w < 1 ∨ 1048576 < w then (s, 1)
 else if (mget s.L (m, at_)).isSome = true then (s, 41)
 else if s.q m ≥ 0 ∧ w > s.q m - s.h m then (s, 4)
 else (⟨s.L ++ [((m, at_), w)], s.q, upI s.h m (s.h m + w), upI s.pk m (max (s.pk m) (s.h m + w)), upI s.tk m (s.tk m + w)⟩, 0)
def LdS.give (s : LdS) (m at_ : Int) : LdS × Int × Int :=
 if m < 0 ∨ 4 ≤ m then (s, 0, 1)
 else match mget s.L (m, at_) with
  | none => (s, 0, 42)
  | some n => (⟨mdel s.L (m, at_), s.q, upI s.h m (s.h m - n), s.pk, s.tk⟩, n, 0)
def LdS.pass (s : LdS) (f t at_ : Int) : LdS × Int :=
 if f < 0 ∨ 4 ≤ f ∨ t < 0 ∨ 4 ≤ t then (s, 1)
 else match mget s.L (f, at_) with
  | none => (s, 42)
  | some n => if f = t then (s, 0) else if (s.take t at_ n).2 ≠ 0 then (s, (s.take t at_ n).2) else (((s.take t at_ n).1.give f at_).1, ((s.take t at_ n).1.give f at_).2.2)
def sum2 : LdL → Int
 | [] => 0
 | x :: l => x.2 + sum2 l
def LdS.sweep (s : LdS) (live : List Int) : LdS × Int :=
 (⟨s.L.filter (fun x => decide (x.1.2 ∈ live)), s.q, hld (s.L.filter (fun x => decide (x.1.2 ∈ live))), s.pk, s.tk⟩, sum2 (s.L.filter (fun x => decide (x.1.2 ∉ live))))
structure LdOk (N : Nat) (s : LdS) : Prop where
 key : ∀ x ∈ s.L, 0 ≤ x.1.1 ∧ x.1.1 < 4 ∧ 1 ≤ x.2 ∧ x.2 ≤ 1048576 ∧ wfI x.1.2
 nd : (s.L.map Prod.fst).Nodup
 len : s.L.length ≤ N
 h : ∀ m, 0 ≤ m → m < 4 → s.h m = hld s.L m
 q : ∀ m, 0 ≤ m → m < 4 → -1 ≤ s.q m ∧ s.q m ≤ 9223372036854775807 ∧ (0 ≤ s.q m → s.h m ≤ s.q m ∧ s.pk m ≤ s.q m)
 pk : ∀ m, 0 ≤ m → m < 4 → 0 ≤ s.pk m ∧ s.pk m ≤ N * 1048576
 tk : ∀ m, 0 ≤ m → m < 4 → 0 ≤ s.tk m ∧ s.tk m ≤ N * 1048576
theorem hld_app : ∀ (a b : LdL) (m : Int), hld (a ++ b) m = hld a m + hld b m
 | [], b, m => by simp [hld]
 | x :: a, b, m => by rw [List.cons_append, hld, hld, hld_app a b m]; omega
theorem hld_bd : ∀ (L : LdL) (m : Int), (∀ x ∈ L, 1 ≤ x.2 ∧ x.2 ≤ 1048576) → 0 ≤ hld L m ∧ hld L m ≤ L.length * 1048576
 | [], m, _ => by simp [hld]
 | x :: l, m, h => by
  have h1 := hld_bd l m (fun y hy => h y (by simp [hy]))
  have h2 := h x (by simp)
  rw [hld, List.length_cons]
  split <;> omega
theorem hld_erase : ∀ (L : LdL) (j : Nat) (p : (Int × Int) × Int), L[j]? = some p → ∀ m, hld (L.eraseIdx j) m = hld L m - if p.1.1 = m then p.2 else 0
 | [], j, p, h, m => by simp at h
 | x :: l, 0, p, h, m => by simp at h; subst h; rw [List.eraseIdx_cons_zero, hld]; omega
 | x :: l, j + 1, p, h, m => by
  have := hld_erase l j p (by simpa using h) m
  rw [List.eraseIdx_cons_succ, hld, hld, this]; omega
section
variable {N : Nat} {s : LdS}
theorem LdOk.mono (h : LdOk N s) {M : Nat} (hM : N ≤ M) : LdOk M s :=
 ⟨h.key, h.nd, Nat.le_trans h.len hM, h.h, h.q, fun m a b => by have := h.pk m a b; omega, fun m a b => by have := h.tk m a b; omega⟩
theorem LdOk.bd (h : LdOk N s) (m : Int) (h0 : 0 ≤ m) (h4 : m < 4) : 0 ≤ s.h m ∧ s.h m ≤ N * 1048576 := by
 have h1 := hld_bd s.L m (fun x hx => ⟨(h.key x hx).2.2.1, (h.key x hx).2.2.2.1⟩)
 have h2 := h.len
 rw [h.h m h0 h4]
 omega
theorem upI_at (f : Int → Int) (k v : Int) : upI f k v k = v := by unfold upI; rw [if_pos rfl]
theorem upI_off (f : Int → Int) {k i : Int} (v : Int) (h : i ≠ k) : upI f k v i = f i := by unfold upI; rw [if_neg h]
theorem mget_none_mem {L : LdL} {a : Int × Int} (h : mget L a = none) : a ∉ L.map Prod.fst := fun hm => by
 obtain ⟨p, hp, e⟩ := List.mem_map.1 hm
 exact (mget_iff _ _).1 h p hp e
theorem LdOk.take (h : LdOk N s) (m at_ w : Int) (ha : wfI at_) : LdOk (N + 1) (s.take m at_ w).1 := by
 unfold LdS.take
 split
 ·exact h.mono (by omega)
 split
 ·exact h.mono (by omega)
 split
 ·exact h.mono (by omega)
 ·rename_i hb hm hq
  have hn : mget s.L (m, at_) = none := by simpa using hm
  have hbm := h.bd m (by omega) (by omega)
  refine ⟨fun x hx => ?_, ?_, ?_, fun k k0 k4 => ?_, fun k k0 k4 => ?_, fun k k0 k4 => ?_, fun k k0 k4 => ?_⟩
  ·rcases List.mem_append.1 hx with hx | hx
   ·exact h.key x hx
   ·rw [List.mem_singleton.1 hx]; exact ⟨by show 0 ≤ m; omega, by show m < 4; omega, by show 1 ≤ w; omega, by show w ≤ _; omega, ha⟩
  ·simp only [List.map_append, List.map_cons, List.map_nil]
   exact List.nodup_append.2 ⟨h.nd, by simp, fun a ha b hb e => by
    rw [List.mem_singleton.1 hb] at e
    rw [e] at ha
    exact mget_none_mem hn ha⟩
  ·have := h.len; simp only [List.length_append, List.length_cons, List.length_nil]; omega
  ·show upI s.h m (s.h m + w) k = _
   rw [hld_app]
   by_cases e : k = m
   ·subst e
    rw [upI_at, h.h k k0 k4]; simp [hld]
   ·rw [upI_off _ _ e, h.h k k0 k4]
    have : ¬ m = k := fun e2 => e e2.symm
    simp [hld, this]
  ·obtain ⟨q1, q2, q3⟩ := h.q k k0 k4
   refine ⟨q1, q2, fun q0 => ?_⟩
   obtain ⟨q4, q5⟩ := q3 q0
   show upI s.h m (s.h m + w) k ≤ _ ∧ upI s.pk m _ k ≤ _
   by_cases e : k = m
   ·subst e
    rw [upI_at, upI_at]
    have hq' : ¬ (s.q k ≥ 0 ∧ w > s.q k - s.h k) := hq
    have q0' : s.q k ≥ 0 := q0
    refine ⟨by show _ ≤ s.q k; omega, ?_⟩
    show max (s.pk k) (s.h k + w) ≤ s.q k
    omega
   ·rw [upI_off _ _ e, upI_off _ _ e]; exact ⟨q4, q5⟩
  ·show 0 ≤ upI s.pk m _ k ∧ upI s.pk m _ k ≤ _
   have := h.pk k k0 k4
   by_cases e : k = m
   ·subst e; rw [upI_at]; omega
   ·rw [upI_off _ _ e]; omega
  ·show 0 ≤ upI s.tk m _ k ∧ upI s.tk m _ k ≤ _
   have := h.tk k k0 k4
   by_cases e : k = m
   ·subst e; rw [upI_at]; omega
   ·rw [upI_off _ _ e]; omega
theorem mget_at {L : LdL} {a : Int × Int} {n : Int} (hd : (L.map Prod.fst).Nodup) (h : mget L a = some n) : ∃ j, L[j]? = some (a, n) ∧ mdel L a = L.eraseIdx j := by
 by_cases hm : a ∈ L.map Prod.fst
 ·obtain ⟨p, hp, rfl⟩ := List.mem_map.1 hm
  obtain ⟨j, hj⟩ := List.mem_iff_getElem?.1 hp
  obtain ⟨h1, _, h3⟩ := m_some L j p hj hd
  rw [h1] at h
  injection h with h
  subst h
  exact ⟨j, hj, h3⟩
 ·have := (mget_iff L a).2 fun p hp e => hm (List.mem_map.2 ⟨p, hp, e⟩)
  rw [this] at h; cases h
theorem LdOk.give (h : LdOk N s) (m at_ : Int) : LdOk N (s.give m at_).1 := by
 unfold LdS.give
 split
 ·exact h
 ·rename_i hb
  split
  ·exact h
  ·rename_i n hg
   obtain ⟨j, hj, hd⟩ := mget_at h.nd hg
   have hk := h.key _ (List.mem_of_getElem? hj)
   refine ⟨fun x hx => ?_, ?_, ?_, fun k k0 k4 => ?_, fun k k0 k4 => ?_, h.pk, h.tk⟩
   ·rw [show ({ L := mdel s.L (m, at_), q := s.q, h := upI s.h m (s.h m - n), pk := s.pk, tk := s.tk } : LdS).L = mdel s.L (m, at_) from rfl, hd] at hx
    exact h.key x (List.mem_of_mem_eraseIdx hx)
   ·show ((mdel s.L (m, at_)).map Prod.fst).Nodup
    rw [hd]; exact ((List.eraseIdx_sublist _ _).map _).nodup h.nd
   ·show (mdel s.L (m, at_)).length ≤ N
    rw [hd]; have := (List.eraseIdx_sublist s.L j).length_le; have := h.len; omega
   ·show upI s.h m (s.h m - n) k = hld (mdel s.L (m, at_)) k
    rw [hd, hld_erase _ _ _ hj]
    by_cases e : k = m
    ·subst e; rw [upI_at, h.h k k0 k4, if_pos rfl]
    ·rw [upI_off _ _ e, h.h k k0 k4, if_neg (fun e2 => e e2.symm)]; omega
   ·obtain ⟨q1, q2, q3⟩ := h.q k k0 k4
    refine ⟨q1, q2, fun q0 => ?_⟩
    obtain ⟨q4, q5⟩ := q3 q0
    refine ⟨?_, q5⟩
    show upI s.h m (s.h m - n) k ≤ _
    by_cases e : k = m
    ·subst e; rw [upI_at]; show _ ≤ s.q k; omega
    ·rw [upI_off _ _ e]; exact q4
theorem LdOk.pass (h : LdOk N s) (f t at_ : Int) (ha : wfI at_) : LdOk (N + 1) (s.pass f t at_).1 := by
 unfold LdS.pass
 split
 ·exact h.mono (by omega)
 ·split
  ·exact h.mono (by omega)
  ·split
   ·exact h.mono (by omega)
   ·split
    ·exact h.mono (by omega)
    ·exact (h.take t at_ _ ha).give f at_
theorem hld_filter (p : (Int × Int) × Int → Bool) : ∀ (L : LdL) (m : Int), (∀ x ∈ L, 1 ≤ x.2) → hld (L.filter p) m ≤ hld L m
 | [], m, _ => by simp [hld]
 | x :: l, m, h => by
  have h1 := hld_filter p l m (fun y hy => h y (by simp [hy]))
  have h2 := h x (by simp)
  by_cases hp : p x = true
  ·rw [List.filter_cons_of_pos hp, hld, hld]; omega
  ·rw [List.filter_cons_of_neg hp, hld]; split <;> omega
theorem LdOk.sweep (h : LdOk N s) (live : List Int) : LdOk N (s.sweep live).1 := by
 unfold LdS.sweep
 refine ⟨fun x hx => h.key x (List.mem_filter.1 hx).1, (List.filter_sublist.map _).nodup h.nd, Nat.le_trans (List.length_filter_le _ _) h.len, fun k k0 k4 => rfl, fun k k0 k4 => ?_, h.pk, h.tk⟩
 obtain ⟨q1, q2, q3⟩ := h.q k k0 k4
 refine ⟨q1, q2, fun q0 => ?_⟩
 obtain ⟨q4, q5⟩ := q3 q0
 refine ⟨?_, q5⟩
 have h1 := hld_filter (fun x => decide (x.1.2 ∈ live)) s.L k (fun x hx => (h.key x hx).2.2.1)
 rw [h.h k k0 k4] at q4
 exact Int.le_trans h1 q4
end
end Go.Proofs.Ytpbimgopiammaaa
end

section
namespace Go.Proofs.Ytpbimgopiammaaa
open Go.RowKit
set_option maxRecDepth 100000
set_option maxHeartbeats 4000000
theorem gdE {m a : Int} (hm : 0 ≤ m ∧ m < 4) (ha : wfI a) : kE.Gd (m, a) := ⟨⟨by show _ ≤ m; omega, by show m ≤ _; omega⟩, ha⟩
theorem inM_t {m : Int} (h : 0 ≤ m ∧ m < 4) : inM m = true := decide_eq_true h
theorem inM_f {m : Int} (h : m < 0 ∨ 4 ≤ m) : inM m = false := decide_eq_false (by omega)
theorem mput_new {L : LdL} {a : Int × Int} (h : mget L a = none) (v : Int) : mput L a v = L ++ [(a, v)] := (m_none L a ((mget_iff L a).1 h)).2.1 v
theorem imax (a b : Int) : (if a < b then b else a) = max a b := by split <;> omega
theorem oTake (p b : Nat) (s : LdS) (N : Nat) (m a x : Int) (w : World) (hE : Ents (ldE p b s) w) (hok : LdOk N s) (hN : N ≤ 1000) (ha : wfI a) :
  Calls Try.prog 16 [ptrL p, .int .i64 m, .int .i64 a, .int .i64 x].toArray w fun e w' => e = .returned (.int .i64 (s.take m a x).2) ∧ Heap w (ids (ldE p b s)) (ldE p b (s.take m a x).1) w' := by
 have H := Heap.start hE
 have hR := fun W => oRight m W
 unfold LdS.take
 by_cases hm : 0 ≤ m ∧ m < 4
 ·simp only [inM_t hm] at hR
  by_cases hx : x < 1 ∨ 1048576 < x
  ·rw [if_pos (by omega)]
   by_cases h1 : x < 1
   ·refine k_in (N := 108) Try.func16 rfl rfl rfl ?_
    refine k_sg ?_
    refine s_run rfl rfl (rai rfl) ?_
    refine k_nc ?_
    refine k_seq ?_
    refine k_sg ?_
    refine s_run rfl rfl (rmi rfl) ?_
    refine s_call rfl (hR _) (ca39 rfl) ?_
    rintro e W1 ⟨rfl, H'⟩
    refine ⟨_, rfl, ?_⟩
    have H := H.same H'; clear H'
    refine s_run rfl rfl (r_notT rfl) ?_
    refine s_run rfl rfl (rmb rfl) ?_
    refine s_run rfl (g_on 15 (by kernel_rfl) rfl) (rmi rfl) ?_
    refine s_run rfl (g_on 15 (by kernel_rfl) rfl) (r_lssT rfl rfl (by omega)) ?_
    refine s_run rfl rfl (r_pkF (v := .bool _) rfl rfl) ?_
    refine s_run rfl rfl (rmb rfl) ?_
    refine s_off rfl (g_off 19 (by kernel_rfl) rfl rfl) ?_
    refine s_off rfl (g_off 19 (by kernel_rfl) rfl rfl) ?_
    refine s_run rfl rfl (r_pkT (v := .bool _) rfl rfl) ?_
    refine k_nc ?_
    refine k_t rfl ?_
    refine k_sg ?_
    refine s_run rfl rfl (rai rfl) ?_
    refine k_nc ?_
    refine k_ret ?_
    refine c_ret ?_
    refine fin1r (v := .int _ _) rfl rfl ?_
    exact ⟨rfl, H⟩
   ·refine k_in (N := 108) Try.func16 rfl rfl rfl ?_
    refine k_sg ?_
    refine s_run rfl rfl (rai rfl) ?_
    refine k_nc ?_
    refine k_seq ?_
    refine k_sg ?_
    refine s_run rfl rfl (rmi rfl) ?_
    refine s_call rfl (hR _) (ca39 rfl) ?_
    rintro e W1 ⟨rfl, H'⟩
    refine ⟨_, rfl, ?_⟩
    have H := H.same H'; clear H'
    refine s_run rfl rfl (r_notT rfl) ?_
    refine s_run rfl rfl (rmb rfl) ?_
    refine s_run rfl (g_on 15 (by kernel_rfl) rfl) (rmi rfl) ?_
    refine s_run rfl (g_on 15 (by kernel_rfl) rfl) (r_lssF rfl rfl (by omega)) ?_
    refine s_run rfl rfl (r_pkF (v := .bool _) rfl rfl) ?_
    refine s_run rfl rfl (rmb rfl) ?_
    refine s_run rfl (g_on 19 (by kernel_rfl) rfl) (rmi rfl) ?_
    refine s_run rfl (g_on 19 (by kernel_rfl) rfl) (r_gtrT rfl rfl (by omega)) ?_
    refine s_run rfl rfl (r_pkF (v := .bool _) rfl rfl) ?_
    refine k_nc ?_
    refine k_t rfl ?_
    refine k_sg ?_
    refine s_run rfl rfl (rai rfl) ?_
    refine k_nc ?_
    refine k_ret ?_
    refine c_ret ?_
    refine fin1r (v := .int _ _) rfl rfl ?_
    exact ⟨rfl, H⟩
  ·rw [if_neg (by omega)]
   have gd := gdE hm ha
   unfold ldE at H
   cases hg : mget s.L (m, a) with
   | some n =>
    rw [if_pos (show (some n).isSome = true from rfl)]
    refine k_in (N := 108) Try.func16 rfl rfl rfl ?_
    refine k_sg ?_
    refine s_run rfl rfl (rai rfl) ?_
    refine k_nc ?_
    refine k_seq ?_
    refine k_sg ?_
    refine s_run rfl rfl (rmi rfl) ?_
    refine s_call rfl (hR _) (ca39 rfl) ?_
    rintro e W1 ⟨rfl, H'⟩
    refine ⟨_, rfl, ?_⟩
    have H := H.same H'; clear H'
    refine s_run rfl rfl (r_notT rfl) ?_
    refine s_run rfl rfl (rmb rfl) ?_
    refine s_run rfl (g_on 15 (by kernel_rfl) rfl) (rmi rfl) ?_
    refine s_run rfl (g_on 15 (by kernel_rfl) rfl) (r_lssF rfl rfl (by omega)) ?_
    refine s_run rfl rfl (r_pkF (v := .bool _) rfl rfl) ?_
    refine s_run rfl rfl (rmb rfl) ?_
    refine s_run rfl (g_on 19 (by kernel_rfl) rfl) (rmi rfl) ?_
    refine s_run rfl (g_on 19 (by kernel_rfl) rfl) (r_gtrF rfl rfl (by omega)) ?_
    refine s_run rfl rfl (r_pkF (v := .bool _) rfl rfl) ?_
    refine k_nc ?_
    refine k_f rfl ?_
    refine k_skip ?_
    refine c_norm ?_
    refine k_sg ?_
    refine s_run rfl rfl (rmi rfl) ?_
    refine s_run rfl rfl (rmi rfl) ?_
    refine s_run rfl rfl (r_bd (bd86_0_1 _ _) rfl) ?_
    refine s_al H rfl inf86 ?_
    intro p9 _ H'; clear H; have H := H'; clear H'
    refine s_sw H 0 rfl rfl rfl rfl rfl rfl rfl sz86 ?_
    clear H; intro _ H; simp only [jA, jB, jC, jD, jE, jF, jG, jH, jI, jJ, jK, Nat.reduceAdd] at H
    refine k_nc ?_
    refine k_seq ?_
    refine k_seq ?_
    refine k_q mixed (by kernel_rfl) H ?_
    refine q_run rfl rfl (fun _ H => r_mv (v := .pointer _) rfl) ?_
    refine q_run rfl rfl (fun _ H => r_nc rfl) ?_
    refine q_run rfl rfl (fun _ H => r_fa0 rfl fo76_0) ?_
    refine q_run rfl rfl (fun _ H => r_lo H 1 rfl rfl rfl ag74) ?_
    refine q_run rfl rfl (fun _ H => r_la H 0 rfl rfl rfl ag86 sz86) ?_
    refine q_run rfl rfl (fun _ H => r_loS H 2 rfl rfl rfl (gd) (hg) Try.underlying74 (zv_of inf3) rfl) ?_
    refine q_run rfl rfl (fun _ H => r_mv (v := .tuple _) rfl) ?_
    refine q_run rfl rfl (fun _ H => r_ext (v := .int _ _) rfl rfl) ?_
    refine q_run rfl rfl (fun _ H => r_ext (v := .bool _) rfl rfl) ?_
    refine q_run rfl rfl (fun _ H => r_as (v := .int _ _) rfl) ?_
    refine q_run rfl rfl (fun _ H => r_as (v := .bool _) rfl) ?_
    refine q_nil ?_
    intro _ H'; clear H; have H := H'; clear H'
    refine c_norm ?_
    refine k_b ?_
    refine k_sg ?_
    refine s_run rfl rfl (rmb rfl) ?_
    refine s_run rfl rfl (rab rfl) ?_
    refine k_nc ?_
    refine k_t rfl ?_
    refine k_sg ?_
    refine s_run rfl rfl (rai rfl) ?_
    refine k_nc ?_
    refine k_ret ?_
    refine b_ret ?_
    refine c_ret ?_
    refine fin1r (v := .int _ _) rfl rfl ?_
    exact ⟨rfl, H.drop⟩
   | none =>
    rw [if_neg (show ¬ (none : Option Int).isSome = true by simp)]
    have hbm := hok.bd m hm.1 hm.2
    obtain ⟨hq1, hq2, hq3⟩ := hok.q m hm.1 hm.2
    have htk := hok.tk m hm.1 hm.2
    obtain ⟨k, rfl⟩ := Int.eq_ofNat_of_zero_le hm.1
    have hk : k < 4 := by omega
    by_cases hsp : s.q k ≥ 0 ∧ x > s.q k - s.h k
    ·rw [if_pos hsp]
     obtain ⟨hs1, hs2⟩ := hsp
     refine k_in (N := 108) Try.func16 rfl rfl rfl ?_
     refine k_sg ?_
     refine s_run rfl rfl (rai rfl) ?_
     refine k_nc ?_
     refine k_seq ?_
     refine k_sg ?_
     refine s_run rfl rfl (rmi rfl) ?_
     refine s_call rfl (hR _) (ca39 rfl) ?_
     rintro e W1 ⟨rfl, H'⟩
     refine ⟨_, rfl, ?_⟩
     have H := H.same H'; clear H'
     refine s_run rfl rfl (r_notT rfl) ?_
     refine s_run rfl rfl (rmb rfl) ?_
     refine s_run rfl (g_on 15 (by kernel_rfl) rfl) (rmi rfl) ?_
     refine s_run rfl (g_on 15 (by kernel_rfl) rfl) (r_lssF rfl rfl (by omega)) ?_
     refine s_run rfl rfl (r_pkF (v := .bool _) rfl rfl) ?_
     refine s_run rfl rfl (rmb rfl) ?_
     refine s_run rfl (g_on 19 (by kernel_rfl) rfl) (rmi rfl) ?_
     refine s_run rfl (g_on 19 (by kernel_rfl) rfl) (r_gtrF rfl rfl (by omega)) ?_
     refine s_run rfl rfl (r_pkF (v := .bool _) rfl rfl) ?_
     refine k_nc ?_
     refine k_f rfl ?_
     refine k_skip ?_
     refine c_norm ?_
     refine k_sg ?_
     refine s_run rfl rfl (rmi rfl) ?_
     refine s_run rfl rfl (rmi rfl) ?_
     refine s_run rfl rfl (r_bd (bd86_0_1 _ _) rfl) ?_
     refine s_al H rfl inf86 ?_
     intro p9 _ H'; clear H; have H := H'; clear H'
     refine s_sw H 0 rfl rfl rfl rfl rfl rfl rfl sz86 ?_
     clear H; intro _ H; simp only [jA, jB, jC, jD, jE, jF, jG, jH, jI, jJ, jK, Nat.reduceAdd] at H
     refine k_nc ?_
     refine k_seq ?_
     refine k_seq ?_
     refine k_q mixed (by kernel_rfl) H ?_
     refine q_run rfl rfl (fun _ H => r_mv (v := .pointer _) rfl) ?_
     refine q_run rfl rfl (fun _ H => r_nc rfl) ?_
     refine q_run rfl rfl (fun _ H => r_fa0 rfl fo76_0) ?_
     refine q_run rfl rfl (fun _ H => r_lo H 1 rfl rfl rfl ag74) ?_
     refine q_run rfl rfl (fun _ H => r_la H 0 rfl rfl rfl ag86 sz86) ?_
     refine q_run rfl rfl (fun _ H => r_loN H 2 rfl rfl rfl (gd) (hg) Try.underlying74 (zv_of inf3)) ?_
     refine q_run rfl rfl (fun _ H => r_mv (v := .tuple _) rfl) ?_
     refine q_run rfl rfl (fun _ H => r_ext (v := .int _ _) rfl rfl) ?_
     refine q_run rfl rfl (fun _ H => r_ext (v := .bool _) rfl rfl) ?_
     refine q_run rfl rfl (fun _ H => r_as (v := .int _ _) rfl) ?_
     refine q_run rfl rfl (fun _ H => r_as (v := .bool _) rfl) ?_
     refine q_nil ?_
     intro _ H'; clear H; have H := H'; clear H'
     refine c_norm ?_
     refine k_b ?_
     refine k_sg ?_
     refine s_run rfl rfl (rmb rfl) ?_
     refine s_run rfl rfl (rab rfl) ?_
     refine k_nc ?_
     refine k_f rfl ?_
     refine k_seq ?_
     refine k_q mixed (by kernel_rfl) H ?_
     refine q_run rfl rfl (fun _ H => r_mv (v := .pointer _) rfl) ?_
     refine q_run rfl rfl (fun _ H => r_mv (v := .int _ _) rfl) ?_
     refine q_run rfl rfl (fun _ H => r_nc rfl) ?_
     refine q_run rfl rfl (fun _ H => r_fa0 rfl fo76_1) ?_
     refine q_run rfl rfl (fun _ H => r_ia1 (i := k) rfl rfl (by omega) (by omega) Try.underlying29 sz3) ?_
     refine q_run rfl rfl (fun _ H => r_lo H 1 rfl rfl (gq hk) ag3) ?_
     refine q_run rfl rfl (fun _ H => r_geqT rfl rfl (by omega)) ?_
     refine q_run rfl rfl (fun _ H => r_mv (v := .bool _) rfl) ?_
     refine q_run rfl (g_on 45 (by kernel_rfl) rfl) (fun _ H => r_mv (v := .int _ _) rfl) ?_
     refine q_run rfl (g_on 45 (by kernel_rfl) rfl) (fun _ H => r_mv (v := .pointer _) rfl) ?_
     refine q_run rfl (g_on 45 (by kernel_rfl) rfl) (fun _ H => r_mv (v := .int _ _) rfl) ?_
     refine q_run rfl (g_on 45 (by kernel_rfl) rfl) (fun _ H => r_nc rfl) ?_
     refine q_run rfl (g_on 45 (by kernel_rfl) rfl) (fun _ H => r_fa0 rfl fo76_1) ?_
     refine q_run rfl (g_on 45 (by kernel_rfl) rfl) (fun _ H => r_ia1 (i := k) rfl rfl (by omega) (by omega) Try.underlying29 sz3) ?_
     refine q_run rfl (g_on 45 (by kernel_rfl) rfl) (fun _ H => r_lo H 1 rfl rfl (gq hk) ag3) ?_
     refine q_run rfl (g_on 45 (by kernel_rfl) rfl) (fun _ H => r_mv (v := .pointer _) rfl) ?_
     refine q_run rfl (g_on 45 (by kernel_rfl) rfl) (fun _ H => r_mv (v := .int _ _) rfl) ?_
     refine q_run rfl (g_on 45 (by kernel_rfl) rfl) (fun _ H => r_nc rfl) ?_
     refine q_run rfl (g_on 45 (by kernel_rfl) rfl) (fun _ H => r_fa0 rfl fo76_2) ?_
     refine q_run rfl (g_on 45 (by kernel_rfl) rfl) (fun _ H => r_ia1 (i := k) rfl rfl (by omega) (by omega) Try.underlying29 sz3) ?_
     refine q_run rfl (g_on 45 (by kernel_rfl) rfl) (fun _ H => r_lo H 1 rfl rfl (gh hk) ag3) ?_
     refine q_run rfl (g_on 45 (by kernel_rfl) rfl) (fun _ H => r_sub rfl rfl (wI (by omega))) ?_
     refine q_run rfl (g_on 45 (by kernel_rfl) rfl) (fun _ H => r_gtrT rfl rfl (by omega)) ?_
     refine q_run rfl rfl (fun _ H => r_pkT (v := .bool _) rfl rfl) ?_
     refine q_run rfl rfl (fun _ H => r_as (v := .bool _) rfl) ?_
     refine q_nil ?_
     intro _ H'; clear H; have H := H'; clear H'
     refine c_norm ?_
     refine k_t rfl ?_
     refine k_sg ?_
     refine s_run rfl rfl (rai rfl) ?_
     refine k_nc ?_
     refine k_ret ?_
     refine b_ret ?_
     refine c_ret ?_
     refine fin1r (v := .int _ _) rfl rfl ?_
     exact ⟨rfl, H.drop⟩
    ·rw [if_neg hsp]
     have hpn := mput_new hg x
     by_cases hs1 : s.q k ≥ 0
     ·have hs2 : ¬ x > s.q k - s.h k := fun h => hsp ⟨hs1, h⟩
      refine k_in (N := 108) Try.func16 rfl rfl rfl ?_
      refine k_sg ?_
      refine s_run rfl rfl (rai rfl) ?_
      refine k_nc ?_
      refine k_seq ?_
      refine k_sg ?_
      refine s_run rfl rfl (rmi rfl) ?_
      refine s_call rfl (hR _) (ca39 rfl) ?_
      rintro e W1 ⟨rfl, H'⟩
      refine ⟨_, rfl, ?_⟩
      have H := H.same H'; clear H'
      refine s_run rfl rfl (r_notT rfl) ?_
      refine s_run rfl rfl (rmb rfl) ?_
      refine s_run rfl (g_on 15 (by kernel_rfl) rfl) (rmi rfl) ?_
      refine s_run rfl (g_on 15 (by kernel_rfl) rfl) (r_lssF rfl rfl (by omega)) ?_
      refine s_run rfl rfl (r_pkF (v := .bool _) rfl rfl) ?_
      refine s_run rfl rfl (rmb rfl) ?_
      refine s_run rfl (g_on 19 (by kernel_rfl) rfl) (rmi rfl) ?_
      refine s_run rfl (g_on 19 (by kernel_rfl) rfl) (r_gtrF rfl rfl (by omega)) ?_
      refine s_run rfl rfl (r_pkF (v := .bool _) rfl rfl) ?_
      refine k_nc ?_
      refine k_f rfl ?_
      refine k_skip ?_
      refine c_norm ?_
      refine k_sg ?_
      refine s_run rfl rfl (rmi rfl) ?_
      refine s_run rfl rfl (rmi rfl) ?_
      refine s_run rfl rfl (r_bd (bd86_0_1 _ _) rfl) ?_
      refine s_al H rfl inf86 ?_
      intro p9 _ H'; clear H; have H := H'; clear H'
      refine s_sw H 0 rfl rfl rfl rfl rfl rfl rfl sz86 ?_
      clear H; intro _ H; simp only [jA, jB, jC, jD, jE, jF, jG, jH, jI, jJ, jK, Nat.reduceAdd] at H
      refine k_nc ?_
      refine k_seq ?_
      refine k_seq ?_
      refine k_q mixed (by kernel_rfl) H ?_
      refine q_run rfl rfl (fun _ H => r_mv (v := .pointer _) rfl) ?_
      refine q_run rfl rfl (fun _ H => r_nc rfl) ?_
      refine q_run rfl rfl (fun _ H => r_fa0 rfl fo76_0) ?_
      refine q_run rfl rfl (fun _ H => r_lo H 1 rfl rfl rfl ag74) ?_
      refine q_run rfl rfl (fun _ H => r_la H 0 rfl rfl rfl ag86 sz86) ?_
      refine q_run rfl rfl (fun _ H => r_loN H 2 rfl rfl rfl (gd) (hg) Try.underlying74 (zv_of inf3)) ?_
      refine q_run rfl rfl (fun _ H => r_mv (v := .tuple _) rfl) ?_
      refine q_run rfl rfl (fun _ H => r_ext (v := .int _ _) rfl rfl) ?_
      refine q_run rfl rfl (fun _ H => r_ext (v := .bool _) rfl rfl) ?_
      refine q_run rfl rfl (fun _ H => r_as (v := .int _ _) rfl) ?_
      refine q_run rfl rfl (fun _ H => r_as (v := .bool _) rfl) ?_
      refine q_nil ?_
      intro _ H'; clear H; have H := H'; clear H'
      refine c_norm ?_
      refine k_b ?_
      refine k_sg ?_
      refine s_run rfl rfl (rmb rfl) ?_
      refine s_run rfl rfl (rab rfl) ?_
      refine k_nc ?_
      refine k_f rfl ?_
      refine k_seq ?_
      refine k_q mixed (by kernel_rfl) H ?_
      refine q_run rfl rfl (fun _ H => r_mv (v := .pointer _) rfl) ?_
      refine q_run rfl rfl (fun _ H => r_mv (v := .int _ _) rfl) ?_
      refine q_run rfl rfl (fun _ H => r_nc rfl) ?_
      refine q_run rfl rfl (fun _ H => r_fa0 rfl fo76_1) ?_
      refine q_run rfl rfl (fun _ H => r_ia1 (i := k) rfl rfl (by omega) (by omega) Try.underlying29 sz3) ?_
      refine q_run rfl rfl (fun _ H => r_lo H 1 rfl rfl (gq hk) ag3) ?_
      refine q_run rfl rfl (fun _ H => r_geqT rfl rfl (by omega)) ?_
      refine q_run rfl rfl (fun _ H => r_mv (v := .bool _) rfl) ?_
      refine q_run rfl (g_on 45 (by kernel_rfl) rfl) (fun _ H => r_mv (v := .int _ _) rfl) ?_
      refine q_run rfl (g_on 45 (by kernel_rfl) rfl) (fun _ H => r_mv (v := .pointer _) rfl) ?_
      refine q_run rfl (g_on 45 (by kernel_rfl) rfl) (fun _ H => r_mv (v := .int _ _) rfl) ?_
      refine q_run rfl (g_on 45 (by kernel_rfl) rfl) (fun _ H => r_nc rfl) ?_
      refine q_run rfl (g_on 45 (by kernel_rfl) rfl) (fun _ H => r_fa0 rfl fo76_1) ?_
      refine q_run rfl (g_on 45 (by kernel_rfl) rfl) (fun _ H => r_ia1 (i := k) rfl rfl (by omega) (by omega) Try.underlying29 sz3) ?_
      refine q_run rfl (g_on 45 (by kernel_rfl) rfl) (fun _ H => r_lo H 1 rfl rfl (gq hk) ag3) ?_
      refine q_run rfl (g_on 45 (by kernel_rfl) rfl) (fun _ H => r_mv (v := .pointer _) rfl) ?_
      refine q_run rfl (g_on 45 (by kernel_rfl) rfl) (fun _ H => r_mv (v := .int _ _) rfl) ?_
      refine q_run rfl (g_on 45 (by kernel_rfl) rfl) (fun _ H => r_nc rfl) ?_
      refine q_run rfl (g_on 45 (by kernel_rfl) rfl) (fun _ H => r_fa0 rfl fo76_2) ?_
      refine q_run rfl (g_on 45 (by kernel_rfl) rfl) (fun _ H => r_ia1 (i := k) rfl rfl (by omega) (by omega) Try.underlying29 sz3) ?_
      refine q_run rfl (g_on 45 (by kernel_rfl) rfl) (fun _ H => r_lo H 1 rfl rfl (gh hk) ag3) ?_
      refine q_run rfl (g_on 45 (by kernel_rfl) rfl) (fun _ H => r_sub rfl rfl (wI (by omega))) ?_
      refine q_run rfl (g_on 45 (by kernel_rfl) rfl) (fun _ H => r_gtrF rfl rfl (by omega)) ?_
      refine q_run rfl rfl (fun _ H => r_pkT (v := .bool _) rfl rfl) ?_
      refine q_run rfl rfl (fun _ H => r_as (v := .bool _) rfl) ?_
      refine q_nil ?_
      intro _ H'; clear H; have H := H'; clear H'
      refine c_norm ?_
      refine k_f rfl ?_
      refine k_skip ?_
      refine b_norm ?_
      refine c_norm ?_
      refine k_seq ?_
      refine k_qt 6 mixed (by kernel_rfl) H rfl rfl ?_
      refine q_run rfl rfl (fun _ H => r_mv (v := .pointer _) rfl) ?_
      refine q_run rfl rfl (fun _ H => r_nc rfl) ?_
      refine q_run rfl rfl (fun _ H => r_fa0 rfl fo76_0) ?_
      refine q_run rfl rfl (fun _ H => r_lo H 1 rfl rfl rfl ag74) ?_
      refine q_run rfl rfl (fun _ H => r_la H 0 rfl rfl rfl ag86 sz86) ?_
      refine q_run rfl rfl (fun _ H => r_mv (v := .int _ _) rfl) ?_
      refine q_nil ?_
      intro _ H'; clear H; have H := H'; clear H'
      refine s_mu H 2 rfl rfl rfl rfl rfl (gd) Try.underlying74 ?_
      clear H; intro _ H; simp only [jA, jB, jC, jD, jE, jF, jG, jH, jI, jJ, jK, Nat.reduceAdd] at H
      refine k_nc ?_
      refine k_seq ?_
      refine k_qt 11 mixed (by kernel_rfl) H rfl rfl ?_
      refine q_run rfl rfl (fun _ H => r_mv (v := .pointer _) rfl) ?_
      refine q_run rfl rfl (fun _ H => r_mv (v := .int _ _) rfl) ?_
      refine q_run rfl rfl (fun _ H => r_nc rfl) ?_
      refine q_run rfl rfl (fun _ H => r_fa0 rfl fo76_2) ?_
      refine q_run rfl rfl (fun _ H => r_ia1 (i := k) rfl rfl (by omega) (by omega) Try.underlying29 sz3) ?_
      refine q_run rfl rfl (fun _ H => r_lo H 1 rfl rfl (gh hk) ag3) ?_
      refine q_run rfl rfl (fun _ H => r_mv (v := .int _ _) rfl) ?_
      refine q_run rfl rfl (fun _ H => r_add rfl rfl (wI (by omega))) ?_
      refine q_run rfl rfl (fun _ H => r_nc rfl) ?_
      refine q_run rfl rfl (fun _ H => r_fa0 rfl fo76_2) ?_
      refine q_run rfl rfl (fun _ H => r_ia1 (i := k) rfl rfl (by omega) (by omega) Try.underlying29 sz3) ?_
      refine q_nil ?_
      intro _ H'; clear H; have H := H'; clear H'
      refine s_stC H 1 rfl rfl rfl rfl (gh hk) (sh hk) rfl sz3 ?_
      clear H; intro _ H; simp only [jA, jB, jC, jD, jE, jF, jG, jH, jI, jJ, jK, Nat.reduceAdd] at H
      refine k_nc ?_
      refine k_seq ?_
      refine k_qt 11 mixed (by kernel_rfl) H rfl rfl ?_
      refine q_run rfl rfl (fun _ H => r_mv (v := .pointer _) rfl) ?_
      refine q_run rfl rfl (fun _ H => r_mv (v := .int _ _) rfl) ?_
      refine q_run rfl rfl (fun _ H => r_nc rfl) ?_
      refine q_run rfl rfl (fun _ H => r_fa0 rfl fo76_4) ?_
      refine q_run rfl rfl (fun _ H => r_ia1 (i := k) rfl rfl (by omega) (by omega) Try.underlying29 sz3) ?_
      refine q_run rfl rfl (fun _ H => r_lo H 1 rfl rfl (gt hk) ag3) ?_
      refine q_run rfl rfl (fun _ H => r_mv (v := .int _ _) rfl) ?_
      refine q_run rfl rfl (fun _ H => r_add rfl rfl (wI (by omega))) ?_
      refine q_run rfl rfl (fun _ H => r_nc rfl) ?_
      refine q_run rfl rfl (fun _ H => r_fa0 rfl fo76_4) ?_
      refine q_run rfl rfl (fun _ H => r_ia1 (i := k) rfl rfl (by omega) (by omega) Try.underlying29 sz3) ?_
      refine q_nil ?_
      intro _ H'; clear H; have H := H'; clear H'
      refine s_stC H 1 rfl rfl rfl rfl (gt hk) (st hk) rfl sz3 ?_
      clear H; intro _ H; simp only [jA, jB, jC, jD, jE, jF, jG, jH, jI, jJ, jK, Nat.reduceAdd] at H
      refine k_nc ?_
      refine k_seq ?_
      refine k_qt 18 mixed (by kernel_rfl) H rfl rfl ?_
      refine q_run rfl rfl (fun _ H => r_mv (v := .pointer _) rfl) ?_
      refine q_run rfl rfl (fun _ H => r_mv (v := .int _ _) rfl) ?_
      refine q_run rfl rfl (fun _ H => r_mv (v := .pointer _) rfl) ?_
      refine q_run rfl rfl (fun _ H => r_mv (v := .int _ _) rfl) ?_
      refine q_run rfl rfl (fun _ H => r_nc rfl) ?_
      refine q_run rfl rfl (fun _ H => r_fa0 rfl fo76_3) ?_
      refine q_run rfl rfl (fun _ H => r_ia1 (i := k) rfl rfl (by omega) (by omega) Try.underlying29 sz3) ?_
      refine q_run rfl rfl (fun _ H => r_lo H 1 rfl rfl (gp hk) ag3) ?_
      refine q_run rfl rfl (fun _ H => r_mv (v := .pointer _) rfl) ?_
      refine q_run rfl rfl (fun _ H => r_mv (v := .int _ _) rfl) ?_
      refine q_run rfl rfl (fun _ H => r_nc rfl) ?_
      refine q_run rfl rfl (fun _ H => r_fa0 rfl fo76_2) ?_
      refine q_run rfl rfl (fun _ H => r_ia1 (i := k) rfl rfl (by omega) (by omega) Try.underlying29 sz3) ?_
      refine q_run rfl rfl (fun _ H => r_lo H 1 rfl rfl (gh hk) ag3) ?_
      refine q_run rfl rfl (fun _ H => r_max rfl rfl (imax _ _)) ?_
      refine q_run rfl rfl (fun _ H => r_nc rfl) ?_
      refine q_run rfl rfl (fun _ H => r_fa0 rfl fo76_3) ?_
      refine q_run rfl rfl (fun _ H => r_ia1 (i := k) rfl rfl (by omega) (by omega) Try.underlying29 sz3) ?_
      refine q_nil ?_
      intro _ H'; clear H; have H := H'; clear H'
      refine s_stC H 1 rfl rfl rfl rfl (gp hk) (sp hk) rfl sz3 ?_
      clear H; intro _ H; simp only [jA, jB, jC, jD, jE, jF, jG, jH, jI, jJ, jK, Nat.reduceAdd] at H
      refine k_nc ?_
      refine k_sg ?_
      refine s_run rfl rfl (rai rfl) ?_
      refine k_nc ?_
      refine k_ret ?_
      refine fin1r (v := .int _ _) rfl rfl ?_
      rw [hpn, upI_at] at H
      exact ⟨rfl, H.drop⟩
     ·refine k_in (N := 108) Try.func16 rfl rfl rfl ?_
      refine k_sg ?_
      refine s_run rfl rfl (rai rfl) ?_
      refine k_nc ?_
      refine k_seq ?_
      refine k_sg ?_
      refine s_run rfl rfl (rmi rfl) ?_
      refine s_call rfl (hR _) (ca39 rfl) ?_
      rintro e W1 ⟨rfl, H'⟩
      refine ⟨_, rfl, ?_⟩
      have H := H.same H'; clear H'
      refine s_run rfl rfl (r_notT rfl) ?_
      refine s_run rfl rfl (rmb rfl) ?_
      refine s_run rfl (g_on 15 (by kernel_rfl) rfl) (rmi rfl) ?_
      refine s_run rfl (g_on 15 (by kernel_rfl) rfl) (r_lssF rfl rfl (by omega)) ?_
      refine s_run rfl rfl (r_pkF (v := .bool _) rfl rfl) ?_
      refine s_run rfl rfl (rmb rfl) ?_
      refine s_run rfl (g_on 19 (by kernel_rfl) rfl) (rmi rfl) ?_
      refine s_run rfl (g_on 19 (by kernel_rfl) rfl) (r_gtrF rfl rfl (by omega)) ?_
      refine s_run rfl rfl (r_pkF (v := .bool _) rfl rfl) ?_
      refine k_nc ?_
      refine k_f rfl ?_
      refine k_skip ?_
      refine c_norm ?_
      refine k_sg ?_
      refine s_run rfl rfl (rmi rfl) ?_
      refine s_run rfl rfl (rmi rfl) ?_
      refine s_run rfl rfl (r_bd (bd86_0_1 _ _) rfl) ?_
      refine s_al H rfl inf86 ?_
      intro p9 _ H'; clear H; have H := H'; clear H'
      refine s_sw H 0 rfl rfl rfl rfl rfl rfl rfl sz86 ?_
      clear H; intro _ H; simp only [jA, jB, jC, jD, jE, jF, jG, jH, jI, jJ, jK, Nat.reduceAdd] at H
      refine k_nc ?_
      refine k_seq ?_
      refine k_seq ?_
      refine k_q mixed (by kernel_rfl) H ?_
      refine q_run rfl rfl (fun _ H => r_mv (v := .pointer _) rfl) ?_
      refine q_run rfl rfl (fun _ H => r_nc rfl) ?_
      refine q_run rfl rfl (fun _ H => r_fa0 rfl fo76_0) ?_
      refine q_run rfl rfl (fun _ H => r_lo H 1 rfl rfl rfl ag74) ?_
      refine q_run rfl rfl (fun _ H => r_la H 0 rfl rfl rfl ag86 sz86) ?_
      refine q_run rfl rfl (fun _ H => r_loN H 2 rfl rfl rfl (gd) (hg) Try.underlying74 (zv_of inf3)) ?_
      refine q_run rfl rfl (fun _ H => r_mv (v := .tuple _) rfl) ?_
      refine q_run rfl rfl (fun _ H => r_ext (v := .int _ _) rfl rfl) ?_
      refine q_run rfl rfl (fun _ H => r_ext (v := .bool _) rfl rfl) ?_
      refine q_run rfl rfl (fun _ H => r_as (v := .int _ _) rfl) ?_
      refine q_run rfl rfl (fun _ H => r_as (v := .bool _) rfl) ?_
      refine q_nil ?_
      intro _ H'; clear H; have H := H'; clear H'
      refine c_norm ?_
      refine k_b ?_
      refine k_sg ?_
      refine s_run rfl rfl (rmb rfl) ?_
      refine s_run rfl rfl (rab rfl) ?_
      refine k_nc ?_
      refine k_f rfl ?_
      refine k_seq ?_
      refine k_q mixed (by kernel_rfl) H ?_
      refine q_run rfl rfl (fun _ H => r_mv (v := .pointer _) rfl) ?_
      refine q_run rfl rfl (fun _ H => r_mv (v := .int _ _) rfl) ?_
      refine q_run rfl rfl (fun _ H => r_nc rfl) ?_
      refine q_run rfl rfl (fun _ H => r_fa0 rfl fo76_1) ?_
      refine q_run rfl rfl (fun _ H => r_ia1 (i := k) rfl rfl (by omega) (by omega) Try.underlying29 sz3) ?_
      refine q_run rfl rfl (fun _ H => r_lo H 1 rfl rfl (gq hk) ag3) ?_
      refine q_run rfl rfl (fun _ H => r_geqF rfl rfl (by omega)) ?_
      refine q_run rfl rfl (fun _ H => r_mv (v := .bool _) rfl) ?_
      refine q_off rfl (g_off 45 (by kernel_rfl) rfl rfl) ?_
      refine q_off rfl (g_off 45 (by kernel_rfl) rfl rfl) ?_
      refine q_off rfl (g_off 45 (by kernel_rfl) rfl rfl) ?_
      refine q_off rfl (g_off 45 (by kernel_rfl) rfl rfl) ?_
      refine q_off rfl (g_off 45 (by kernel_rfl) rfl rfl) ?_
      refine q_off rfl (g_off 45 (by kernel_rfl) rfl rfl) ?_
      refine q_off rfl (g_off 45 (by kernel_rfl) rfl rfl) ?_
      refine q_off rfl (g_off 45 (by kernel_rfl) rfl rfl) ?_
      refine q_off rfl (g_off 45 (by kernel_rfl) rfl rfl) ?_
      refine q_off rfl (g_off 45 (by kernel_rfl) rfl rfl) ?_
      refine q_off rfl (g_off 45 (by kernel_rfl) rfl rfl) ?_
      refine q_off rfl (g_off 45 (by kernel_rfl) rfl rfl) ?_
      refine q_off rfl (g_off 45 (by kernel_rfl) rfl rfl) ?_
      refine q_off rfl (g_off 45 (by kernel_rfl) rfl rfl) ?_
      refine q_off rfl (g_off 45 (by kernel_rfl) rfl rfl) ?_
      refine q_run rfl rfl (fun _ H => r_pkF (v := .bool _) rfl rfl) ?_
      refine q_run rfl rfl (fun _ H => r_as (v := .bool _) rfl) ?_
      refine q_nil ?_
      intro _ H'; clear H; have H := H'; clear H'
      refine c_norm ?_
      refine k_f rfl ?_
      refine k_skip ?_
      refine b_norm ?_
      refine c_norm ?_
      refine k_seq ?_
      refine k_qt 6 mixed (by kernel_rfl) H rfl rfl ?_
      refine q_run rfl rfl (fun _ H => r_mv (v := .pointer _) rfl) ?_
      refine q_run rfl rfl (fun _ H => r_nc rfl) ?_
      refine q_run rfl rfl (fun _ H => r_fa0 rfl fo76_0) ?_
      refine q_run rfl rfl (fun _ H => r_lo H 1 rfl rfl rfl ag74) ?_
      refine q_run rfl rfl (fun _ H => r_la H 0 rfl rfl rfl ag86 sz86) ?_
      refine q_run rfl rfl (fun _ H => r_mv (v := .int _ _) rfl) ?_
      refine q_nil ?_
      intro _ H'; clear H; have H := H'; clear H'
      refine s_mu H 2 rfl rfl rfl rfl rfl (gd) Try.underlying74 ?_
      clear H; intro _ H; simp only [jA, jB, jC, jD, jE, jF, jG, jH, jI, jJ, jK, Nat.reduceAdd] at H
      refine k_nc ?_
      refine k_seq ?_
      refine k_qt 11 mixed (by kernel_rfl) H rfl rfl ?_
      refine q_run rfl rfl (fun _ H => r_mv (v := .pointer _) rfl) ?_
      refine q_run rfl rfl (fun _ H => r_mv (v := .int _ _) rfl) ?_
      refine q_run rfl rfl (fun _ H => r_nc rfl) ?_
      refine q_run rfl rfl (fun _ H => r_fa0 rfl fo76_2) ?_
      refine q_run rfl rfl (fun _ H => r_ia1 (i := k) rfl rfl (by omega) (by omega) Try.underlying29 sz3) ?_
      refine q_run rfl rfl (fun _ H => r_lo H 1 rfl rfl (gh hk) ag3) ?_
      refine q_run rfl rfl (fun _ H => r_mv (v := .int _ _) rfl) ?_
      refine q_run rfl rfl (fun _ H => r_add rfl rfl (wI (by omega))) ?_
      refine q_run rfl rfl (fun _ H => r_nc rfl) ?_
      refine q_run rfl rfl (fun _ H => r_fa0 rfl fo76_2) ?_
      refine q_run rfl rfl (fun _ H => r_ia1 (i := k) rfl rfl (by omega) (by omega) Try.underlying29 sz3) ?_
      refine q_nil ?_
      intro _ H'; clear H; have H := H'; clear H'
      refine s_stC H 1 rfl rfl rfl rfl (gh hk) (sh hk) rfl sz3 ?_
      clear H; intro _ H; simp only [jA, jB, jC, jD, jE, jF, jG, jH, jI, jJ, jK, Nat.reduceAdd] at H
      refine k_nc ?_
      refine k_seq ?_
      refine k_qt 11 mixed (by kernel_rfl) H rfl rfl ?_
      refine q_run rfl rfl (fun _ H => r_mv (v := .pointer _) rfl) ?_
      refine q_run rfl rfl (fun _ H => r_mv (v := .int _ _) rfl) ?_
      refine q_run rfl rfl (fun _ H => r_nc rfl) ?_
      refine q_run rfl rfl (fun _ H => r_fa0 rfl fo76_4) ?_
      refine q_run rfl rfl (fun _ H => r_ia1 (i := k) rfl rfl (by omega) (by omega) Try.underlying29 sz3) ?_
      refine q_run rfl rfl (fun _ H => r_lo H 1 rfl rfl (gt hk) ag3) ?_
      refine q_run rfl rfl (fun _ H => r_mv (v := .int _ _) rfl) ?_
      refine q_run rfl rfl (fun _ H => r_add rfl rfl (wI (by omega))) ?_
      refine q_run rfl rfl (fun _ H => r_nc rfl) ?_
      refine q_run rfl rfl (fun _ H => r_fa0 rfl fo76_4) ?_
      refine q_run rfl rfl (fun _ H => r_ia1 (i := k) rfl rfl (by omega) (by omega) Try.underlying29 sz3) ?_
      refine q_nil ?_
      intro _ H'; clear H; have H := H'; clear H'
      refine s_stC H 1 rfl rfl rfl rfl (gt hk) (st hk) rfl sz3 ?_
      clear H; intro _ H; simp only [jA, jB, jC, jD, jE, jF, jG, jH, jI, jJ, jK, Nat.reduceAdd] at H
      refine k_nc ?_
      refine k_seq ?_
      refine k_qt 18 mixed (by kernel_rfl) H rfl rfl ?_
      refine q_run rfl rfl (fun _ H => r_mv (v := .pointer _) rfl) ?_
      refine q_run rfl rfl (fun _ H => r_mv (v := .int _ _) rfl) ?_
      refine q_run rfl rfl (fun _ H => r_mv (v := .pointer _) rfl) ?_
      refine q_run rfl rfl (fun _ H => r_mv (v := .int _ _) rfl) ?_
      refine q_run rfl rfl (fun _ H => r_nc rfl) ?_
      refine q_run rfl rfl (fun _ H => r_fa0 rfl fo76_3) ?_
      refine q_run rfl rfl (fun _ H => r_ia1 (i := k) rfl rfl (by omega) (by omega) Try.underlying29 sz3) ?_
      refine q_run rfl rfl (fun _ H => r_lo H 1 rfl rfl (gp hk) ag3) ?_
      refine q_run rfl rfl (fun _ H => r_mv (v := .pointer _) rfl) ?_
      refine q_run rfl rfl (fun _ H => r_mv (v := .int _ _) rfl) ?_
      refine q_run rfl rfl (fun _ H => r_nc rfl) ?_
      refine q_run rfl rfl (fun _ H => r_fa0 rfl fo76_2) ?_
      refine q_run rfl rfl (fun _ H => r_ia1 (i := k) rfl rfl (by omega) (by omega) Try.underlying29 sz3) ?_
      refine q_run rfl rfl (fun _ H => r_lo H 1 rfl rfl (gh hk) ag3) ?_
      refine q_run rfl rfl (fun _ H => r_max rfl rfl (imax _ _)) ?_
      refine q_run rfl rfl (fun _ H => r_nc rfl) ?_
      refine q_run rfl rfl (fun _ H => r_fa0 rfl fo76_3) ?_
      refine q_run rfl rfl (fun _ H => r_ia1 (i := k) rfl rfl (by omega) (by omega) Try.underlying29 sz3) ?_
      refine q_nil ?_
      intro _ H'; clear H; have H := H'; clear H'
      refine s_stC H 1 rfl rfl rfl rfl (gp hk) (sp hk) rfl sz3 ?_
      clear H; intro _ H; simp only [jA, jB, jC, jD, jE, jF, jG, jH, jI, jJ, jK, Nat.reduceAdd] at H
      refine k_nc ?_
      refine k_sg ?_
      refine s_run rfl rfl (rai rfl) ?_
      refine k_nc ?_
      refine k_ret ?_
      refine fin1r (v := .int _ _) rfl rfl ?_
      rw [hpn, upI_at] at H
      exact ⟨rfl, H.drop⟩
 ·rw [if_pos (by omega)]
  simp only [inM_f (show m < 0 ∨ 4 ≤ m by omega)] at hR
  refine k_in (N := 108) Try.func16 rfl rfl rfl ?_
  refine k_sg ?_
  refine s_run rfl rfl (rai rfl) ?_
  refine k_nc ?_
  refine k_seq ?_
  refine k_sg ?_
  refine s_run rfl rfl (rmi rfl) ?_
  refine s_call rfl (hR _) (ca39 rfl) ?_
  rintro e W1 ⟨rfl, H'⟩
  refine ⟨_, rfl, ?_⟩
  have H := H.same H'; clear H'
  refine s_run rfl rfl (r_notF rfl) ?_
  refine s_run rfl rfl (rmb rfl) ?_
  refine s_off rfl (g_off 15 (by kernel_rfl) rfl rfl) ?_
  refine s_off rfl (g_off 15 (by kernel_rfl) rfl rfl) ?_
  refine s_run rfl rfl (r_pkT (v := .bool _) rfl rfl) ?_
  refine s_run rfl rfl (rmb rfl) ?_
  refine s_off rfl (g_off 19 (by kernel_rfl) rfl rfl) ?_
  refine s_off rfl (g_off 19 (by kernel_rfl) rfl rfl) ?_
  refine s_run rfl rfl (r_pkT (v := .bool _) rfl rfl) ?_
  refine k_nc ?_
  refine k_t rfl ?_
  refine k_sg ?_
  refine s_run rfl rfl (rai rfl) ?_
  refine k_nc ?_
  refine k_ret ?_
  refine c_ret ?_
  refine fin1r (v := .int _ _) rfl rfl ?_
  exact ⟨rfl, H⟩
end Go.Proofs.Ytpbimgopiammaaa
end

section
namespace Go.Proofs.Ytpbimgopiammaaa
open Go.RowKit
set_option maxRecDepth 100000
set_option maxHeartbeats 4000000
theorem oGive (p b : Nat) (s : LdS) (N : Nat) (m a : Int) (w : World) (hE : Ents (ldE p b s) w) (hok : LdOk N s) (hN : N ≤ 1000) (ha : wfI a) :
  Calls Try.prog 15 [ptrL p, .int .i64 m, .int .i64 a].toArray w fun e w' => e = .returned (.tuple [.int .i64 (s.give m a).2.1, .int .i64 (s.give m a).2.2].toArray) ∧ Heap w (ids (ldE p b s)) (ldE p b (s.give m a).1) w' := by
 have H := Heap.start hE
 have hR := fun W => oRight m W
 unfold LdS.give
 by_cases hm : 0 ≤ m ∧ m < 4
 ·simp only [inM_t hm] at hR
  rw [if_neg (by omega)]
  have gd := gdE hm ha
  unfold ldE at H
  cases hg : mget s.L (m, a) with
  | none =>
   refine k_in (N := 45) Try.func15 rfl rfl rfl ?_
   refine k_sg ?_
   refine s_run rfl rfl (rai rfl) ?_
   refine s_run rfl rfl (rai rfl) ?_
   refine k_nc ?_
   refine k_seq ?_
   refine k_sg ?_
   refine s_run rfl rfl (rmi rfl) ?_
   refine s_call rfl (hR _) (ca39 rfl) ?_
   rintro e W1 ⟨rfl, H'⟩
   refine ⟨_, rfl, ?_⟩
   have H := H.same H'; clear H'
   refine s_run rfl rfl (r_notT rfl) ?_
   refine k_nc ?_
   refine k_f rfl ?_
   refine k_skip ?_
   refine c_norm ?_
   refine k_sg ?_
   refine s_run rfl rfl (rmi rfl) ?_
   refine s_run rfl rfl (rmi rfl) ?_
   refine s_run rfl rfl (r_bd (bd86_0_1 _ _) rfl) ?_
   refine s_al H rfl inf86 ?_
   intro p8 _ H'; clear H; have H := H'; clear H'
   refine s_sw H 0 rfl rfl rfl rfl rfl rfl rfl sz86 ?_
   clear H; intro _ H; simp only [jA, jB, jC, jD, jE, jF, jG, jH, jI, jJ, jK, Nat.reduceAdd] at H
   refine k_nc ?_
   refine k_seq ?_
   refine k_q mixed (by kernel_rfl) H ?_
   refine q_run rfl rfl (fun _ H => r_mv (v := .pointer _) rfl) ?_
   refine q_run rfl rfl (fun _ H => r_nc rfl) ?_
   refine q_run rfl rfl (fun _ H => r_fa0 rfl fo76_0) ?_
   refine q_run rfl rfl (fun _ H => r_lo H 1 rfl rfl rfl ag74) ?_
   refine q_run rfl rfl (fun _ H => r_la H 0 rfl rfl rfl ag86 sz86) ?_
   refine q_run rfl rfl (fun _ H => r_loN H 2 rfl rfl rfl (gd) (hg) Try.underlying74 (zv_of inf3)) ?_
   refine q_run rfl rfl (fun _ H => r_mv (v := .tuple _) rfl) ?_
   refine q_run rfl rfl (fun _ H => r_ext (v := .int _ _) rfl rfl) ?_
   refine q_run rfl rfl (fun _ H => r_ext (v := .bool _) rfl rfl) ?_
   refine q_run rfl rfl (fun _ H => r_as (v := .int _ _) rfl) ?_
   refine q_run rfl rfl (fun _ H => r_as (v := .bool _) rfl) ?_
   refine q_nil ?_
   intro _ H'; clear H; have H := H'; clear H'
   refine c_norm ?_
   refine k_seq ?_
   refine k_sg ?_
   refine s_run rfl rfl (rmb rfl) ?_
   refine s_run rfl rfl (r_notF rfl) ?_
   refine k_nc ?_
   refine k_t rfl ?_
   refine k_sg ?_
   refine s_run rfl rfl (rai rfl) ?_
   refine s_run rfl rfl (rai rfl) ?_
   refine k_nc ?_
   refine k_ret ?_
   refine c_ret ?_
   refine fin2r (v := .int _ _) (v2 := .int _ _) rfl rfl rfl ?_
   exact ⟨rfl, H.drop⟩
  | some n =>
   have hbm := hok.bd m hm.1 hm.2
   obtain ⟨j, hj, hd⟩ := mget_at hok.nd hg
   have hkn := hok.key _ (List.mem_of_getElem? hj)
   simp only at hkn
   have hhk := hok.h m hm.1 hm.2
   obtain ⟨k, rfl⟩ := Int.eq_ofNat_of_zero_le hm.1
   have hk : k < 4 := by omega
   refine k_in (N := 45) Try.func15 rfl rfl rfl ?_
   refine k_sg ?_
   refine s_run rfl rfl (rai rfl) ?_
   refine s_run rfl rfl (rai rfl) ?_
   refine k_nc ?_
   refine k_seq ?_
   refine k_sg ?_
   refine s_run rfl rfl (rmi rfl) ?_
   refine s_call rfl (hR _) (ca39 rfl) ?_
   rintro e W1 ⟨rfl, H'⟩
   refine ⟨_, rfl, ?_⟩
   have H := H.same H'; clear H'
   refine s_run rfl rfl (r_notT rfl) ?_
   refine k_nc ?_
   refine k_f rfl ?_
   refine k_skip ?_
   refine c_norm ?_
   refine k_sg ?_
   refine s_run rfl rfl (rmi rfl) ?_
   refine s_run rfl rfl (rmi rfl) ?_
   refine s_run rfl rfl (r_bd (bd86_0_1 _ _) rfl) ?_
   refine s_al H rfl inf86 ?_
   intro p8 _ H'; clear H; have H := H'; clear H'
   refine s_sw H 0 rfl rfl rfl rfl rfl rfl rfl sz86 ?_
   clear H; intro _ H; simp only [jA, jB, jC, jD, jE, jF, jG, jH, jI, jJ, jK, Nat.reduceAdd] at H
   refine k_nc ?_
   refine k_seq ?_
   refine k_q mixed (by kernel_rfl) H ?_
   refine q_run rfl rfl (fun _ H => r_mv (v := .pointer _) rfl) ?_
   refine q_run rfl rfl (fun _ H => r_nc rfl) ?_
   refine q_run rfl rfl (fun _ H => r_fa0 rfl fo76_0) ?_
   refine q_run rfl rfl (fun _ H => r_lo H 1 rfl rfl rfl ag74) ?_
   refine q_run rfl rfl (fun _ H => r_la H 0 rfl rfl rfl ag86 sz86) ?_
   refine q_run rfl rfl (fun _ H => r_loS H 2 rfl rfl rfl (gd) (hg) Try.underlying74 (zv_of inf3) rfl) ?_
   refine q_run rfl rfl (fun _ H => r_mv (v := .tuple _) rfl) ?_
   refine q_run rfl rfl (fun _ H => r_ext (v := .int _ _) rfl rfl) ?_
   refine q_run rfl rfl (fun _ H => r_ext (v := .bool _) rfl rfl) ?_
   refine q_run rfl rfl (fun _ H => r_as (v := .int _ _) rfl) ?_
   refine q_run rfl rfl (fun _ H => r_as (v := .bool _) rfl) ?_
   refine q_nil ?_
   intro _ H'; clear H; have H := H'; clear H'
   refine c_norm ?_
   refine k_seq ?_
   refine k_sg ?_
   refine s_run rfl rfl (rmb rfl) ?_
   refine s_run rfl rfl (r_notT rfl) ?_
   refine k_nc ?_
   refine k_f rfl ?_
   refine k_skip ?_
   refine c_norm ?_
   refine k_seq ?_
   refine k_qt 5 mixed (by kernel_rfl) H rfl rfl ?_
   refine q_run rfl rfl (fun _ H => r_mv (v := .pointer _) rfl) ?_
   refine q_run rfl rfl (fun _ H => r_nc rfl) ?_
   refine q_run rfl rfl (fun _ H => r_fa0 rfl fo76_0) ?_
   refine q_run rfl rfl (fun _ H => r_lo H 1 rfl rfl rfl ag74) ?_
   refine q_run rfl rfl (fun _ H => r_la H 0 rfl rfl rfl ag86 sz86) ?_
   refine q_nil ?_
   intro _ H'; clear H; have H := H'; clear H'
   refine s_dl H 2 rfl rfl rfl rfl (gd) Try.underlying74 ?_
   clear H; intro _ H; simp only [jA, jB, jC, jD, jE, jF, jG, jH, jI, jJ, jK, Nat.reduceAdd] at H
   refine k_nc ?_
   refine k_seq ?_
   refine k_qt 11 mixed (by kernel_rfl) H rfl rfl ?_
   refine q_run rfl rfl (fun _ H => r_mv (v := .pointer _) rfl) ?_
   refine q_run rfl rfl (fun _ H => r_mv (v := .int _ _) rfl) ?_
   refine q_run rfl rfl (fun _ H => r_nc rfl) ?_
   refine q_run rfl rfl (fun _ H => r_fa0 rfl fo76_2) ?_
   refine q_run rfl rfl (fun _ H => r_ia1 (i := k) rfl rfl (by omega) (by omega) Try.underlying29 sz3) ?_
   refine q_run rfl rfl (fun _ H => r_lo H 1 rfl rfl (gh hk) ag3) ?_
   refine q_run rfl rfl (fun _ H => r_mv (v := .int _ _) rfl) ?_
   refine q_run rfl rfl (fun _ H => r_sub rfl rfl (wI (by omega))) ?_
   refine q_run rfl rfl (fun _ H => r_nc rfl) ?_
   refine q_run rfl rfl (fun _ H => r_fa0 rfl fo76_2) ?_
   refine q_run rfl rfl (fun _ H => r_ia1 (i := k) rfl rfl (by omega) (by omega) Try.underlying29 sz3) ?_
   refine q_nil ?_
   intro _ H'; clear H; have H := H'; clear H'
   refine s_stC H 1 rfl rfl rfl rfl (gh hk) (sh hk) rfl sz3 ?_
   clear H; intro _ H; simp only [jA, jB, jC, jD, jE, jF, jG, jH, jI, jJ, jK, Nat.reduceAdd] at H
   refine k_nc ?_
   refine k_sg ?_
   refine s_run rfl rfl (rmi rfl) ?_
   refine s_run rfl rfl (rai rfl) ?_
   refine s_run rfl rfl (rai rfl) ?_
   refine k_nc ?_
   refine k_ret ?_
   refine fin2r (v := .int _ _) (v2 := .int _ _) rfl rfl rfl ?_
   exact ⟨rfl, H.drop⟩
 ·rw [if_pos (by omega)]
  simp only [inM_f (show m < 0 ∨ 4 ≤ m by omega)] at hR
  refine k_in (N := 45) Try.func15 rfl rfl rfl ?_
  refine k_sg ?_
  refine s_run rfl rfl (rai rfl) ?_
  refine s_run rfl rfl (rai rfl) ?_
  refine k_nc ?_
  refine k_seq ?_
  refine k_sg ?_
  refine s_run rfl rfl (rmi rfl) ?_
  refine s_call rfl (hR _) (ca39 rfl) ?_
  rintro e W1 ⟨rfl, H'⟩
  refine ⟨_, rfl, ?_⟩
  have H := H.same H'; clear H'
  refine s_run rfl rfl (r_notF rfl) ?_
  refine k_nc ?_
  refine k_t rfl ?_
  refine k_sg ?_
  refine s_run rfl rfl (rai rfl) ?_
  refine s_run rfl rfl (rai rfl) ?_
  refine k_nc ?_
  refine k_ret ?_
  refine c_ret ?_
  refine fin2r (v := .int _ _) (v2 := .int _ _) rfl rfl rfl ?_
  exact ⟨rfl, H⟩
theorem oPass (p b : Nat) (s : LdS) (N : Nat) (f t a : Int) (w : World) (hE : Ents (ldE p b s) w) (hok : LdOk N s) (hN : N ≤ 900) (ha : wfI a) :
  Calls Try.prog 14 [ptrL p, .int .i64 f, .int .i64 t, .int .i64 a].toArray w fun e w' => e = .returned (.int .i64 (s.pass f t a).2) ∧ Heap w (ids (ldE p b s)) (ldE p b (s.pass f t a).1) w' := by
 have H := Heap.start hE
 have hR := fun W => oRight f W
 have hR2 := fun W => oRight t W
 unfold LdS.pass
 by_cases hm : 0 ≤ f ∧ f < 4
 ·simp only [inM_t hm] at hR
  by_cases hm2 : 0 ≤ t ∧ t < 4
  ·simp only [inM_t hm2] at hR2
   rw [if_neg (by omega)]
   have gd := gdE hm ha
   cases hg : mget s.L (f, a) with
   | none =>
    unfold ldE at H
    refine k_in (N := 56) Try.func14 rfl rfl rfl ?_
    refine k_sg ?_
    refine s_run rfl rfl (rai rfl) ?_
    refine k_nc ?_
    refine k_seq ?_
    refine k_sg ?_
    refine s_run rfl rfl (rmi rfl) ?_
    refine s_call rfl (hR _) (ca39 rfl) ?_
    rintro e W1 ⟨rfl, H'⟩
    refine ⟨_, rfl, ?_⟩
    have H := H.same H'; clear H'
    refine s_run rfl rfl (r_notT rfl) ?_
    refine s_run rfl rfl (rmb rfl) ?_
    refine s_run rfl (g_on 17 (by kernel_rfl) rfl) (rmi rfl) ?_
    refine s_call (g_on 17 (by kernel_rfl) rfl) (hR2 _) (ca39 rfl) ?_
    rintro e W1 ⟨rfl, H'⟩
    refine ⟨_, rfl, ?_⟩
    have H := H.same H'; clear H'
    refine s_run rfl (g_on 17 (by kernel_rfl) rfl) (r_notT rfl) ?_
    refine s_run rfl rfl (r_pkF (v := .bool _) rfl rfl) ?_
    refine k_nc ?_
    refine k_f rfl ?_
    refine k_skip ?_
    refine c_norm ?_
    refine k_sg ?_
    refine s_run rfl rfl (rmp rfl) ?_
    refine s_run rfl rfl (r_nc rfl) ?_
    refine s_run rfl rfl (r_fa0 rfl fo76_0) ?_
    refine s_run rfl rfl (r_lo H 0 rfl rfl rfl ag74) ?_
    refine s_run rfl rfl (rmi rfl) ?_
    refine s_run rfl rfl (rmi rfl) ?_
    refine s_run rfl rfl (r_bd (bd86_0_1 _ _) rfl) ?_
    refine s_run rfl rfl (r_loN H 1 rfl rfl rfl (gd) (hg) Try.underlying74 (zv_of inf3)) ?_
    refine s_run rfl rfl (rmt rfl) ?_
    refine s_run rfl rfl (r_ext (v := .int _ _) rfl rfl) ?_
    refine s_run rfl rfl (r_ext (v := .bool _) rfl rfl) ?_
    refine s_run rfl rfl (rai rfl) ?_
    refine s_run rfl rfl (rab rfl) ?_
    refine k_nc ?_
    refine k_seq ?_
    refine k_b ?_
    refine k_sg ?_
    refine s_run rfl rfl (rmb rfl) ?_
    refine s_run rfl rfl (r_notF rfl) ?_
    refine s_run rfl rfl (rab rfl) ?_
    refine k_nc ?_
    refine k_t rfl ?_
    refine k_sg ?_
    refine s_run rfl rfl (rai rfl) ?_
    refine k_nc ?_
    refine k_ret ?_
    refine b_ret ?_
    refine c_ret ?_
    refine fin1r (v := .int _ _) rfl rfl ?_
    exact ⟨rfl, H⟩
   | some n =>
    simp only
    by_cases hft : f = t
    ·rw [if_pos hft]
     unfold ldE at H
     refine k_in (N := 56) Try.func14 rfl rfl rfl ?_
     refine k_sg ?_
     refine s_run rfl rfl (rai rfl) ?_
     refine k_nc ?_
     refine k_seq ?_
     refine k_sg ?_
     refine s_run rfl rfl (rmi rfl) ?_
     refine s_call rfl (hR _) (ca39 rfl) ?_
     rintro e W1 ⟨rfl, H'⟩
     refine ⟨_, rfl, ?_⟩
     have H := H.same H'; clear H'
     refine s_run rfl rfl (r_notT rfl) ?_
     refine s_run rfl rfl (rmb rfl) ?_
     refine s_run rfl (g_on 17 (by kernel_rfl) rfl) (rmi rfl) ?_
     refine s_call (g_on 17 (by kernel_rfl) rfl) (hR2 _) (ca39 rfl) ?_
     rintro e W1 ⟨rfl, H'⟩
     refine ⟨_, rfl, ?_⟩
     have H := H.same H'; clear H'
     refine s_run rfl (g_on 17 (by kernel_rfl) rfl) (r_notT rfl) ?_
     refine s_run rfl rfl (r_pkF (v := .bool _) rfl rfl) ?_
     refine k_nc ?_
     refine k_f rfl ?_
     refine k_skip ?_
     refine c_norm ?_
     refine k_sg ?_
     refine s_run rfl rfl (rmp rfl) ?_
     refine s_run rfl rfl (r_nc rfl) ?_
     refine s_run rfl rfl (r_fa0 rfl fo76_0) ?_
     refine s_run rfl rfl (r_lo H 0 rfl rfl rfl ag74) ?_
     refine s_run rfl rfl (rmi rfl) ?_
     refine s_run rfl rfl (rmi rfl) ?_
     refine s_run rfl rfl (r_bd (bd86_0_1 _ _) rfl) ?_
     refine s_run rfl rfl (r_loS H 1 rfl rfl rfl (gd) (hg) Try.underlying74 (zv_of inf3) rfl) ?_
     refine s_run rfl rfl (rmt rfl) ?_
     refine s_run rfl rfl (r_ext (v := .int _ _) rfl rfl) ?_
     refine s_run rfl rfl (r_ext (v := .bool _) rfl rfl) ?_
     refine s_run rfl rfl (rai rfl) ?_
     refine s_run rfl rfl (rab rfl) ?_
     refine k_nc ?_
     refine k_seq ?_
     refine k_b ?_
     refine k_sg ?_
     refine s_run rfl rfl (rmb rfl) ?_
     refine s_run rfl rfl (r_notT rfl) ?_
     refine s_run rfl rfl (rab rfl) ?_
     refine k_nc ?_
     refine k_f rfl ?_
     refine k_sg ?_
     refine s_run rfl rfl (rmi rfl) ?_
     refine s_run rfl rfl (rmi rfl) ?_
     refine s_run rfl rfl (r_eqlT rfl rfl (by omega)) ?_
     refine s_run rfl rfl (rab rfl) ?_
     refine k_nc ?_
     refine k_t rfl ?_
     refine k_sg ?_
     refine s_run rfl rfl (rai rfl) ?_
     refine k_nc ?_
     refine k_ret ?_
     refine b_ret ?_
     refine c_ret ?_
     refine fin1r (v := .int _ _) rfl rfl ?_
     exact ⟨rfl, H⟩
    ·rw [if_neg hft]
     have hT := fun {W : World} hE => oTake p b s N t a n W hE hok (by omega) ha
     have hok2 := hok.take t a n ha
     have hG := fun {W : World} hE => oGive p b (s.take t a n).1 (N + 1) f a W hE hok2 (by omega) ha
     by_cases hc : (s.take t a n).2 = 0
     ·rw [if_neg (by omega)]
      refine k_in (N := 56) Try.func14 rfl rfl rfl ?_
      refine k_sg ?_
      refine s_run rfl rfl (rai rfl) ?_
      refine k_nc ?_
      refine k_seq ?_
      refine k_sg ?_
      refine s_run rfl rfl (rmi rfl) ?_
      refine s_call rfl (hR _) (ca39 rfl) ?_
      rintro e W1 ⟨rfl, H'⟩
      refine ⟨_, rfl, ?_⟩
      have H := H.same H'; clear H'
      refine s_run rfl rfl (r_notT rfl) ?_
      refine s_run rfl rfl (rmb rfl) ?_
      refine s_run rfl (g_on 17 (by kernel_rfl) rfl) (rmi rfl) ?_
      refine s_call (g_on 17 (by kernel_rfl) rfl) (hR2 _) (ca39 rfl) ?_
      rintro e W1 ⟨rfl, H'⟩
      refine ⟨_, rfl, ?_⟩
      have H := H.same H'; clear H'
      refine s_run rfl (g_on 17 (by kernel_rfl) rfl) (r_notT rfl) ?_
      refine s_run rfl rfl (r_pkF (v := .bool _) rfl rfl) ?_
      refine k_nc ?_
      refine k_f rfl ?_
      refine k_skip ?_
      refine c_norm ?_
      refine k_sg ?_
      refine s_run rfl rfl (rmp rfl) ?_
      refine s_run rfl rfl (r_nc rfl) ?_
      refine s_run rfl rfl (r_fa0 rfl fo76_0) ?_
      refine s_run rfl rfl (r_lo H 0 rfl rfl rfl ag74) ?_
      refine s_run rfl rfl (rmi rfl) ?_
      refine s_run rfl rfl (rmi rfl) ?_
      refine s_run rfl rfl (r_bd (bd86_0_1 _ _) rfl) ?_
      refine s_run rfl rfl (r_loS H 1 rfl rfl rfl (gd) (hg) Try.underlying74 (zv_of inf3) rfl) ?_
      refine s_run rfl rfl (rmt rfl) ?_
      refine s_run rfl rfl (r_ext (v := .int _ _) rfl rfl) ?_
      refine s_run rfl rfl (r_ext (v := .bool _) rfl rfl) ?_
      refine s_run rfl rfl (rai rfl) ?_
      refine s_run rfl rfl (rab rfl) ?_
      refine k_nc ?_
      refine k_seq ?_
      refine k_b ?_
      refine k_sg ?_
      refine s_run rfl rfl (rmb rfl) ?_
      refine s_run rfl rfl (r_notT rfl) ?_
      refine s_run rfl rfl (rab rfl) ?_
      refine k_nc ?_
      refine k_f rfl ?_
      refine k_sg ?_
      refine s_run rfl rfl (rmi rfl) ?_
      refine s_run rfl rfl (rmi rfl) ?_
      refine s_run rfl rfl (r_eqlF rfl rfl (by omega)) ?_
      refine s_run rfl rfl (rab rfl) ?_
      refine k_nc ?_
      refine k_f rfl ?_
      refine k_skip ?_
      refine b_norm ?_
      refine c_norm ?_
      refine k_seq ?_
      refine k_sg ?_
      refine s_run rfl rfl (rmp rfl) ?_
      refine s_run rfl rfl (rmi rfl) ?_
      refine s_run rfl rfl (rmi rfl) ?_
      refine s_run rfl rfl (rmi rfl) ?_
      refine s_call rfl (hT H.ents) (ca16 rfl) ?_
      rintro e W1 ⟨rfl, H'⟩
      refine ⟨_, rfl, ?_⟩
      have H := H.whole H'; clear H'
      refine s_run rfl rfl (rai rfl) ?_
      refine k_nc ?_
      refine k_sg ?_
      refine s_run rfl rfl (rmi rfl) ?_
      refine s_run rfl rfl (r_neqF rfl rfl (by omega)) ?_
      refine k_nc ?_
      refine k_f rfl ?_
      refine k_skip ?_
      refine c_norm ?_
      refine k_sg ?_
      refine s_run rfl rfl (rmp rfl) ?_
      refine s_run rfl rfl (rmi rfl) ?_
      refine s_run rfl rfl (rmi rfl) ?_
      refine s_call rfl (hG H.ents) (ca15 rfl) ?_
      rintro e W1 ⟨rfl, H'⟩
      refine ⟨_, rfl, ?_⟩
      have H := H.whole H'; clear H'
      refine s_run rfl rfl (rmt rfl) ?_
      refine s_run rfl rfl (r_ext (v := .int _ _) rfl rfl) ?_
      refine s_run rfl rfl (r_ext (v := .int _ _) rfl rfl) ?_
      refine s_run rfl rfl (rai rfl) ?_
      refine s_run rfl rfl (rai rfl) ?_
      refine k_nc ?_
      refine k_sg ?_
      refine s_run rfl rfl (rmi rfl) ?_
      refine s_run rfl rfl (rai rfl) ?_
      refine k_nc ?_
      refine k_ret ?_
      refine fin1r (v := .int _ _) rfl rfl ?_
      exact ⟨rfl, H⟩
     ·rw [if_pos hc]
      have hsame : (s.take t a n).1 = s := by
       unfold LdS.take at hc ⊢
       split
       ·rfl
       ·rename_i h1
        rw [if_neg h1] at hc
        split
        ·rfl
        ·rename_i h2
         rw [if_neg h2] at hc
         split
         ·rfl
         ·rename_i h3
          rw [if_neg h3] at hc
          simp at hc
      rw [hsame] at hT
      refine k_in (N := 56) Try.func14 rfl rfl rfl ?_
      refine k_sg ?_
      refine s_run rfl rfl (rai rfl) ?_
      refine k_nc ?_
      refine k_seq ?_
      refine k_sg ?_
      refine s_run rfl rfl (rmi rfl) ?_
      refine s_call rfl (hR _) (ca39 rfl) ?_
      rintro e W1 ⟨rfl, H'⟩
      refine ⟨_, rfl, ?_⟩
      have H := H.same H'; clear H'
      refine s_run rfl rfl (r_notT rfl) ?_
      refine s_run rfl rfl (rmb rfl) ?_
      refine s_run rfl (g_on 17 (by kernel_rfl) rfl) (rmi rfl) ?_
      refine s_call (g_on 17 (by kernel_rfl) rfl) (hR2 _) (ca39 rfl) ?_
      rintro e W1 ⟨rfl, H'⟩
      refine ⟨_, rfl, ?_⟩
      have H := H.same H'; clear H'
      refine s_run rfl (g_on 17 (by kernel_rfl) rfl) (r_notT rfl) ?_
      refine s_run rfl rfl (r_pkF (v := .bool _) rfl rfl) ?_
      refine k_nc ?_
      refine k_f rfl ?_
      refine k_skip ?_
      refine c_norm ?_
      refine k_sg ?_
      refine s_run rfl rfl (rmp rfl) ?_
      refine s_run rfl rfl (r_nc rfl) ?_
      refine s_run rfl rfl (r_fa0 rfl fo76_0) ?_
      refine s_run rfl rfl (r_lo H 0 rfl rfl rfl ag74) ?_
      refine s_run rfl rfl (rmi rfl) ?_
      refine s_run rfl rfl (rmi rfl) ?_
      refine s_run rfl rfl (r_bd (bd86_0_1 _ _) rfl) ?_
      refine s_run rfl rfl (r_loS H 1 rfl rfl rfl (gd) (hg) Try.underlying74 (zv_of inf3) rfl) ?_
      refine s_run rfl rfl (rmt rfl) ?_
      refine s_run rfl rfl (r_ext (v := .int _ _) rfl rfl) ?_
      refine s_run rfl rfl (r_ext (v := .bool _) rfl rfl) ?_
      refine s_run rfl rfl (rai rfl) ?_
      refine s_run rfl rfl (rab rfl) ?_
      refine k_nc ?_
      refine k_seq ?_
      refine k_b ?_
      refine k_sg ?_
      refine s_run rfl rfl (rmb rfl) ?_
      refine s_run rfl rfl (r_notT rfl) ?_
      refine s_run rfl rfl (rab rfl) ?_
      refine k_nc ?_
      refine k_f rfl ?_
      refine k_sg ?_
      refine s_run rfl rfl (rmi rfl) ?_
      refine s_run rfl rfl (rmi rfl) ?_
      refine s_run rfl rfl (r_eqlF rfl rfl (by omega)) ?_
      refine s_run rfl rfl (rab rfl) ?_
      refine k_nc ?_
      refine k_f rfl ?_
      refine k_skip ?_
      refine b_norm ?_
      refine c_norm ?_
      refine k_seq ?_
      refine k_sg ?_
      refine s_run rfl rfl (rmp rfl) ?_
      refine s_run rfl rfl (rmi rfl) ?_
      refine s_run rfl rfl (rmi rfl) ?_
      refine s_run rfl rfl (rmi rfl) ?_
      refine s_call rfl (hT H.ents) (ca16 rfl) ?_
      rintro e W1 ⟨rfl, H'⟩
      refine ⟨_, rfl, ?_⟩
      have H := H.whole H'; clear H'
      refine s_run rfl rfl (rai rfl) ?_
      refine k_nc ?_
      refine k_sg ?_
      refine s_run rfl rfl (rmi rfl) ?_
      refine s_run rfl rfl (r_neqT rfl rfl (by omega)) ?_
      refine k_nc ?_
      refine k_t rfl ?_
      refine k_sg ?_
      refine s_run rfl rfl (rmi rfl) ?_
      refine s_run rfl rfl (rai rfl) ?_
      refine k_nc ?_
      refine k_ret ?_
      refine c_ret ?_
      refine fin1r (v := .int _ _) rfl rfl ?_
      exact ⟨rfl, H⟩
  ·simp only [inM_f (show t < 0 ∨ 4 ≤ t by omega)] at hR2
   rw [if_pos (by omega)]
   refine k_in (N := 56) Try.func14 rfl rfl rfl ?_
   refine k_sg ?_
   refine s_run rfl rfl (rai rfl) ?_
   refine k_nc ?_
   refine k_seq ?_
   refine k_sg ?_
   refine s_run rfl rfl (rmi rfl) ?_
   refine s_call rfl (hR _) (ca39 rfl) ?_
   rintro e W1 ⟨rfl, H'⟩
   refine ⟨_, rfl, ?_⟩
   have H := H.same H'; clear H'
   refine s_run rfl rfl (r_notT rfl) ?_
   refine s_run rfl rfl (rmb rfl) ?_
   refine s_run rfl (g_on 17 (by kernel_rfl) rfl) (rmi rfl) ?_
   refine s_call (g_on 17 (by kernel_rfl) rfl) (hR2 _) (ca39 rfl) ?_
   rintro e W1 ⟨rfl, H'⟩
   refine ⟨_, rfl, ?_⟩
   have H := H.same H'; clear H'
   refine s_run rfl (g_on 17 (by kernel_rfl) rfl) (r_notF rfl) ?_
   refine s_run rfl rfl (r_pkF (v := .bool _) rfl rfl) ?_
   refine k_nc ?_
   refine k_t rfl ?_
   refine k_sg ?_
   refine s_run rfl rfl (rai rfl) ?_
   refine k_nc ?_
   refine k_ret ?_
   refine c_ret ?_
   refine fin1r (v := .int _ _) rfl rfl ?_
   exact ⟨rfl, H⟩
 ·rw [if_pos (by omega)]
  simp only [inM_f (show f < 0 ∨ 4 ≤ f by omega)] at hR
  refine k_in (N := 56) Try.func14 rfl rfl rfl ?_
  refine k_sg ?_
  refine s_run rfl rfl (rai rfl) ?_
  refine k_nc ?_
  refine k_seq ?_
  refine k_sg ?_
  refine s_run rfl rfl (rmi rfl) ?_
  refine s_call rfl (hR _) (ca39 rfl) ?_
  rintro e W1 ⟨rfl, H'⟩
  refine ⟨_, rfl, ?_⟩
  have H := H.same H'; clear H'
  refine s_run rfl rfl (r_notF rfl) ?_
  refine s_run rfl rfl (rmb rfl) ?_
  refine s_off rfl (g_off 17 (by kernel_rfl) rfl rfl) ?_
  refine s_off rfl (g_off 17 (by kernel_rfl) rfl rfl) ?_
  refine s_off rfl (g_off 17 (by kernel_rfl) rfl rfl) ?_
  refine s_run rfl rfl (r_pkT (v := .bool _) rfl rfl) ?_
  refine k_nc ?_
  refine k_t rfl ?_
  refine k_sg ?_
  refine s_run rfl rfl (rai rfl) ?_
  refine k_nc ?_
  refine k_ret ?_
  refine c_ret ?_
  refine fin1r (v := .int _ _) rfl rfl ?_
  exact ⟨rfl, H⟩
def getM (g : Int → Int) (m : Int) : Int := if 0 ≤ m ∧ m < 4 then g m else 0
theorem oHeld (p b : Nat) (s : LdS) (m : Int) (w : World) (hE : Ents (ldE p b s) w) :
  Calls Try.prog 12 [ptrL p, .int .i64 m].toArray w fun e w' => e = .returned (.int .i64 (getM s.h m)) ∧ Only [] w w' := by
 have HR := Heap.start hE
 have H := Heap.nil w
 have hR := fun W => oRight m W
 unfold getM
 unfold ldE at HR
 by_cases hm : 0 ≤ m ∧ m < 4
 ·simp only [inM_t hm] at hR
  rw [if_pos hm]
  obtain ⟨k, rfl⟩ := Int.eq_ofNat_of_zero_le hm.1
  have hk : k < 4 := by omega
  refine k_in (N := 14) Try.func12 rfl rfl rfl ?_
  refine k_sg ?_
  refine s_run rfl rfl (rai rfl) ?_
  refine k_nc ?_
  refine k_seq ?_
  refine k_sg ?_
  refine s_run rfl rfl (rmi rfl) ?_
  refine s_call rfl (hR _) (ca39 rfl) ?_
  rintro e W1 ⟨rfl, H'⟩
  refine ⟨_, rfl, ?_⟩
  have H := H.same H'; clear H'
  refine s_run rfl rfl (r_notT rfl) ?_
  refine k_nc ?_
  refine k_f rfl ?_
  refine k_skip ?_
  refine c_norm ?_
  refine k_sg ?_
  refine s_run rfl rfl (rmp rfl) ?_
  refine s_run rfl rfl (rmi rfl) ?_
  refine s_run rfl rfl (r_nc rfl) ?_
  refine s_run rfl rfl (r_fa0 rfl fo76_2) ?_
  refine s_run rfl rfl (r_ia1 (i := k) rfl rfl (by omega) (by omega) Try.underlying29 sz3) ?_
  refine s_run rfl rfl (r_lo (HR.same H.only) 0 rfl rfl (gh hk) ag3) ?_
  refine s_run rfl rfl (rai rfl) ?_
  refine k_nc ?_
  refine k_ret ?_
  refine fin1r (v := .int _ _) rfl rfl ?_
  exact ⟨rfl, H.only⟩
 ·rw [if_neg hm]
  simp only [inM_f (show m < 0 ∨ 4 ≤ m by omega)] at hR
  refine k_in (N := 14) Try.func12 rfl rfl rfl ?_
  refine k_sg ?_
  refine s_run rfl rfl (rai rfl) ?_
  refine k_nc ?_
  refine k_seq ?_
  refine k_sg ?_
  refine s_run rfl rfl (rmi rfl) ?_
  refine s_call rfl (hR _) (ca39 rfl) ?_
  rintro e W1 ⟨rfl, H'⟩
  refine ⟨_, rfl, ?_⟩
  have H := H.same H'; clear H'
  refine s_run rfl rfl (r_notF rfl) ?_
  refine k_nc ?_
  refine k_t rfl ?_
  refine k_sg ?_
  refine s_run rfl rfl (rai rfl) ?_
  refine k_nc ?_
  refine k_ret ?_
  refine c_ret ?_
  refine fin1r (v := .int _ _) rfl rfl ?_
  exact ⟨rfl, H.only⟩
theorem oPeak (p b : Nat) (s : LdS) (m : Int) (w : World) (hE : Ents (ldE p b s) w) :
  Calls Try.prog 49 [ptrL p, .int .i64 m].toArray w fun e w' => e = .returned (.int .i64 (getM s.pk m)) ∧ Only [] w w' := by
 have HR := Heap.start hE
 have H := Heap.nil w
 have hR := fun W => oRight m W
 unfold getM
 unfold ldE at HR
 by_cases hm : 0 ≤ m ∧ m < 4
 ·simp only [inM_t hm] at hR
  rw [if_pos hm]
  obtain ⟨k, rfl⟩ := Int.eq_ofNat_of_zero_le hm.1
  have hk : k < 4 := by omega
  refine k_in (N := 14) Try.func49 rfl rfl rfl ?_
  refine k_sg ?_
  refine s_run rfl rfl (rai rfl) ?_
  refine k_nc ?_
  refine k_seq ?_
  refine k_sg ?_
  refine s_run rfl rfl (rmi rfl) ?_
  refine s_call rfl (hR _) (ca39 rfl) ?_
  rintro e W1 ⟨rfl, H'⟩
  refine ⟨_, rfl, ?_⟩
  have H := H.same H'; clear H'
  refine s_run rfl rfl (r_notT rfl) ?_
  refine k_nc ?_
  refine k_f rfl ?_
  refine k_skip ?_
  refine c_norm ?_
  refine k_sg ?_
  refine s_run rfl rfl (rmp rfl) ?_
  refine s_run rfl rfl (rmi rfl) ?_
  refine s_run rfl rfl (r_nc rfl) ?_
  refine s_run rfl rfl (r_fa0 rfl fo76_3) ?_
  refine s_run rfl rfl (r_ia1 (i := k) rfl rfl (by omega) (by omega) Try.underlying29 sz3) ?_
  refine s_run rfl rfl (r_lo (HR.same H.only) 0 rfl rfl (gp hk) ag3) ?_
  refine s_run rfl rfl (rai rfl) ?_
  refine k_nc ?_
  refine k_ret ?_
  refine fin1r (v := .int _ _) rfl rfl ?_
  exact ⟨rfl, H.only⟩
 ·rw [if_neg hm]
  simp only [inM_f (show m < 0 ∨ 4 ≤ m by omega)] at hR
  refine k_in (N := 14) Try.func49 rfl rfl rfl ?_
  refine k_sg ?_
  refine s_run rfl rfl (rai rfl) ?_
  refine k_nc ?_
  refine k_seq ?_
  refine k_sg ?_
  refine s_run rfl rfl (rmi rfl) ?_
  refine s_call rfl (hR _) (ca39 rfl) ?_
  rintro e W1 ⟨rfl, H'⟩
  refine ⟨_, rfl, ?_⟩
  have H := H.same H'; clear H'
  refine s_run rfl rfl (r_notF rfl) ?_
  refine k_nc ?_
  refine k_t rfl ?_
  refine k_sg ?_
  refine s_run rfl rfl (rai rfl) ?_
  refine k_nc ?_
  refine k_ret ?_
  refine c_ret ?_
  refine fin1r (v := .int _ _) rfl rfl ?_
  exact ⟨rfl, H.only⟩
theorem oTaken (p b : Nat) (s : LdS) (m : Int) (w : World) (hE : Ents (ldE p b s) w) :
  Calls Try.prog 50 [ptrL p, .int .i64 m].toArray w fun e w' => e = .returned (.int .i64 (getM s.tk m)) ∧ Only [] w w' := by
 have HR := Heap.start hE
 have H := Heap.nil w
 have hR := fun W => oRight m W
 unfold getM
 unfold ldE at HR
 by_cases hm : 0 ≤ m ∧ m < 4
 ·simp only [inM_t hm] at hR
  rw [if_pos hm]
  obtain ⟨k, rfl⟩ := Int.eq_ofNat_of_zero_le hm.1
  have hk : k < 4 := by omega
  refine k_in (N := 14) Try.func50 rfl rfl rfl ?_
  refine k_sg ?_
  refine s_run rfl rfl (rai rfl) ?_
  refine k_nc ?_
  refine k_seq ?_
  refine k_sg ?_
  refine s_run rfl rfl (rmi rfl) ?_
  refine s_call rfl (hR _) (ca39 rfl) ?_
  rintro e W1 ⟨rfl, H'⟩
  refine ⟨_, rfl, ?_⟩
  have H := H.same H'; clear H'
  refine s_run rfl rfl (r_notT rfl) ?_
  refine k_nc ?_
  refine k_f rfl ?_
  refine k_skip ?_
  refine c_norm ?_
  refine k_sg ?_
  refine s_run rfl rfl (rmp rfl) ?_
  refine s_run rfl rfl (rmi rfl) ?_
  refine s_run rfl rfl (r_nc rfl) ?_
  refine s_run rfl rfl (r_fa0 rfl fo76_4) ?_
  refine s_run rfl rfl (r_ia1 (i := k) rfl rfl (by omega) (by omega) Try.underlying29 sz3) ?_
  refine s_run rfl rfl (r_lo (HR.same H.only) 0 rfl rfl (gt hk) ag3) ?_
  refine s_run rfl rfl (rai rfl) ?_
  refine k_nc ?_
  refine k_ret ?_
  refine fin1r (v := .int _ _) rfl rfl ?_
  exact ⟨rfl, H.only⟩
 ·rw [if_neg hm]
  simp only [inM_f (show m < 0 ∨ 4 ≤ m by omega)] at hR
  refine k_in (N := 14) Try.func50 rfl rfl rfl ?_
  refine k_sg ?_
  refine s_run rfl rfl (rai rfl) ?_
  refine k_nc ?_
  refine k_seq ?_
  refine k_sg ?_
  refine s_run rfl rfl (rmi rfl) ?_
  refine s_call rfl (hR _) (ca39 rfl) ?_
  rintro e W1 ⟨rfl, H'⟩
  refine ⟨_, rfl, ?_⟩
  have H := H.same H'; clear H'
  refine s_run rfl rfl (r_notF rfl) ?_
  refine k_nc ?_
  refine k_t rfl ?_
  refine k_sg ?_
  refine s_run rfl rfl (rai rfl) ?_
  refine k_nc ?_
  refine k_ret ?_
  refine c_ret ?_
  refine fin1r (v := .int _ _) rfl rfl ?_
  exact ⟨rfl, H.only⟩
def LdS.room (s : LdS) (m : Int) : Int := if 0 ≤ m ∧ m < 4 ∧ 0 ≤ s.q m then s.q m - s.h m else -1
theorem oRoom (p b : Nat) (s : LdS) (N : Nat) (m : Int) (w : World) (hE : Ents (ldE p b s) w) (hok : LdOk N s) (hN : N ≤ 1000) :
  Calls Try.prog 51 [ptrL p, .int .i64 m].toArray w fun e w' => e = .returned (.int .i64 (s.room m)) ∧ Only [] w w' := by
 have HR := Heap.start hE
 have H := Heap.nil w
 have hR := fun W => oRight m W
 unfold LdS.room
 unfold ldE at HR
 by_cases hm : 0 ≤ m ∧ m < 4
 ·simp only [inM_t hm] at hR
  have hbm := hok.bd m hm.1 hm.2
  obtain ⟨hq1, hq2, hq3⟩ := hok.q m hm.1 hm.2
  obtain ⟨k, rfl⟩ := Int.eq_ofNat_of_zero_le hm.1
  have hk : k < 4 := by omega
  by_cases hq : 0 ≤ s.q k
  ·rw [if_pos ⟨hm.1, hm.2, hq⟩]
   refine k_in (N := 30) Try.func51 rfl rfl rfl ?_
   refine k_sg ?_
   refine s_run rfl rfl (rai rfl) ?_
   refine k_nc ?_
   refine k_seq ?_
   refine k_sg ?_
   refine s_run rfl rfl (rmi rfl) ?_
   refine s_call rfl (hR _) (ca39 rfl) ?_
   rintro e W1 ⟨rfl, H'⟩
   refine ⟨_, rfl, ?_⟩
   have H := H.same H'; clear H'
   refine s_run rfl rfl (r_notT rfl) ?_
   refine s_run rfl rfl (rmb rfl) ?_
   refine s_run rfl (g_on 8 (by kernel_rfl) rfl) (rmp rfl) ?_
   refine s_run rfl (g_on 8 (by kernel_rfl) rfl) (rmi rfl) ?_
   refine s_run rfl (g_on 8 (by kernel_rfl) rfl) (r_nc rfl) ?_
   refine s_run rfl (g_on 8 (by kernel_rfl) rfl) (r_fa0 rfl fo76_1) ?_
   refine s_run rfl (g_on 8 (by kernel_rfl) rfl) (r_ia1 (i := k) rfl rfl (by omega) (by omega) Try.underlying29 sz3) ?_
   refine s_run rfl (g_on 8 (by kernel_rfl) rfl) (r_lo (HR.same H.only) 0 rfl rfl (gq hk) ag3) ?_
   refine s_run rfl (g_on 8 (by kernel_rfl) rfl) (r_lssF rfl rfl (by omega)) ?_
   refine s_run rfl rfl (r_pkF (v := .bool _) rfl rfl) ?_
   refine k_nc ?_
   refine k_f rfl ?_
   refine k_skip ?_
   refine c_norm ?_
   refine k_seq ?_
   refine k_q mixed (by kernel_rfl) H ?_
   refine q_run rfl rfl (fun _ H => r_mv (v := .pointer _) rfl) ?_
   refine q_run rfl rfl (fun _ H => r_mv (v := .int _ _) rfl) ?_
   refine q_run rfl rfl (fun _ H => r_nc rfl) ?_
   refine q_run rfl rfl (fun _ H => r_fa0 rfl fo76_1) ?_
   refine q_run rfl rfl (fun _ H => r_ia1 (i := k) rfl rfl (by omega) (by omega) Try.underlying29 sz3) ?_
   refine q_run rfl rfl (fun _ H => r_lo (HR.same H.only) 0 rfl rfl (gq hk) ag3) ?_
   refine q_run rfl rfl (fun _ H => r_mv (v := .pointer _) rfl) ?_
   refine q_run rfl rfl (fun _ H => r_mv (v := .int _ _) rfl) ?_
   refine q_run rfl rfl (fun _ H => r_nc rfl) ?_
   refine q_run rfl rfl (fun _ H => r_fa0 rfl fo76_2) ?_
   refine q_run rfl rfl (fun _ H => r_ia1 (i := k) rfl rfl (by omega) (by omega) Try.underlying29 sz3) ?_
   refine q_run rfl rfl (fun _ H => r_lo (HR.same H.only) 0 rfl rfl (gh hk) ag3) ?_
   refine q_run rfl rfl (fun _ H => r_sub rfl rfl (wI (by omega))) ?_
   refine q_run rfl rfl (fun _ H => r_as (v := .int _ _) rfl) ?_
   refine q_nil ?_
   intro _ H'; clear H; have H := H'; clear H'
   refine c_norm ?_
   refine k_ret ?_
   refine fin1r (v := .int _ _) rfl rfl ?_
   exact ⟨rfl, H.only⟩
  ·rw [if_neg (by omega)]
   refine k_in (N := 30) Try.func51 rfl rfl rfl ?_
   refine k_sg ?_
   refine s_run rfl rfl (rai rfl) ?_
   refine k_nc ?_
   refine k_seq ?_
   refine k_sg ?_
   refine s_run rfl rfl (rmi rfl) ?_
   refine s_call rfl (hR _) (ca39 rfl) ?_
   rintro e W1 ⟨rfl, H'⟩
   refine ⟨_, rfl, ?_⟩
   have H := H.same H'; clear H'
   refine s_run rfl rfl (r_notT rfl) ?_
   refine s_run rfl rfl (rmb rfl) ?_
   refine s_run rfl (g_on 8 (by kernel_rfl) rfl) (rmp rfl) ?_
   refine s_run rfl (g_on 8 (by kernel_rfl) rfl) (rmi rfl) ?_
   refine s_run rfl (g_on 8 (by kernel_rfl) rfl) (r_nc rfl) ?_
   refine s_run rfl (g_on 8 (by kernel_rfl) rfl) (r_fa0 rfl fo76_1) ?_
   refine s_run rfl (g_on 8 (by kernel_rfl) rfl) (r_ia1 (i := k) rfl rfl (by omega) (by omega) Try.underlying29 sz3) ?_
   refine s_run rfl (g_on 8 (by kernel_rfl) rfl) (r_lo (HR.same H.only) 0 rfl rfl (gq hk) ag3) ?_
   refine s_run rfl (g_on 8 (by kernel_rfl) rfl) (r_lssT rfl rfl (by omega)) ?_
   refine s_run rfl rfl (r_pkF (v := .bool _) rfl rfl) ?_
   refine k_nc ?_
   refine k_t rfl ?_
   refine k_sg ?_
   refine s_run rfl rfl (rai rfl) ?_
   refine k_nc ?_
   refine k_ret ?_
   refine c_ret ?_
   refine fin1r (v := .int _ _) rfl rfl ?_
   exact ⟨rfl, H.only⟩
 ·rw [if_neg (by omega)]
  simp only [inM_f (show m < 0 ∨ 4 ≤ m by omega)] at hR
  refine k_in (N := 30) Try.func51 rfl rfl rfl ?_
  refine k_sg ?_
  refine s_run rfl rfl (rai rfl) ?_
  refine k_nc ?_
  refine k_seq ?_
  refine k_sg ?_
  refine s_run rfl rfl (rmi rfl) ?_
  refine s_call rfl (hR _) (ca39 rfl) ?_
  rintro e W1 ⟨rfl, H'⟩
  refine ⟨_, rfl, ?_⟩
  have H := H.same H'; clear H'
  refine s_run rfl rfl (r_notF rfl) ?_
  refine s_run rfl rfl (rmb rfl) ?_
  refine s_off rfl (g_off 8 (by kernel_rfl) rfl rfl) ?_
  refine s_off rfl (g_off 8 (by kernel_rfl) rfl rfl) ?_
  refine s_off rfl (g_off 8 (by kernel_rfl) rfl rfl) ?_
  refine s_off rfl (g_off 8 (by kernel_rfl) rfl rfl) ?_
  refine s_off rfl (g_off 8 (by kernel_rfl) rfl rfl) ?_
  refine s_off rfl (g_off 8 (by kernel_rfl) rfl rfl) ?_
  refine s_off rfl (g_off 8 (by kernel_rfl) rfl rfl) ?_
  refine s_run rfl rfl (r_pkT (v := .bool _) rfl rfl) ?_
  refine k_nc ?_
  refine k_t rfl ?_
  refine k_sg ?_
  refine s_run rfl rfl (rai rfl) ?_
  refine k_nc ?_
  refine k_ret ?_
  refine c_ret ?_
  refine fin1r (v := .int _ _) rfl rfl ?_
  exact ⟨rfl, H.only⟩
end Go.Proofs.Ytpbimgopiammaaa
end
