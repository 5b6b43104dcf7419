/- Parts of the proof, one behind the other. -/
import Derived.Shelf.Sort.Plain
import Derived.Shelf.Slices.In.SortNone
import Derived.Sort.OwnSortedInts
import Derived.DeepKeys4
import Derived.WideKeyEntry
import Derived.Test.YtlakbclnilakbaaKFreePlaysa
set_option linter.unusedSimpArgs false
set_option linter.unusedVariables false
set_option linter.unusedSectionVars false
section
namespace Go.Proofs.Ytlakbclnilakbaa
open Go.RowKit Go.MapKept
open Go.Maps (Keyed)
open Go.ChangeMaps (setBlock)
section
variable {P : Program} {kt : TypeId} {α β : Type}
/-- a map -/
def mp (C : KC P kt α) (venc : β → Value) (b : Nat) (l : List (α × β)) : Ent :=
 ⟨[b], fun W => ∃ es clock, W.heap[b]? = some (.map es clock) ∧ MapOk C venc es clock l, by
  rintro W ⟨es, clock, h, _⟩ i hi
  rw [List.mem_singleton.1 hi]; exact arr_lt h, by
  rintro W W' h ⟨es, clock, hb, hk⟩
  exact ⟨es, clock, by rw [h b (by simp)]; exact hb, hk⟩⟩
end
theorem only_sb (W : World) (b : Nat) (o : Obj) : Only [b] W (setBlock W b o) :=
 ⟨rfl, rfl, rfl, by simp [setBlock], fun i _ hi => by
  have : b ≠ i := fun e => hi (by rw [e]; simp)
  simp [setBlock, Array.getElem?_setIfInBounds, this]⟩
theorem set_at (W : World) (b : Nat) (o o1 : Obj) (h : W.heap[b]? = some o1) : (setBlock W b o).heap[b]? = some o := by
 have := arr_lt h
 simp [setBlock, Array.getElem?_setIfInBounds, this]
section
variable {P : Program} {kt : TypeId} {α β : Type} [DecidableEq α] {C : KC P kt α} {venc : β → Value} {b r : Nat} {l : List (α × β)} {lb : List ((α × β) × Bool)} {cur : Option (α × β)} {W w0 : World} {F : List Nat} {L : List Ent}
theorem Heap.mp_get (H : Heap w0 F L W) (j : Nat) (hj : L[j]? = some (mp C venc b l)) : ∃ es clock, W.heap[b]? = some (.map es clock) ∧ MapOk C venc es clock l := H.ok _ (List.mem_of_getElem? hj)
theorem Heap.mp_set (H : Heap w0 F L W) (j : Nat) (hj : L[j]? = some (mp C venc b l)) {es : Array MapEntry} {clock : Nat} {l' : List (α × β)} (hk : MapOk C venc es clock l') : Heap w0 F (L.set j (mp C venc b l')) (setBlock W b (.map es clock)) := by
 obtain ⟨es0, clock0, hb, _⟩ := H.mp_get j hj
 refine H.at j hj (F' := [b]) ⟨?_, by simp [ids, mp], by simp [ids, mp], only_sb W b _⟩ (by simp [mp])
 intro E hE
 rw [List.mem_singleton.1 hE]
 exact ⟨es, clock, set_at W b _ _ hb, hk⟩
end
section
variable {P : Program} {ops : Array Oper} {rest : List Oper} {n : Sz} {k : Nat} {f : Nat → Value} {W W' w0 : World} {F : List Nat} {L : List Ent} {Q : Exit → Act → World → Prop} {ty : TypeId} {pos : String} {af : Array Edge} {g : Option (Nat × Bool)} {dst : Option Tmp} {x y u : Operand} {v z : Value} {t e kt : TypeId}
variable {α β : Type} [DecidableEq α] {C : KC P kt α} {venc : β → Value} {b r : Nat} {l : List (α × β)} {lb : List ((α × β) × Bool)} {cur : Option (α × β)} {a : α} {q : β}
theorem s_dv {o : Oper} (hd : o.dst = none) (hw : Region.wanted o (yl n f ops) = true) (hr : (execOp (ev n f) o).run P W = .ok (.value v) W') (h : SL P ops Q rest n f W') : SL P ops Q (o :: rest) n f W := by
 have hy : yielded ops (Fn n f).tmps = yl n f ops := funext (yl_eq n f ops)
 have hr' : (execOp (Fn n f).eval o).run P W = .ok (.value v) W' := by rw [Fn_eval]; exact hr
 refine ⟨?_, fun l0 m => ?_⟩
 ·unfold wpList
  rw [hy, if_pos hw]
  refine .inl ?_
  unfold Oper.wp
  rw [hr', Oper.upon_value, hd]
  exact h.out
 ·unfold wpListIn
  rw [hy, if_pos hw]
  refine inr_step hr' (fun d => by intro e; cases e) ?_
  rw [Oper.uponIn_value, hd]
  exact h.inr l0 m
/-- make(map[K]V) -/
theorem s_mm (C : KC P kt α) (venc : β → Value) (H : Heap w0 F L W) (hw : Region.wanted ⟨some k, .makeMap t none, ty, pos, af, g⟩ (yl n f ops) = true)
  (h : ∀ b W', Heap w0 F (mp C venc b ([] : List (α × β)) :: L) W' → SL P ops Q rest n (upd f k (.map (some b))) W') : SL P ops Q (⟨some k, .makeMap t none, ty, pos, af, g⟩ :: rest) n f W := by
 refine s_run rfl hw (W' := W.alloc (.map #[] 0)) rfl (h _ _ (H.more (A := [mp C venc W.heap.size []]) ⟨?_, by simp [ids, mp], by simp [ids, mp], ?_⟩))
 ·intro E hE
  rw [List.mem_singleton.1 hE]
  exact ⟨#[], 0, heap_alloc_new W _, MapOk.nil⟩
 ·exact Only.of_below ((Below.refl _ _).alloc (Nat.le_refl _) _) _
/-- m[a] -/
theorem r_lk (H : Heap w0 F L W) (j : Nat) (hj : L[j]? = some (mp C venc b l)) (hx : ev n f x = .map (some b)) (hy : ev n f y = C.enc a) (ga : C.Gd a) (ht : P.underlying t = some (.map kt e)) (hz : ∀ W, (zeroValue e).run P W = .ok z W) (ok : Bool) :
  (execOp (ev n f) ⟨dst, .lookup t x y ok, ty, pos, af, g⟩).run P W = .ok (.value (if ok then .tuple #[((mget l a).map venc).getD z, .bool (mget l a).isSome] else ((mget l a).map venc).getD z)) W := by
 obtain ⟨es, clock, hb, hk⟩ := H.mp_get j hj
 have h := hk.look ht (hz W) hb a ga ok
 simp only [execOp, hx, hy, Sem.run_bind, h, Result.andThen_ok, Sem.run_pure]
theorem r_lkS (H : Heap w0 F L W) (j : Nat) (hj : L[j]? = some (mp C venc b l)) (hx : ev n f x = .map (some b)) (hy : ev n f y = C.enc a) (ga : C.Gd a) (hm : mget l a = some q) (ht : P.underlying t = some (.map kt e)) (hz : ∀ W, (zeroValue e).run P W = .ok z W) (hv : venc q = v) :
  (execOp (ev n f) ⟨dst, .lookup t x y false, ty, pos, af, g⟩).run P W = .ok (.value v) W := by
 have h := r_lk (dst := dst) (ty := ty) (pos := pos) (af := af) (g := g) H j hj hx hy ga ht hz false
 rw [h, hm, ← hv]; rfl
theorem r_lkN (H : Heap w0 F L W) (j : Nat) (hj : L[j]? = some (mp C venc b l)) (hx : ev n f x = .map (some b)) (hy : ev n f y = C.enc a) (ga : C.Gd a) (hm : mget l a = none) (ht : P.underlying t = some (.map kt e)) (hz : ∀ W, (zeroValue e).run P W = .ok z W) :
  (execOp (ev n f) ⟨dst, .lookup t x y false, ty, pos, af, g⟩).run P W = .ok (.value z) W := by
 have h := r_lk (dst := dst) (ty := ty) (pos := pos) (af := af) (g := g) H j hj hx hy ga ht hz false
 rw [h, hm]; rfl
theorem r_loS (H : Heap w0 F L W) (j : Nat) (hj : L[j]? = some (mp C venc b l)) (hx : ev n f x = .map (some b)) (hy : ev n f y = C.enc a) (ga : C.Gd a) (hm : mget l a = some q) (ht : P.underlying t = some (.map kt e)) (hz : ∀ W, (zeroValue e).run P W = .ok z W) (hv : venc q = v) :
  (execOp (ev n f) ⟨dst, .lookup t x y true, ty, pos, af, g⟩).run P W = .ok (.value (.tuple [v, .bool true].toArray)) W := by
 have h := r_lk (dst := dst) (ty := ty) (pos := pos) (af := af) (g := g) H j hj hx hy ga ht hz true
 rw [h, hm, ← hv]; rfl
theorem r_loN (H : Heap w0 F L W) (j : Nat) (hj : L[j]? = some (mp C venc b l)) (hx : ev n f x = .map (some b)) (hy : ev n f y = C.enc a) (ga : C.Gd a) (hm : mget l a = none) (ht : P.underlying t = some (.map kt e)) (hz : ∀ W, (zeroValue e).run P W = .ok z W) :
  (execOp (ev n f) ⟨dst, .lookup t x y true, ty, pos, af, g⟩).run P W = .ok (.value (.tuple [z, .bool false].toArray)) W := by
 have h := r_lk (dst := dst) (ty := ty) (pos := pos) (af := af) (g := g) H j hj hx hy ga ht hz true
 rw [h, hm]; rfl
/-- m[a] = q -/
theorem s_mu (H : Heap w0 F L W) (j : Nat) (hw : Region.wanted ⟨none, .mapUpdate t x y u, ty, pos, af, g⟩ (yl n f ops) = true) (hj : L[j]? = some (mp C venc b l)) (hx : ev n f x = .map (some b)) (hy : ev n f y = C.enc a) (hu : ev n f u = venc q) (ga : C.Gd a) (ht : P.underlying t = some (.map kt e))
  (h : ∀ W', Heap w0 F (L.set j (mp C venc b (mput l a q))) W' → SL P ops Q rest n f W') : SL P ops Q (⟨none, .mapUpdate t x y u, ty, pos, af, g⟩ :: rest) n f W := by
 obtain ⟨es, clock, hb, hk⟩ := H.mp_get j hj
 obtain ⟨es', clock', hrun, hk'⟩ := hk.put ht hb a ga q
 exact s_do rfl hw (by simp only [execOp, hx, hy, hu, Sem.run_bind, hrun, Result.andThen_ok, Sem.run_pure]) (h _ (H.mp_set j hj hk'))
/-- delete(m, a) -/
theorem s_dl (H : Heap w0 F L W) (j : Nat) (hw : Region.wanted ⟨none, .call ⟨.builtin .delete, #[x, y], #[t, kt]⟩, ty, pos, af, g⟩ (yl n f ops) = true) (hj : L[j]? = some (mp C venc b l)) (hx : ev n f x = .map (some b)) (hy : ev n f y = C.enc a) (ga : C.Gd a) (ht : P.underlying t = some (.map kt e))
  (h : ∀ W', Heap w0 F (L.set j (mp C venc b (mdel l a))) W' → SL P ops Q rest n f W') : SL P ops Q (⟨none, .call ⟨.builtin .delete, #[x, y], #[t, kt]⟩, ty, pos, af, g⟩ :: rest) n f W := by
 obtain ⟨es, clock, hb, hk⟩ := H.mp_get j hj
 obtain ⟨es', hrun, hk', _⟩ := hk.del (ty := ty) ht hb a ga
 exact s_dv (v := .tuple #[]) rfl hw (by simp only [execOp, resolve, invoke, builtin, List.map_toArray, List.map_cons, List.map_nil, hx, hy, Sem.run_bind, Sem.run_pure, Result.andThen_ok, hrun]) (h _ (H.mp_set j hj hk'))
end
theorem zv_of {P : Program} {t : TypeId} {z : Value} {size bytes : Nat} (hi : Inf P t z size bytes) : ∀ W, (zeroValue t).run P W = .ok z W := by
 obtain ⟨i, h1, h2, _, _⟩ := hi.ex
 exact fun W => by simp [zeroValue, typeInfo, h1, h2]
end Go.Proofs.Ytlakbclnilakbaa
end

section
namespace Go.Proofs.Ytlakbclnilakbaa
open Go.RowKit
theorem set_perm {α : Type _} (L : List α) (k : Nat) (E : α) (hk : k < L.length) : (L.set k E).Perm (E :: L.eraseIdx k) := by
 have : (L.set k E).eraseIdx k = L.eraseIdx k := by
  apply List.ext_getElem?
  intro i
  simp only [List.getElem?_eraseIdx, List.getElem?_set]
  split
  ·rw [if_neg (by omega)]
  ·rw [if_neg (by omega)]
 rw [← this]
 have h2 := pick_perm (L.set k E) k (by simpa using hk)
 rwa [List.getElem_set_self] at h2
theorem tk_snoc {α : Type} {l : List α} {k : Nat} {x : α} (h : l[k]? = some x) : l.take k ++ [x] = l.take (k + 1) := by rw [List.take_add_one, h]; rfl
section
variable {P : Program} {n : Sz} {f : Nat → Value} {W w0 : World} {dst : Option Tmp} {ty : TypeId} {pos : String} {af : Array Edge} {g : Option (Nat × Bool)} {x y : Operand} {t t2 e : TypeId} {v : Value} {k k2 : IntKind} {a b : Int}
/-- s[:hi:max] -/
theorem r_shm {A : Option Addr} {l c : Nat} {hi mx : Operand} {j j2 m : Nat} (hx : ev n f x = .slice A l c) (hh : ev n f hi = .int k a) (ha : a = (j : Int)) (hq : ev n f mx = .int k2 b) (hb : b = (j2 : Int)) (hj : j ≤ j2) (hj2 : j2 ≤ c) (h : P.underlying t = some (.slice e)) (hm : ∀ W, (Go.sizeOf e).run P W = .ok m W) :
  (execOp (ev n f) ⟨dst, .slice t x none (some hi) (some mx), ty, pos, af, g⟩).run P W = .ok (.value (.slice A j j2)) W := by
 subst ha; subst hb
 have h1 : (0 : Int) ≤ j ∧ (j : Int) ≤ j2 := by omega
 have h2 : (0 : Int) ≤ j2 ∧ (j2 : Int) ≤ c := by omega
 have h0 : ∀ p : Addr, p.add 0 = p := fun p => by simp [Addr.add]
 simp only [execOp, Instr.sliceAt, Instr.slice, Instr.sliceBounds, Instr.sliceBound, hx, hh, hq, asIntOf, Option.map_some, Option.map_none, Sem.run_bind, run_underlying h, Result.andThen_ok, Sem.run_pure, h1, h2, and_self, if_true, hm, Int.toNat_natCast, Nat.zero_mul, Nat.sub_zero]
 cases A <;> simp [h0]
/-- s[lo:] of any slice -/
def sloA (A : Option Addr) (c i m : Nat) : Option Addr := A.map fun p => if c = i then p else p.add (i * m)
theorem r_sloA {A : Option Addr} {l c : Nat} {lo : Operand} {i m : Nat} (hx : ev n f x = .slice A l c) (hl : ev n f lo = .int k a) (ha : a = (i : Int)) (hi : i ≤ l) (h : P.underlying t = some (.slice e)) (hm : ∀ W, (Go.sizeOf e).run P W = .ok m W) :
  (execOp (ev n f) ⟨dst, .slice t x (some lo) none none, ty, pos, af, g⟩).run P W = .ok (.value (.slice (sloA A c i m) (l - i) (c - i))) W := by
 subst ha
 have h1 : (0 : Int) ≤ i ∧ (i : Int) ≤ l := by omega
 simp only [execOp, Instr.sliceAt, Instr.slice, Instr.sliceBounds, Instr.sliceBound, hx, hl, asIntOf, Option.map_some, Option.map_none, Sem.run_bind, run_underlying h, Result.andThen_ok, Sem.run_pure, h1, and_self, if_true, hm, Int.toNat_natCast]
 cases A with
 | none => simp [sloA]
 | some p => by_cases h2 : c = i <;> simp [sloA, h2]
theorem Sees.slo {α : Type} {enc : α → Value} {w : World} {F : List Nat} {A : Option Addr} {xs : List α} (h : Sees enc w F A xs) {c : Nat} (i : Nat) (hc : xs.length ≤ c) : Sees enc w F (sloA A c i 1) (xs.drop i) := by
 intro h0
 rw [List.length_drop] at h0
 obtain ⟨b, o, e, hb, hr⟩ := h (by omega)
 subst e
 refine ⟨b, o + i, ?_, hb, fun j z hj => ?_⟩
 ·show some (if c = i then _ else _) = _
  rw [if_neg (by omega)]; simp [Addr.add]
 ·rw [List.getElem?_drop] at hj
  rw [Nat.add_assoc]; exact hr _ z hj
theorem Sees.head {α : Type} {enc : α → Value} {w : World} {F : List Nat} {A : Option Addr} {xs : List α} (h : Sees enc w F A xs) (k : Nat) : Sees enc w F A (xs.take k) := by
 intro h0
 obtain ⟨b, o, e, hb, hr⟩ := h (by rw [List.length_take] at h0; omega)
 refine ⟨b, o, e, hb, fun j z hj => hr j z ?_⟩
 rw [List.getElem?_take] at hj
 split at hj
 ·exact hj
 ·cases hj
theorem own_cap {size m c : Nat} {A : Option Addr} {xs : List Value} {T : TypeId} {F : List Nat} {L : List Ent} (H : Heap w0 F L W) (j : Nat) (hj : L[j]? = some (ownN size (.slice A m c) m xs T)) : m ≤ c := by
 rcases (H.own_get j hj).2 with ⟨e, h0⟩ | ⟨g, cap, cur, e, _, _, h, _⟩
 ·injection e with _ _ e; omega
 ·injection e with _ _ e; omega
theorem own_seesC {α : Type} {enc : α → Value} {size : Nat} {F : List Nat} {L : List Ent} (H : Heap w0 F L W) (j : Nat) {A : Option Addr} {n c : Nat} {xs : List α} {T : TypeId} (hj : L[j]? = some (ownN size (.slice A n c) n (xs.map enc) T)) : Sees enc W [] A xs := by
 intro h0
 obtain ⟨b, e, _, hr⟩ := H.own_seesN j hj h0
 exact ⟨b, 0, e, by simp, hr⟩
/-- what a row of the call's own reads as lies in none of the blocks that were there -/
theorem Heap.own_fresh {α : Type} {enc : α → Value} {size : Nat} {F : List Nat} {L : List Ent} (H : Heap w0 [] L W) (j : Nat) {A : Option Addr} {n c : Nat} {xs : List α} {T : TypeId} (hj : L[j]? = some (ownN size (.slice A n c) n (xs.map enc) T)) (hF : ∀ i ∈ F, i < w0.heap.size) : Sees enc W F A xs := by
 intro h0
 obtain ⟨b, e, hb, hr⟩ := H.own_seesN j hj h0
 refine ⟨b, 0, e, fun hm => ?_, hr⟩
 have h1 := H.own b (mem_ids.2 ⟨_, List.mem_of_getElem? hj, hb⟩)
 have h2 := hF b hm
 simp at h1
 omega
end
section
variable {P : Program} {ops : Array Oper} {rest : List Oper} {n : Sz} {k k2 : Nat} {f : Nat → Value} {W w0 : World} {F : List Nat} {L : List Ent} {Q : Exit → Act → World → Prop} {ty ty2 : TypeId} {pos pos2 : String} {af af2 : Array Edge} {g : Option (Nat × Bool)} {x y s : Operand} {v u : Value} {t e : TypeId}
/-- a store into a block whose cells are told by a function -/
theorem s_stC (H : Heap w0 F L W) (j : Nat) {p o : Nat} {cs cs' : List Value} {T : TypeId} {c0 : Value} (hw : Region.wanted ⟨none, .store t x y, ty, pos, af, g⟩ (yl n f ops) = true) (hx : ev n f x = .pointer (some ⟨p, o, none⟩)) (hy : ev n f y = u) (hj : L[j]? = some (blk p cs T)) (hv : cs[o]? = some c0) (hcs : cs.set o u = cs') (h1 : u.oneCell' = true) (hs : ∀ W, (Go.sizeOf t).run P W = .ok 1 W)
  (h : ∀ W', Heap w0 F (L.set j (blk p cs' T)) W' → SL P ops Q rest n f W') : SL P ops Q (⟨none, .store t x y, ty, pos, af, g⟩ :: rest) n f W := by
 subst hcs
 exact s_st H j hw hx hy hj hv h1 hs h
theorem owns_any {W : World} {lo : Nat} {T : TypeId} {size : Nat} {v : Value} {n : Nat} {xs : List Value} (h : W.ownsRow lo T size v n xs) : W.ownsRow 0 T size v n xs :=
 ⟨h.1, h.2.imp id fun ⟨g, cap, cur, e, hg, r⟩ => ⟨g, cap, cur, e, Nat.zero_le _, r⟩⟩
/-- append(s, y...): s is full; both are only read -/
theorem s_apG {α : Type} {enc : α → Value} {z0 : Value} {bytes m l c : Nat} {A B : Option Addr} {xs zs : List α} (H : Heap w0 F L W) (hS : Sees enc W [] A xs) (hl : xs.length = m) (hZ : Sees enc W [] B zs) (hzl : zs.length = l) (h0 : 0 < l)
  (hw : Region.wanted ⟨some k, .call ⟨.builtin .append, #[s, y], #[t, t]⟩, ty, pos, af, g⟩ (yl n f ops) = true) (hs : ev n f s = .slice A m m) (hy : ev n f y = .slice B l c) (h1 : ∀ z, (enc z).oneCell' = true)
  (hm : m + l ≤ 100000000000 ∧ (m + l) * bytes ≤ 140737488355328) (ht : P.underlying t = some (.slice e)) (hi : Inf P e z0 1 bytes) (hz : z0.oneCell' = true)
  (h : ∀ A' c' W', Heap w0 F (ownN 1 (.slice A' (m + l) c') (m + l) ((xs ++ zs).map enc) e :: L) W' → SL P ops Q rest n (upd f k (.slice A' (m + l) c')) W') :
  SL P ops Q (⟨some k, .call ⟨.builtin .append, #[s, y], #[t, t]⟩, ty, pos, af, g⟩ :: rest) n f W := by
 obtain ⟨i, hi0, hz0, hsz, hby⟩ := hi.ex
 obtain ⟨bz, oz, rfl, _, hrz⟩ := hZ (by omega)
 have hnew : ∀ q u, (zs.map enc)[q]? = some u → W.cell? ((⟨bz, oz, none⟩ : Addr).add q) = some u := fun q u hq => by
  rw [List.getElem?_map] at hq
  cases hzq : zs[q]? with
  | none => rw [hzq] at hq; simp at hq
  | some z => rw [hzq] at hq; rw [add_plain, hrz q z hzq]; simpa using hq
 have hone : ∀ u ∈ zs.map enc, u.oneCell' = true := fun u hu => by
  obtain ⟨z, _, rfl⟩ := List.mem_map.1 hu; exact h1 z
 obtain ⟨v', W2, hr, o1, o2⟩ : ∃ v' W2, (Builtin.append_ #[t, t] ty #[.slice A m m, .slice (some ⟨bz, oz, none⟩) l c]).run P W = .ok v' W2 ∧ W2.ownsRow W.heap.size e 1 v' (m + l) (xs.map enc ++ zs.map enc) ∧ W.grownBy W2 none := by
  cases A with
  | none =>
   have h0 : xs.length = 0 := by
    rcases Nat.eq_zero_or_pos xs.length with h0 | h0
    ·exact h0
    ·obtain ⟨q, r, e0, _⟩ := hS (by omega); cases e0
   obtain rfl : xs = [] := List.eq_nil_of_length_eq_zero h0
   obtain rfl : m = 0 := by simpa using hl.symm
   obtain ⟨v2, W2, hr2, h22, h23, _⟩ := run_append_own (P := P) W W.heap.size t ty e i z0 1 bytes ht hi0 hz0 hsz hby (by simp [one_cells hz]) (by omega) (.slice none 0 0) 0 [] (World.ownsRow_nil _ _ e 1) ⟨bz, oz, none⟩ l c (zs.map enc) (by simp [hzl]) hnew hone (by unfold maxLen; omega) hm.2 (Nat.le_refl _)
   exact ⟨v2, W2, hr2, by simpa using h22, h23⟩
  | some p =>
   have holds : ∀ j u, (xs.map enc)[j]? = some u → W.cell? (p.add j) = some u := fun j u hj => by
    rw [List.getElem?_map] at hj
    cases hzj : xs[j]? with
    | none => rw [hzj] at hj; simp at hj
    | some x' =>
     rw [hzj] at hj
     obtain ⟨b, o, e0, hb, hr⟩ := hS (by have := (List.getElem?_eq_some_iff.1 hzj).1; omega)
     injection e0 with e0
     subst e0
     rw [add_plain, hr j x' hzj]; simpa using hj
   obtain ⟨v2, W2, hr2, h22, h23⟩ := run_append_arg_grows (P := P) (w := W) t ty e i z0 1 bytes ht hi0 hz0 hsz hby (by simp [one_cells hz]) (by omega) p m m (xs.map enc) (by simp [hl]) holds ⟨bz, oz, none⟩ l c (zs.map enc) (by simp [hzl]) hnew (by omega) (by unfold maxLen; omega) hm.2
   exact ⟨v2, W2, hr2, h22, h23⟩
 obtain ⟨A', c', rfl⟩ : ∃ A c, v' = .slice A (m + l) c := by
  rcases o1.2 with ⟨rfl, h0⟩ | ⟨g, cap, cur, rfl, _⟩
  ·omega
  ·exact ⟨_, cap, rfl⟩
 have H3 : Heap w0 F (ownN 1 (.slice A' (m + l) c') (m + l) ((xs ++ zs).map enc) e :: L) W2 := by
  refine H.more (A := [ownN 1 (.slice A' (m + l) c') (m + l) ((xs ++ zs).map enc) e]) ⟨?_, ?_, ?_, ?_⟩
  ·intro E hE; rw [List.mem_singleton.1 hE]
   have := owns_any o1
   show W2.ownsRow 0 e 1 _ _ _
   rw [List.map_append]; exact this
  ·simp only [ids, ownN, List.flatMap_cons, List.flatMap_nil, List.append_nil]; exact nodup_opt _
  ·intro i hi
   simp only [ids, ownN, List.flatMap_cons, List.flatMap_nil, List.append_nil, Option.mem_toList] at hi
   exact .inr (o1.lt i hi).1
  ·exact ⟨o2.os, o2.tape, o2.output, o2.size, fun k hk hf => o2.block k hk (by simp)⟩
 exact s_run rfl hw (W' := W2) (v := .slice A' (m + l) c') (by
  simp only [execOp, resolve, invoke, builtin, List.map_toArray, List.map_cons, List.map_nil, hs, hy, Sem.run_bind, Sem.run_pure, Result.andThen_ok, hr]) (h A' c' W2 H3)
end
end Go.Proofs.Ytlakbclnilakbaa
end

section
namespace Go.Proofs.Ytlakbclnilakbaa
open Go.RowKit Go.MapKept
open Go.Maps (Keyed)
open Go.ChangeMaps (setBlock)
section
variable {P : Program} {kt : TypeId} {α β : Type}
/-- a map that lies where nothing changes -/
structure MapAt (C : KC P kt α) (venc : β → Value) (w0 : World) (F : List Nat) (b : Nat) (es : Array MapEntry) (clock : Nat) (l : List (α × β)) : Prop where
 hb : w0.heap[b]? = some (.map es clock)
 hk : MapOk C venc es clock l
 hF : b ∉ F
theorem MapAt.now {C : KC P kt α} {venc : β → Value} {w0 W : World} {F : List Nat} {b : Nat} {es : Array MapEntry} {clock : Nat} {l : List (α × β)} (M : MapAt C venc w0 F b es clock l) (hO : Only F w0 W) : W.heap[b]? = some (.map es clock) :=
 (hO.block b (arr_lt M.hb) M.hF).trans M.hb
theorem MapAt.nd {C : KC P kt α} {venc : β → Value} {w0 : World} {F : List Nat} {b : Nat} {es : Array MapEntry} {clock : Nat} {l : List (α × β)} (M : MapAt C venc w0 F b es clock l) : (l.map Prod.fst).Nodup := M.hk.nd
end
section
variable {P : Program} {ops : Array Oper} {rest : List Oper} {n : Sz} {k : Nat} {f : Nat → Value} {W w0 : World} {F : List Nat} {L : List Ent} {Q : Exit → Act → World → Prop} {ty : TypeId} {pos : String} {af : Array Edge} {g : Option (Nat × Bool)} {x y u : Operand} {t e kt : TypeId} {v z : Value} {dst : Option Tmp}
variable {α β : Type} [DecidableEq α] {C : KC P kt α} {venc : β → Value} {b r : Nat} {l : List (α × β)} {lb : List ((α × β) × Bool)} {cur : Option (α × β)} {a : α} {q : β} {es : Array MapEntry} {clock : Nat}
end
end Go.Proofs.Ytlakbclnilakbaa
end

section
namespace Go.Proofs.Ytlakbclnilakbaa
open Go.RowKit
/-- cells told by a function -/
def fnC (N : Nat) (g : Nat → Value) : List Value := (List.range N).map g
theorem fnC_get {N i : Nat} {g : Nat → Value} (hi : i < N) : (fnC N g)[i]? = some (g i) := by
 unfold fnC; rw [List.getElem?_map, List.getElem?_range hi]; rfl
theorem fnC_len (N : Nat) (g : Nat → Value) : (fnC N g).length = N := by unfold fnC; simp
theorem map_range_set {α : Type _} (N i : Nat) (g : Nat → α) (v : α) : ((List.range N).map g).set i v = (List.range N).map (fun j => if j = i then v else g j) := by
 apply List.ext_getElem?
 intro j
 rw [List.getElem?_set]
 by_cases hj : j < N
 ·by_cases e : i = j
  ·subst e
   rw [if_pos rfl, List.getElem?_map, List.getElem?_range hj]
   simp [hj]
  ·rw [if_neg e, List.getElem?_map, List.getElem?_map, List.getElem?_range hj]
   have : ¬ j = i := fun e2 => e e2.symm
   simp [this]
 ·have h1 : ∀ (h : Nat → α), ((List.range N).map h)[j]? = none := fun h => by rw [List.getElem?_eq_none]; simp; omega
  rw [h1]
  by_cases e : i = j
  ·subst e; rw [if_pos rfl, if_neg (by simpa using hj), h1]
  ·rw [if_neg e, h1]
theorem fnC_set (N i : Nat) (g : Nat → Value) (v : Value) : (fnC N g).set i v = fnC N (fun j => if j = i then v else g j) := map_range_set N i g v
theorem fnC_congr {N : Nat} {g h : Nat → Value} (e : ∀ i, i < N → g i = h i) : fnC N g = fnC N h := by
 unfold fnC
 exact List.map_congr_left fun i hi => e i (by simpa using hi)
/-- a row of ints: where, how long, how much room, what -/
structure RowS where
 A : Option Addr
 n : Nat
 c : Nat
 xs : List Int
def RowS.v (r : RowS) : Value := .slice r.A r.n r.c
def RowS.nil : RowS := ⟨none, 0, 0, []⟩
def rowE (T : TypeId) (r : RowS) : Ent := ownN 1 (.slice r.A r.n r.c) r.n (r.xs.map (Value.int .i64)) T
def updR (F : Nat → RowS) (i : Nat) (r : RowS) : Nat → RowS := fun j => if j = i then r else F j
theorem updR_at (F : Nat → RowS) (i : Nat) (r : RowS) : updR F i r i = r := by unfold updR; rw [if_pos rfl]
theorem updR_off (F : Nat → RowS) {i j : Nat} (r : RowS) (h : j ≠ i) : updR F i r j = F j := by unfold updR; rw [if_neg h]
theorem updR_upd (F : Nat → RowS) (i : Nat) (r q : RowS) : updR (updR F i r) i q = updR F i q := by
 funext j; unfold updR; split <;> rfl
def famL (T : TypeId) (N : Nat) (F : Nat → RowS) : List Ent := (List.range N).map fun i => rowE T (F i)
def fam (T : TypeId) (N : Nat) (F : Nat → RowS) : Ent := grp (famL T N F)
section
variable {w0 W : World} {Fr : List Nat} {L A : List Ent}
theorem Heap.splice (H : Heap w0 Fr (grp A :: L) W) : Heap w0 Fr (A ++ L) W := by
 have e : ids (A ++ L) = ids (grp A :: L) := by rw [ids_append, ids_cons]; rfl
 refine ⟨fun E hE => ?_, by rw [e]; exact H.nd, by rw [e]; exact H.own, H.only⟩
 rcases List.mem_append.1 hE with h | h
 ·exact (H.grp_ents 0 rfl).1 E h
 ·exact H.ok E (List.mem_cons_of_mem _ h)
theorem Heap.bundle (H : Heap w0 Fr (A ++ L) W) : Heap w0 Fr (grp A :: L) W := by
 have e : ids (A ++ L) = ids (grp A :: L) := by rw [ids_append, ids_cons]; rfl
 refine ⟨fun E hE => ?_, by rw [← e]; exact H.nd, by rw [← e]; exact H.own, H.only⟩
 rcases List.mem_cons.1 hE with rfl | h
 ·exact H.part
 ·exact H.ok E (List.mem_append_right _ h)
theorem famL_set (T : TypeId) (N i : Nat) (F : Nat → RowS) (r : RowS) : (famL T N F).set i (rowE T r) = famL T N (updR F i r) := by
 unfold famL
 rw [map_range_set]
 refine List.map_congr_left fun j _ => ?_
 unfold updR
 split <;> rfl
theorem famL_get {T : TypeId} {N i : Nat} {F : Nat → RowS} (hi : i < N) : (famL T N F)[i]? = some (rowE T (F i)) := by
 unfold famL; rw [List.getElem?_map, List.getElem?_range hi]; rfl
theorem famL_len (T : TypeId) (N : Nat) (F : Nat → RowS) : (famL T N F).length = N := by unfold famL; simp
/-- a row is taken out of the family -/
theorem Heap.pull1 {T : TypeId} {N : Nat} {F : Nat → RowS} (H : Heap w0 Fr (fam T N F :: L) W) {i : Nat} (hi : i < N) : Heap w0 Fr (rowE T (F i) :: fam T N (updR F i RowS.nil) :: L) W := by
 have h1 : Heap w0 Fr (famL T N F ++ L) W := H.splice
 have hl : i < (famL T N F).length := by rw [famL_len]; exact hi
 have hp := pick_perm (famL T N F) i hl
 have hg : (famL T N F)[i] = rowE T (F i) := by
  have := famL_get (T := T) (F := F) hi
  rw [List.getElem?_eq_getElem hl] at this
  injection this
 rw [hg] at hp
 have h2 : Heap w0 Fr ((rowE T (F i) :: (famL T N F).eraseIdx i) ++ L) W := h1.perm (hp.append_right L)
 have h3 := h2.own_nil 1 T
 have hq := set_perm (famL T N F) i (rowE T RowS.nil) hl
 rw [famL_set] at hq
 have h4 : Heap w0 Fr ((famL T N (updR F i RowS.nil) ++ (rowE T (F i) :: L))) W := by
  refine h3.perm ?_
  refine List.Perm.trans ?_ (hq.symm.append_right _)
  rw [List.cons_append, List.cons_append]
  refine List.Perm.cons _ ?_
  exact List.perm_middle.symm
 have h5 := h4.bundle
 exact h5.perm (List.Perm.swap _ _ _)
/-- .. and put back -/
theorem Heap.push1 {T : TypeId} {N : Nat} {F : Nat → RowS} {r : RowS} (H : Heap w0 Fr (rowE T r :: fam T N F :: L) W) {i : Nat} (hi : i < N) (hF : F i = RowS.nil) : Heap w0 Fr (fam T N (updR F i r) :: L) W := by
 have h0 : Heap w0 Fr (grp (famL T N F) :: (rowE T r :: L)) W := H.perm (List.Perm.swap _ _ _)
 have h1 := h0.splice
 have hl : i < (famL T N F).length := by rw [famL_len]; exact hi
 have hp := pick_perm (famL T N F) i hl
 have hg : (famL T N F)[i] = rowE T (F i) := by
  have := famL_get (T := T) (F := F) hi
  rw [List.getElem?_eq_getElem hl] at this
  injection this
 rw [hg, hF] at hp
 have h2 : Heap w0 Fr (rowE T RowS.nil :: ((famL T N F).eraseIdx i ++ (rowE T r :: L))) W := h1.perm (hp.append_right _)
 have h3 := h2.drop
 have hq := set_perm (famL T N F) i (rowE T r) hl
 rw [famL_set] at hq
 have h4 : Heap w0 Fr (famL T N (updR F i r) ++ L) W := by
  refine h3.perm ?_
  refine List.Perm.trans ?_ (hq.symm.append_right _)
  exact List.perm_middle
 exact h4.bundle
theorem Heap.pull {T : TypeId} {N : Nat} {F : Nat → RowS} (H : Heap w0 Fr L W) (j : Nat) (hj : L[j]? = some (fam T N F)) {i : Nat} (hi : i < N) : Heap w0 Fr (rowE T (F i) :: L.set j (fam T N (updR F i RowS.nil))) W := by
 obtain ⟨hlt, _⟩ := List.getElem?_eq_some_iff.1 hj
 have h1 := (H.pick j hj).pull1 hi
 refine h1.perm (List.Perm.cons _ ?_)
 exact (set_perm L j _ hlt).symm
theorem Heap.push {T : TypeId} {N : Nat} {F : Nat → RowS} {r : RowS} (H : Heap w0 Fr (rowE T r :: L) W) (j : Nat) (hj : L[j]? = some (fam T N F)) {i : Nat} (hi : i < N) (hF : F i = RowS.nil) : Heap w0 Fr (L.set j (fam T N (updR F i r))) W := by
 obtain ⟨hlt, _⟩ := List.getElem?_eq_some_iff.1 hj
 have h0 : Heap w0 Fr (rowE T r :: fam T N F :: L.eraseIdx j) W := H.perm (List.Perm.cons _ (by
  have := pick_perm L j hlt
  have hg : L[j] = fam T N F := by
   rw [List.getElem?_eq_getElem hlt] at hj
   injection hj
  rwa [hg] at this))
 exact (h0.push1 hi hF).perm (set_perm L j _ hlt).symm
theorem Ents.row {T : TypeId} {N : Nat} {F : Nat → RowS} {j : Nat} {A : List Ent} (hE : Ents A W) (hj : A[j]? = some (fam T N F)) {i : Nat} (hi : i < N) : W.ownsRow 0 T 1 (.slice (F i).A (F i).n (F i).c) (F i).n ((F i).xs.map (Value.int .i64)) := by
 have h := (Heap.start hE).grp_ents j hj
 exact h.1 _ (List.mem_of_getElem? (famL_get hi))
theorem fam_len {T : TypeId} {N : Nat} {F : Nat → RowS} (H : Heap w0 Fr L W) (j : Nat) (hj : L[j]? = some (fam T N F)) {i : Nat} (hi : i < N) : (F i).xs.length = (F i).n := by
 have h := (H.ents.row hj hi).1
 simpa using h
theorem fam_sees {T : TypeId} {N : Nat} {F : Nat → RowS} (H : Heap w0 Fr L W) (j : Nat) (hj : L[j]? = some (fam T N F)) {i : Nat} (hi : i < N) : Sees (Value.int .i64) W [] (F i).A (F i).xs := by
 have h := H.pull j hj hi
 exact own_seesC h 0 rfl
/-- a row's head is a row -/
theorem Heap.shrink {size n c m : Nat} {B : Option Addr} {xs : List Value} {T : TypeId} (H : Heap w0 Fr L W) (j : Nat) (hj : L[j]? = some (ownN size (.slice B n c) n xs T)) (hm : m ≤ n) (h0 : B = none → m = 0 ∧ c = 0) : Heap w0 Fr (L.set j (ownN size (.slice B m c) m (xs.take (m * size)) T)) W := by
 refine H.at j hj (F' := (ownN size (.slice B n c) n xs T).ids) ⟨?_, ?_, ?_, Only.refl _ _⟩ (fun _ h => h)
 ·intro E hE
  rw [List.mem_singleton.1 hE]
  have ho := H.own_get j hj
  show W.ownsRow 0 T size (.slice B m c) m (xs.take (m * size))
  rcases ho.2 with ⟨e, h2⟩ | ⟨g, cap, cur, e, h1, h2, h3, h4, h5, h6⟩
  ·injection e with e1 e2 e3
   obtain ⟨rfl, rfl⟩ := h0 e1
   subst e1
   simp only [Nat.zero_mul, List.take_zero]
   exact World.ownsRow_nil W 0 T size
  ·injection e with e1 e2 e3
   subst e1; subst e3
   refine ⟨by rw [List.length_take, ho.1]; exact Nat.min_eq_left (Nat.mul_le_mul_right _ hm), .inr ⟨g, c, cur, rfl, h1, h2, by omega, h4, h5, ?_⟩⟩
   rw [← h6, List.take_take, Nat.min_eq_left (Nat.mul_le_mul_right _ hm)]
 ·simp [ids, ownN, Value.ownBlock]; cases B <;> simp
 ·intro i hi
  left
  simp only [ids, List.flatMap_cons, List.flatMap_nil, List.append_nil] at hi
  cases B <;> exact hi
theorem Heap.shrink2 {size n c m : Nat} {B : Option Addr} {xs : List Value} {T : TypeId} (H : Heap w0 Fr L W) (j : Nat) (hj : L[j]? = some (ownN size (.slice B n c) n xs T)) (hm : m ≤ n) : Heap w0 Fr (L.set j (ownN size (.slice B m c) m (xs.take (m * size)) T)) W := by
 refine H.shrink j hj hm fun hB => ?_
 subst hB
 rcases (H.own_get j hj).2 with ⟨e, h2⟩ | ⟨g, cap, cur, e, _⟩
 ·injection e with _ e2 e3
  exact ⟨by omega, e3⟩
 ·injection e with e1; cases e1
theorem row_shrink {r : RowS} {m : Nat} {T : TypeId} (H : Heap w0 Fr L W) (j : Nat) (hj : L[j]? = some (rowE T r)) (hm : m ≤ r.n) : Heap w0 Fr (L.set j (rowE T ⟨r.A, m, r.c, r.xs.take m⟩)) W := by
 have h := H.shrink2 j hj hm
 rw [Nat.mul_one, ← List.map_take] at h
 exact h
end
end Go.Proofs.Ytlakbclnilakbaa
end

section
namespace Go.Proofs.Ytlakbclnilakbaa
open Go.Sort Go.RowKit
set_option maxRecDepth 100000
def lays189_ren : Go.Shelf.Ren := ⟨fun | 189 => 55 | 125 => 84 | 257 => 83 | 128 => 109 | 129 => 110 | 294 => 100 | 295 => 101 | 296 => 102 | 297 => 103 | 298 => 104 | 299 => 105 | 216 => 106 | 300 => 107 | 301 => 108 | 328 => 128 | 329 => 129 | 330 => 130 | 331 => 131 | 332 => 132 | 215 => 133 | 343 => 150 | n => n, fun | 28 => 25 | 3 => 3 | 46 => 144 | 0 => 0 | 51 => 147 | 53 => 78 | 4 => 4 | 183 => 164 | 182 => 163 | 131 => 126 | 5 => 5 | 9 => 9 | 218 => 185 | 222 => 189 | 228 => 199 | 229 => 200 | n => n, fun | n => n⟩
theorem lays189 : Go.Proofs.Lays.n189 Try.prog lays189_ren := {
  mixed := by kernel_rfl
  f125 := Try.func84.trans (congrArg some (by kernel_rfl))
  f128 := Try.func109.trans (congrArg some (by kernel_rfl))
  f129 := Try.func110.trans (congrArg some (by kernel_rfl))
  f189 := Try.func55.trans (congrArg some (by kernel_rfl))
  f215 := Try.func133.trans (congrArg some (by kernel_rfl))
  f216 := Try.func106.trans (congrArg some (by kernel_rfl))
  f257 := Try.func83.trans (congrArg some (by kernel_rfl))
  f294 := Try.func100.trans (congrArg some (by kernel_rfl))
  f295 := Try.func101.trans (congrArg some (by kernel_rfl))
  f296 := Try.func102.trans (congrArg some (by kernel_rfl))
  f297 := Try.func103.trans (congrArg some (by kernel_rfl))
  f298 := Try.func104.trans (congrArg some (by kernel_rfl))
  f299 := Try.func105.trans (congrArg some (by kernel_rfl))
  f300 := Try.func107.trans (congrArg some (by kernel_rfl))
  f301 := Try.func108.trans (congrArg some (by kernel_rfl))
  f328 := Try.func128.trans (congrArg some (by kernel_rfl))
  f329 := Try.func129.trans (congrArg some (by kernel_rfl))
  f330 := Try.func130.trans (congrArg some (by kernel_rfl))
  f331 := Try.func131.trans (congrArg some (by kernel_rfl))
  f332 := Try.func132.trans (congrArg some (by kernel_rfl))
  f343 := Try.func150.trans (congrArg some (by kernel_rfl))
  t0 := Try.underlying0
  a0 := Try.isAgg0
  z0 := Try.sizeOf0
  v0 := Try.zeroValue0
  t3 := Try.underlying3
  a3 := Try.isAgg3
  z3 := Try.sizeOf3
  v3 := Try.zeroValue3
  t4 := Try.underlying4
  a4 := Try.isAgg4
  z4 := Try.sizeOf4
  v4 := Try.zeroValue4
  t5 := Try.underlying5
  a5 := Try.isAgg5
  z5 := Try.sizeOf5
  v5 := Try.zeroValue5
  t9 := Try.underlying9
  a9 := Try.isAgg9
  z9 := Try.sizeOf9
  v9 := Try.zeroValue9
  t28 := Try.underlying25
  a28 := Try.isAgg25
  z28 := Try.sizeOf25
  v28 := Try.zeroValue25
  t46 := Try.underlying144
  a46 := Try.isAgg144
  z46 := Try.sizeOf144
  v46 := Try.zeroValue144
  t51 := Try.underlying147
  a51 := Try.isAgg147
  z51 := Try.sizeOf147
  v51 := Try.zeroValue147
  t53 := Try.underlying78
  a53 := Try.isAgg78
  z53 := Try.sizeOf78
  v53 := Try.zeroValue78
  t131 := Try.underlying126
  a131 := Try.isAgg126
  z131 := Try.sizeOf126
  v131 := Try.zeroValue126
  t182 := Try.underlying163
  a182 := Try.isAgg163
  z182 := Try.sizeOf163
  v182 := Try.zeroValue163
  t183 := Try.underlying164
  a183 := Try.isAgg164
  z183 := Try.sizeOf164
  v183 := Try.zeroValue164
  t218 := Try.underlying185
  a218 := Try.isAgg185
  z218 := Try.sizeOf185
  v218 := Try.zeroValue185
  t222 := Try.underlying189
  a222 := Try.isAgg189
  z222 := Try.sizeOf189
  v222 := Try.zeroValue189
  t228 := Try.underlying199
  a228 := Try.isAgg199
  z228 := Try.sizeOf199
  v228 := Try.zeroValue199
  t229 := Try.underlying200
  a229 := Try.isAgg200
  z229 := Try.sizeOf200
  v229 := Try.zeroValue200 }
theorem gSort0 (blk off cap : Nat) (zs : List Int) (w : World) (hH : Holds (Value.int .i64) w blk off zs.toArray) (hblk : blk < w.heap.size) (hsz : zs.length < 4611686018427387904) :
  Calls Try.prog 55 #[.slice (some ⟨blk, off, none⟩) zs.length cap] w fun e w' =>
   e = .returned (.tuple #[]) ∧ ∃ n os, w' = grow (putRow (Value.int .i64) (Sort.ahead w n) blk off (zs.mergeSort fun x y => decide (x ≤ y)).toArray) os := Any.slices_Sort_int lays189 blk off cap zs w hH hblk hsz
def srt (l : List Int) : List Int := l.mergeSort fun x y => decide (x ≤ y)
theorem srt_perm (l : List Int) : (srt l).Perm l := List.mergeSort_perm _ _
theorem srt_len (l : List Int) : (srt l).length = l.length := (srt_perm l).length_eq
/-- a row of the call's own is sorted -/
theorem sorted_eq : ∀ {a b : List Int}, a.Perm b → a.Pairwise (· ≤ ·) → b.Pairwise (· ≤ ·) → a = b
 | [], b, h, _, _ => (List.nil_perm.1 h).symm
 | x :: a, [], h, _, _ => by have := h.length_eq; simp at this
 | x :: a, y :: b, h, ha, hb => by
  obtain ⟨a1, a2⟩ := List.pairwise_cons.1 ha
  obtain ⟨b1, b2⟩ := List.pairwise_cons.1 hb
  have e : x = y := by
   have h1 : x ∈ y :: b := h.mem_iff.1 (by simp)
   have h2 : y ∈ x :: a := h.mem_iff.2 (by simp)
   rcases List.mem_cons.1 h1 with h1 | h1
   ·exact h1
   ·rcases List.mem_cons.1 h2 with h2 | h2
    ·exact h2.symm
    ·have := a1 y h2; have := b1 x h1; omega
  subst e
  rw [sorted_eq (List.Perm.cons_inv h) a2 b2]
theorem srt_sorted (l : List Int) : (srt l).Pairwise (· ≤ ·) := by
 have h := List.pairwise_mergeSort (le := fun x y : Int => decide (x ≤ y)) (fun a b c h1 h2 => by simp at *; omega) (fun a b => by simp; omega) l
 exact h.imp fun h => by simpa using h
theorem gSort (A : Option Addr) (n c : Nat) (zs : List Int) (T : TypeId) (w : World) (hE : Ents [ownN 1 (.slice A n c) n (zs.map (Value.int .i64)) T] w) (hn : n ≤ 1000000) :
  Calls Try.prog 55 [.slice A n c].toArray w fun e w' => e = .returned (.tuple #[]) ∧ Heap w (ids [ownN 1 (.slice A n c) n (zs.map (Value.int .i64)) T]) [ownN 1 (.slice A n c) n ((srt zs).map (Value.int .i64)) T] w' := by
 have H := Heap.start hE
 have ho := H.own_get 0 rfl
 have hl : zs.length = n := by have := ho.1; simpa using this
 rcases ho.2 with ⟨hv, h0⟩ | ⟨g, cap, cur, hv, _, hg, hnc, hcm, hcs, htk⟩
 ·injection hv with h1 h2 h3
  subst h1; subst h2; subst h3
  have hz : zs = [] := List.eq_nil_of_length_eq_zero hl
  subst hz
  refine (Any.slices_Sort_int_none lays189 none 0 w).mono ?_
  rintro e w' ⟨rfl, rfl⟩
  have e0 : srt [] = [] := by simp [srt]
  rw [e0]
  exact ⟨rfl, H⟩
 ·injection hv with h1 h2 h3
  subst h1; subst h3
  subst hl
  have htk' : cur.toList.take zs.length = zs.map (Value.int .i64) := by rw [Nat.mul_one] at htk; exact htk
  refine (gSort0 g 0 c zs w (holds_of_blockI hg htk') (arr_lt hg) (by omega)).mono ?_
  rintro e w' ⟨rfl, m, os, rfl⟩
  have hs := ownsRow_sortedI (w := w) (base := 0) (n := m) (e := T) (os := os) (ss := zs) (ts := srt zs) (srt_len zs) (Nat.zero_le _) hg hnc hcm hcs
  have hgr : w.grownBy (grow (putRow (Value.int .i64) (Sort.ahead w m) g 0 (srt zs).toArray) os) (some g) := grownBy_sortedI _
  refine ⟨rfl, H.at 0 rfl (F' := [g]) ⟨?_, by simp [ids, ownN, Value.ownBlock], by simp [ids, ownN, Value.ownBlock], ⟨hgr.os, hgr.tape, hgr.output, hgr.size, fun k hk hne => hgr.block k hk (fun e => hne (by injection e with e; rw [e]; simp))⟩⟩ (by simp [ownN, Value.ownBlock])⟩
  intro E hE
  rw [List.mem_singleton.1 hE]
  exact hs
end Go.Proofs.Ytlakbclnilakbaa
end

section
namespace Go.Proofs.Ytlakbclnilakbaa
def sIns : List Int → Int → List Int
 | [], x => [x]
 | y :: l, x => if y < x then y :: sIns l x else x :: y :: l
theorem sIns_at : ∀ (l : List Int) (x : Int) (n : Nat), n ≤ l.length → (∀ j y, j < n → l[j]? = some y → y < x) → (∀ y, l[n]? = some y → ¬ y < x) → sIns l x = l.take n ++ x :: l.drop n
 | [], x, n, hn, _, _ => by simp at hn; subst hn; rfl
 | y :: l, x, 0, _, _, h => by
  have := h y rfl
  rw [sIns, if_neg this]; rfl
 | y :: l, x, n + 1, hn, h1, h2 => by
  rw [sIns, if_pos (h1 0 y (by omega) rfl), sIns_at l x n (by simpa using hn) (fun j z hj hz => h1 (j + 1) z (by omega) (by simpa using hz)) (fun z hz => h2 z (by simpa using hz))]
  rfl
theorem sIns_len : ∀ (l : List Int) (x : Int), (sIns l x).length = l.length + 1
 | [], x => rfl
 | y :: l, x => by
  unfold sIns
  split
  ·simp only [List.length_cons]; rw [sIns_len l x]
  ·rfl
theorem sIns_perm : ∀ (l : List Int) (x : Int), (sIns l x).Perm (x :: l)
 | [], x => .refl _
 | y :: l, x => by
  unfold sIns
  split
  ·exact ((sIns_perm l x).cons y).trans (.swap _ _ _)
  ·exact .refl _
theorem sIns_sorted : ∀ (l : List Int) (x : Int), l.Pairwise (· ≤ ·) → (sIns l x).Pairwise (· ≤ ·)
 | [], x, _ => by simp [sIns]
 | y :: l, x, h => by
  obtain ⟨h1, h2⟩ := List.pairwise_cons.1 h
  unfold sIns
  split
  ·refine List.pairwise_cons.2 ⟨fun z hz => ?_, sIns_sorted l x h2⟩
   rcases List.mem_cons.1 ((sIns_perm l x).mem_iff.1 hz) with rfl | hz
   ·omega
   ·exact h1 z hz
  ·refine List.pairwise_cons.2 ⟨fun z hz => ?_, h⟩
   rcases List.mem_cons.1 hz with rfl | hz
   ·omega
   ·have := h1 z hz; omega
theorem sIns_fold (l : List Int) : l.foldl sIns [] = srt l := by
 have : ∀ (l s : List Int), s.Pairwise (· ≤ ·) → (l.foldl sIns s).Pairwise (· ≤ ·) ∧ (l.foldl sIns s).Perm (s ++ l) := fun l => by
  induction l with
  | nil => intro s h; exact ⟨h, by simp⟩
  | cons x l ih =>
   intro s h
   obtain ⟨h1, h2⟩ := ih (sIns s x) (sIns_sorted s x h)
   refine ⟨h1, h2.trans ?_⟩
   have h3 := (sIns_perm s x).append_right l
   refine h3.trans ?_
   rw [List.cons_append]
   exact List.perm_middle.symm
 obtain ⟨h1, h2⟩ := this l [] (by simp)
 exact sorted_eq (h2.trans (srt_perm l).symm) h1 (srt_sorted l)
end Go.Proofs.Ytlakbclnilakbaa
end

section
namespace Go.Proofs.Ytlakbclnilakbaa
/-- the rows: k * 5 is of all, k * 5 + 1 + m a mutator's, of class k -/
abbrev FrS := Nat → List Int
def updS (S : FrS) (i : Nat) (x : List Int) : FrS := fun j => if j = i then x else S j
def xsOf (F : Nat → RowS) : FrS := fun i => (F i).xs
theorem xsOf_upd (F : Nat → RowS) (i : Nat) (r : RowS) : xsOf (updR F i r) = updS (xsOf F) i r.xs := by
 funext j; unfold xsOf updR updS; split <;> rfl
theorem updS_at (S : FrS) (i : Nat) (x : List Int) : updS S i x i = x := by unfold updS; rw [if_pos rfl]
theorem updS_off (S : FrS) {i j : Nat} (x : List Int) (h : j ≠ i) : updS S i x j = S j := by unfold updS; rw [if_neg h]
theorem updS_upd (S : FrS) (i : Nat) (x y : List Int) : updS (updS S i x) i y = updS S i y := by
 funext j; unfold updS; split <;> rfl
theorem updS_self (S : FrS) (i : Nat) : updS S i (S i) = S := by
 funext j; unfold updS; split
 ·rename_i e; rw [e]
 ·rfl
def isC (k : Int) : Bool := decide (0 ≤ k ∧ k < 32)
def isM (m : Int) : Bool := decide (0 ≤ m ∧ m < 4)
def cls (S : FrS) (k : Nat) : List Int := S (k * 5) ++ S (k * 5 + 1) ++ S (k * 5 + 2) ++ S (k * 5 + 3) ++ S (k * 5 + 4)
def fHas (S : FrS) (k a : Int) : Bool := isC k && decide (a ∈ cls S k.toNat)
def fPush (S : FrS) (k a : Int) : FrS × Int :=
 if isC k = false then (S, 1) else if fHas S k a = true then (S, 41) else (updS S (k.toNat * 5) (S (k.toNat * 5) ++ [a]), 0)
def fFill (S : FrS) (m k : Nat) : FrS :=
 if S (k * 5 + 1 + m) = [] then updS (updS S (k * 5) ((S (k * 5)).take ((S (k * 5)).length - 4))) (k * 5 + 1 + m) ((S (k * 5)).drop ((S (k * 5)).length - 4)) else S
def fTake (S : FrS) (m k : Int) : FrS × Int × Int :=
 if isM m = false ∨ isC k = false then (S, 0, 1)
 else if fFill S m.toNat k.toNat (k.toNat * 5 + 1 + m.toNat) = [] then (fFill S m.toNat k.toNat, 0, 4)
 else (updS (fFill S m.toNat k.toNat) (k.toNat * 5 + 1 + m.toNat) ((fFill S m.toNat k.toNat (k.toNat * 5 + 1 + m.toNat)).take ((fFill S m.toNat k.toNat (k.toNat * 5 + 1 + m.toNat)).length - 1)), (fFill S m.toNat k.toNat (k.toNat * 5 + 1 + m.toNat)).getD ((fFill S m.toNat k.toNat (k.toNat * 5 + 1 + m.toNat)).length - 1) 0, 0)
def fPutN (S : FrS) (m k : Nat) (a : Int) : FrS :=
 if (S (k * 5 + 1 + m)).length + 1 > 8 then updS (updS S (k * 5) (S (k * 5) ++ (S (k * 5 + 1 + m) ++ [a]).take (((S (k * 5 + 1 + m)).length + 1) / 2))) (k * 5 + 1 + m) ((S (k * 5 + 1 + m) ++ [a]).drop (((S (k * 5 + 1 + m)).length + 1) / 2))
 else updS S (k * 5 + 1 + m) (S (k * 5 + 1 + m) ++ [a])
def fPut (S : FrS) (m k a : Int) : FrS × Int :=
 if isM m = false ∨ isC k = false then (S, 1) else if fHas S k a = true then (S, 41) else (fPutN S m.toNat k.toNat a, 0)
def fDrainTo (S : FrS) (m K : Nat) : FrS := fun i => if i / 5 < K then (if i % 5 = 0 then S i ++ S (i + 1 + m) else if i % 5 = 1 + m then [] else S i) else S i
def fDrain (S : FrS) (m : Int) : FrS := if isM m = true then fDrainTo S m.toNat 32 else S
def gone (f t x : Int) : Bool := decide (f ≤ x ∧ x < t)
def stay (f t : Int) (l : List Int) : List Int := l.filter fun x => !gone f t x
def fRemN (S : FrS) (k : Nat) (f t : Int) (K : Nat) : FrS := fun i => if i / 5 = k ∧ i % 5 < K then stay f t (S i) else S i
def fRemove (S : FrS) (k f t : Int) : FrS × Int :=
 if isC k = false then (S, 0) else (fRemN S k.toNat f t 5, ((cls S k.toNat).length : Int) - (cls (fRemN S k.toNat f t 5) k.toNat).length)
def fOwn (S : FrS) (m k : Int) : Int := if isM m = true ∧ isC k = true then (S (k.toNat * 5 + 1 + m.toNat)).length else 0
def fList (S : FrS) (k : Int) : List Int := if isC k = true then srt (cls S k.toNat) else []
theorem fRemN_zero (S : FrS) (k : Nat) (f t : Int) : fRemN S k f t 0 = S := by funext i; unfold fRemN; rw [if_neg (by omega)]
theorem fRemN_succ (S : FrS) (k : Nat) (f t : Int) (K : Nat) (hK : K < 5) : fRemN S k f t (K + 1) = updS (fRemN S k f t K) (k * 5 + K) (stay f t (S (k * 5 + K))) := by
 funext i
 unfold fRemN updS
 by_cases e : i = k * 5 + K
 ·subst e
  rw [if_pos (by omega), if_pos rfl]
 ·rw [if_neg e]
  show _ = if i / 5 = k ∧ i % 5 < K then stay f t (S i) else S i
  by_cases h : i / 5 = k ∧ i % 5 < K
  ·rw [if_pos h, if_pos (by omega)]
  ·rw [if_neg h, if_neg (by omega)]
theorem fRemN_at (S : FrS) (k : Nat) (f t : Int) (K j : Nat) (hj : K ≤ j ∧ j < 5) : fRemN S k f t K (k * 5 + j) = S (k * 5 + j) := by unfold fRemN; rw [if_neg (by omega)]
theorem fDrainTo_zero (S : FrS) (m : Nat) : fDrainTo S m 0 = S := by funext i; unfold fDrainTo; rw [if_neg (by omega)]
theorem fDrainTo_succ (S : FrS) (m K : Nat) (hm : m < 4) : fDrainTo S m (K + 1) = updS (updS (fDrainTo S m K) (K * 5) (S (K * 5) ++ S (K * 5 + 1 + m))) (K * 5 + 1 + m) [] := by
 funext i
 unfold fDrainTo updS
 by_cases e : i = K * 5 + 1 + m
 ·subst e
  rw [if_pos (by omega), if_neg (by omega), if_pos (by omega), if_pos rfl]
 ·rw [if_neg e]
  by_cases e2 : i = K * 5
  ·subst e2
   rw [if_pos (by omega), if_pos (by omega), if_pos rfl]
  ·rw [if_neg e2]
   show _ = if i / 5 < K then (if i % 5 = 0 then S i ++ S (i + 1 + m) else if i % 5 = 1 + m then [] else S i) else S i
   by_cases h : i / 5 < K
   ·rw [if_pos h, if_pos (by omega)]
   ·rw [if_neg h]
    by_cases h2 : i / 5 < K + 1
    ·rw [if_pos h2, if_neg (by omega), if_neg (by omega)]
    ·rw [if_neg h2]
theorem fDrainTo_at (S : FrS) (m K i : Nat) (h : K * 5 ≤ i) : fDrainTo S m K i = S i := by unfold fDrainTo; rw [if_neg (by omega)]
end Go.Proofs.Ytlakbclnilakbaa
end

section
namespace Go.Proofs.Ytlakbclnilakbaa
theorem keyOf_pairS {P : Program} {k e0 e1 : TypeId} {q0 q1 : IntKind} (hu : P.underlying k = some (.struct (P.fieldsOf k))) (hf : (P.fieldsOf k).toList.map (fun f => (f.name != "_", f.type, f.offset)) = [(true, e0, 0), (true, e1, 1)]) (h0 : P.underlying e0 = some (.int q0)) (h1 : P.underlying e1 = some (.int q1))
  (hc : P.cellsOf k = 2) (c0 : P.cellsOf e0 = 1) (c1 : P.cellsOf e1 = 1) (hkt : P.keyType k = true) (hsz : ∃ m, P.types.size = m + 1) {a b : Int} (wa : (Lit.int q0 a).wf = true) (wb : (Lit.int q1 b).wf = true) :
  ∃ l, keyOf P k (.agg [.int q0 a, .int q1 b].toArray) = some l := by
 obtain ⟨m, hm⟩ := hsz
 unfold keyOf
 generalize P.fieldsOf k = fs at hu hf
 simp only [hu]
 rw [if_pos (by simp [hkt, Value.formed, hu, hc]), hm]
 obtain ⟨l⟩ := fs
 simp only at hf
 obtain ⟨f1, f2, rfl⟩ : ∃ f1 f2, l = [f1, f2] := by
  have := congrArg List.length hf
  simp only [List.length_map, List.length_cons, List.length_nil] at this
  rcases l with _ | ⟨f1, _ | ⟨f2, _ | ⟨f3, l⟩⟩⟩
  ·simp at this
  ·simp at this
  ·exact ⟨f1, f2, rfl⟩
  ·simp at this
 simp only [List.map_cons, List.map_nil, List.cons.injEq, Prod.mk.injEq, and_true, bne_iff_ne] at hf
 obtain ⟨⟨n1, rfl, o1⟩, n2, rfl, o2⟩ := hf
 unfold Program.keyLits
 simp only [hu, Value.cells]
 rw [if_pos ⟨by rw [hc]; rfl, by simp [n1, n2]⟩]
 simp [List.mapM_cons, o1, o2, c0, c1, Program.keyLits, h0, h1, wa, wb]
theorem agg2_inj {k0 k1 : IntKind} {a b : Int × Int} (h : Value.agg [.int k0 a.1, .int k1 a.2].toArray = Value.agg [.int k0 b.1, .int k1 b.2].toArray) : a = b := by
 obtain ⟨a1, a2⟩ := a
 obtain ⟨b1, b2⟩ := b
 simp at h
 simp [h.1, h.2]
end Go.Proofs.Ytlakbclnilakbaa
end

section
namespace Go.Proofs.Ytlakbclnilakbaa
open Go.RowKit
theorem ag3 (W : World) : (isAgg 3).run Try.prog W = .ok false W := by kernel_rfl
theorem sz3 (W : World) : (Go.sizeOf 3).run Try.prog W = .ok 1 W := by kernel_rfl
theorem ag25 (W : World) : (isAgg 25).run Try.prog W = .ok false W := by kernel_rfl
theorem sz25 (W : World) : (Go.sizeOf 25).run Try.prog W = .ok 1 W := by kernel_rfl
theorem sz26 (W : World) : (Go.sizeOf 26).run Try.prog W = .ok 5 W := by kernel_rfl
theorem ag29 (W : World) : (isAgg 29).run Try.prog W = .ok true W := by kernel_rfl
theorem sz29 (W : World) : (Go.sizeOf 29).run Try.prog W = .ok 160 W := by kernel_rfl
theorem fo29_0 (a : Addr) (W : World) : (Instr.fieldAt 29 (.pointer (some a)) 0).run Try.prog W = .ok (.pointer (some (a.add 0))) W := by kernel_rfl
theorem ag88 (W : World) : (isAgg 88).run Try.prog W = .ok true W := by kernel_rfl
theorem sz88 (W : World) : (Go.sizeOf 88).run Try.prog W = .ok 5 W := by kernel_rfl
theorem fo88_0 (a : Addr) (W : World) : (Instr.fieldAt 88 (.pointer (some a)) 0).run Try.prog W = .ok (.pointer (some (a.add 0))) W := by kernel_rfl
theorem fo88_1 (a : Addr) (W : World) : (Instr.fieldAt 88 (.pointer (some a)) 1).run Try.prog W = .ok (.pointer (some (a.add 1))) W := by kernel_rfl
theorem fo88_2 (a : Addr) (W : World) : (Instr.fieldAt 88 (.pointer (some a)) 2).run Try.prog W = .ok (.pointer (some (a.add 2))) W := by kernel_rfl
theorem fo88_3 (a : Addr) (W : World) : (Instr.fieldAt 88 (.pointer (some a)) 3).run Try.prog W = .ok (.pointer (some (a.add 3))) W := by kernel_rfl
theorem fo88_4 (a : Addr) (W : World) : (Instr.fieldAt 88 (.pointer (some a)) 4).run Try.prog W = .ok (.pointer (some (a.add 4))) W := by kernel_rfl
theorem ag93 (W : World) : (isAgg 93).run Try.prog W = .ok false W := by kernel_rfl
theorem fo95_0 (a : Addr) (W : World) : (Instr.fieldAt 95 (.pointer (some a)) 0).run Try.prog W = .ok (.pointer (some (a.add 0))) W := by kernel_rfl
theorem fo95_1 (a : Addr) (W : World) : (Instr.fieldAt 95 (.pointer (some a)) 1).run Try.prog W = .ok (.pointer (some (a.add 32))) W := by kernel_rfl
theorem ag97 (W : World) : (isAgg 97).run Try.prog W = .ok true W := by kernel_rfl
theorem sz97 (W : World) : (Go.sizeOf 97).run Try.prog W = .ok 2 W := by kernel_rfl
theorem inf3 : Inf Try.prog 3 (.int .i64 0) 1 8 := inf_of (by kernel_rfl)
theorem inf25 : Inf Try.prog 25 (.slice none 0 0) 1 24 := inf_of (by kernel_rfl)
theorem inf97 : Inf Try.prog 97 (.agg [.int .i64 0, .int .i64 0].toArray) 2 16 := inf_of (by kernel_rfl)
theorem bd95_1 (z1 : Option Nat) (W : World) : (Instr.build 95 ([(1, .map z1)] : List (Nat × Value)).toArray).run Try.prog W = .ok (.agg ([(.slice none 0 0), (.slice none 0 0), (.slice none 0 0), (.slice none 0 0), (.slice none 0 0), (.slice none 0 0), (.slice none 0 0), (.slice none 0 0), (.slice none 0 0), (.slice none 0 0), (.slice none 0 0), (.slice none 0 0), (.slice none 0 0), (.slice none 0 0), (.slice none 0 0), (.slice none 0 0), (.slice none 0 0), (.slice none 0 0), (.slice none 0 0), (.slice none 0 0), (.slice none 0 0), (.slice none 0 0), (.slice none 0 0), (.slice none 0 0), (.slice none 0 0), (.slice none 0 0), (.slice none 0 0), (.slice none 0 0), (.slice none 0 0), (.slice none 0 0), (.slice none 0 0), (.slice none 0 0), (.map z1)] : List Value).toArray) W := by kernel_rfl
theorem bd97_0_1 (z0 : Int) (z1 : Int) (W : World) : (Instr.build 97 ([(0, .int .i64 z0), (1, .int .i64 z1)] : List (Nat × Value)).toArray).run Try.prog W = .ok (.agg ([(.int .i64 z0), (.int .i64 z1)] : List Value).toArray) W := by kernel_rfl
theorem mixed : Try.prog.follows .mixedOrders = true := by kernel_rfl
variable {n : Nat} {f : Nat → Value} {ty : TypeId} {pos : String} {af : Array Edge} {g : Option (Nat × Bool)} {xs : Array Operand} {tys : Array TypeId} {dst : Option Tmp} {vs : List Value}
theorem ca8 {n : Sz} {f : Nat → Value} {ty : TypeId} {pos : String} {af : Array Edge} {g : Option (Nat × Bool)} {xs : Array Operand} {tys : Array TypeId} {dst : Option Tmp} {vs : List Value} (hv : xs.toList.map (ev n f) = vs) (W : World) : (execOp (ev n f) ⟨dst, .call ⟨.value (.func 8), xs, tys⟩, ty, pos, af, g⟩).run Try.prog W = .ok (.enter 8 vs.toArray) W := r_call Try.func8 (by kernel_rfl) (by kernel_rfl) hv W
theorem ca9 {n : Sz} {f : Nat → Value} {ty : TypeId} {pos : String} {af : Array Edge} {g : Option (Nat × Bool)} {xs : Array Operand} {tys : Array TypeId} {dst : Option Tmp} {vs : List Value} (hv : xs.toList.map (ev n f) = vs) (W : World) : (execOp (ev n f) ⟨dst, .call ⟨.value (.func 9), xs, tys⟩, ty, pos, af, g⟩).run Try.prog W = .ok (.enter 9 vs.toArray) W := r_call Try.func9 (by kernel_rfl) (by kernel_rfl) hv W
theorem ca10 {n : Sz} {f : Nat → Value} {ty : TypeId} {pos : String} {af : Array Edge} {g : Option (Nat × Bool)} {xs : Array Operand} {tys : Array TypeId} {dst : Option Tmp} {vs : List Value} (hv : xs.toList.map (ev n f) = vs) (W : World) : (execOp (ev n f) ⟨dst, .call ⟨.value (.func 10), xs, tys⟩, ty, pos, af, g⟩).run Try.prog W = .ok (.enter 10 vs.toArray) W := r_call Try.func10 (by kernel_rfl) (by kernel_rfl) hv W
theorem ca11 {n : Sz} {f : Nat → Value} {ty : TypeId} {pos : String} {af : Array Edge} {g : Option (Nat × Bool)} {xs : Array Operand} {tys : Array TypeId} {dst : Option Tmp} {vs : List Value} (hv : xs.toList.map (ev n f) = vs) (W : World) : (execOp (ev n f) ⟨dst, .call ⟨.value (.func 11), xs, tys⟩, ty, pos, af, g⟩).run Try.prog W = .ok (.enter 11 vs.toArray) W := r_call Try.func11 (by kernel_rfl) (by kernel_rfl) hv W
theorem ca12 {n : Sz} {f : Nat → Value} {ty : TypeId} {pos : String} {af : Array Edge} {g : Option (Nat × Bool)} {xs : Array Operand} {tys : Array TypeId} {dst : Option Tmp} {vs : List Value} (hv : xs.toList.map (ev n f) = vs) (W : World) : (execOp (ev n f) ⟨dst, .call ⟨.value (.func 12), xs, tys⟩, ty, pos, af, g⟩).run Try.prog W = .ok (.enter 12 vs.toArray) W := r_call Try.func12 (by kernel_rfl) (by kernel_rfl) hv W
theorem ca13 {n : Sz} {f : Nat → Value} {ty : TypeId} {pos : String} {af : Array Edge} {g : Option (Nat × Bool)} {xs : Array Operand} {tys : Array TypeId} {dst : Option Tmp} {vs : List Value} (hv : xs.toList.map (ev n f) = vs) (W : World) : (execOp (ev n f) ⟨dst, .call ⟨.value (.func 13), xs, tys⟩, ty, pos, af, g⟩).run Try.prog W = .ok (.enter 13 vs.toArray) W := r_call Try.func13 (by kernel_rfl) (by kernel_rfl) hv W
theorem ca14 {n : Sz} {f : Nat → Value} {ty : TypeId} {pos : String} {af : Array Edge} {g : Option (Nat × Bool)} {xs : Array Operand} {tys : Array TypeId} {dst : Option Tmp} {vs : List Value} (hv : xs.toList.map (ev n f) = vs) (W : World) : (execOp (ev n f) ⟨dst, .call ⟨.value (.func 14), xs, tys⟩, ty, pos, af, g⟩).run Try.prog W = .ok (.enter 14 vs.toArray) W := r_call Try.func14 (by kernel_rfl) (by kernel_rfl) hv W
theorem ca15 {n : Sz} {f : Nat → Value} {ty : TypeId} {pos : String} {af : Array Edge} {g : Option (Nat × Bool)} {xs : Array Operand} {tys : Array TypeId} {dst : Option Tmp} {vs : List Value} (hv : xs.toList.map (ev n f) = vs) (W : World) : (execOp (ev n f) ⟨dst, .call ⟨.value (.func 15), xs, tys⟩, ty, pos, af, g⟩).run Try.prog W = .ok (.enter 15 vs.toArray) W := r_call Try.func15 (by kernel_rfl) (by kernel_rfl) hv W
theorem ca16 {n : Sz} {f : Nat → Value} {ty : TypeId} {pos : String} {af : Array Edge} {g : Option (Nat × Bool)} {xs : Array Operand} {tys : Array TypeId} {dst : Option Tmp} {vs : List Value} (hv : xs.toList.map (ev n f) = vs) (W : World) : (execOp (ev n f) ⟨dst, .call ⟨.value (.func 16), xs, tys⟩, ty, pos, af, g⟩).run Try.prog W = .ok (.enter 16 vs.toArray) W := r_call Try.func16 (by kernel_rfl) (by kernel_rfl) hv W
theorem ca17 {n : Sz} {f : Nat → Value} {ty : TypeId} {pos : String} {af : Array Edge} {g : Option (Nat × Bool)} {xs : Array Operand} {tys : Array TypeId} {dst : Option Tmp} {vs : List Value} (hv : xs.toList.map (ev n f) = vs) (W : World) : (execOp (ev n f) ⟨dst, .call ⟨.value (.func 17), xs, tys⟩, ty, pos, af, g⟩).run Try.prog W = .ok (.enter 17 vs.toArray) W := r_call Try.func17 (by kernel_rfl) (by kernel_rfl) hv W
theorem ca47 {n : Sz} {f : Nat → Value} {ty : TypeId} {pos : String} {af : Array Edge} {g : Option (Nat × Bool)} {xs : Array Operand} {tys : Array TypeId} {dst : Option Tmp} {vs : List Value} (hv : xs.toList.map (ev n f) = vs) (W : World) : (execOp (ev n f) ⟨dst, .call ⟨.value (.func 47), xs, tys⟩, ty, pos, af, g⟩).run Try.prog W = .ok (.enter 47 vs.toArray) W := r_call Try.func47 (by kernel_rfl) (by kernel_rfl) hv W
theorem ca48 {n : Sz} {f : Nat → Value} {ty : TypeId} {pos : String} {af : Array Edge} {g : Option (Nat × Bool)} {xs : Array Operand} {tys : Array TypeId} {dst : Option Tmp} {vs : List Value} (hv : xs.toList.map (ev n f) = vs) (W : World) : (execOp (ev n f) ⟨dst, .call ⟨.value (.func 48), xs, tys⟩, ty, pos, af, g⟩).run Try.prog W = .ok (.enter 48 vs.toArray) W := r_call Try.func48 (by kernel_rfl) (by kernel_rfl) hv W
theorem ca49 {n : Sz} {f : Nat → Value} {ty : TypeId} {pos : String} {af : Array Edge} {g : Option (Nat × Bool)} {xs : Array Operand} {tys : Array TypeId} {dst : Option Tmp} {vs : List Value} (hv : xs.toList.map (ev n f) = vs) (W : World) : (execOp (ev n f) ⟨dst, .call ⟨.value (.func 49), xs, tys⟩, ty, pos, af, g⟩).run Try.prog W = .ok (.enter 49 vs.toArray) W := r_call Try.func49 (by kernel_rfl) (by kernel_rfl) hv W
theorem ca50 {n : Sz} {f : Nat → Value} {ty : TypeId} {pos : String} {af : Array Edge} {g : Option (Nat × Bool)} {xs : Array Operand} {tys : Array TypeId} {dst : Option Tmp} {vs : List Value} (hv : xs.toList.map (ev n f) = vs) (W : World) : (execOp (ev n f) ⟨dst, .call ⟨.value (.func 50), xs, tys⟩, ty, pos, af, g⟩).run Try.prog W = .ok (.enter 50 vs.toArray) W := r_call Try.func50 (by kernel_rfl) (by kernel_rfl) hv W
theorem ca51 {n : Sz} {f : Nat → Value} {ty : TypeId} {pos : String} {af : Array Edge} {g : Option (Nat × Bool)} {xs : Array Operand} {tys : Array TypeId} {dst : Option Tmp} {vs : List Value} (hv : xs.toList.map (ev n f) = vs) (W : World) : (execOp (ev n f) ⟨dst, .call ⟨.value (.func 51), xs, tys⟩, ty, pos, af, g⟩).run Try.prog W = .ok (.enter 51 vs.toArray) W := r_call Try.func51 (by kernel_rfl) (by kernel_rfl) hv W
theorem ca52 {n : Sz} {f : Nat → Value} {ty : TypeId} {pos : String} {af : Array Edge} {g : Option (Nat × Bool)} {xs : Array Operand} {tys : Array TypeId} {dst : Option Tmp} {vs : List Value} (hv : xs.toList.map (ev n f) = vs) (W : World) : (execOp (ev n f) ⟨dst, .call ⟨.value (.func 52), xs, tys⟩, ty, pos, af, g⟩).run Try.prog W = .ok (.enter 52 vs.toArray) W := r_call Try.func52 (by kernel_rfl) (by kernel_rfl) hv W
theorem ca53 {n : Sz} {f : Nat → Value} {ty : TypeId} {pos : String} {af : Array Edge} {g : Option (Nat × Bool)} {xs : Array Operand} {tys : Array TypeId} {dst : Option Tmp} {vs : List Value} (hv : xs.toList.map (ev n f) = vs) (W : World) : (execOp (ev n f) ⟨dst, .call ⟨.value (.func 53), xs, tys⟩, ty, pos, af, g⟩).run Try.prog W = .ok (.enter 53 vs.toArray) W := r_call Try.func53 (by kernel_rfl) (by kernel_rfl) hv W
theorem ca54 {n : Sz} {f : Nat → Value} {ty : TypeId} {pos : String} {af : Array Edge} {g : Option (Nat × Bool)} {xs : Array Operand} {tys : Array TypeId} {dst : Option Tmp} {vs : List Value} (hv : xs.toList.map (ev n f) = vs) (W : World) : (execOp (ev n f) ⟨dst, .call ⟨.value (.func 54), xs, tys⟩, ty, pos, af, g⟩).run Try.prog W = .ok (.enter 54 vs.toArray) W := r_call Try.func54 (by kernel_rfl) (by kernel_rfl) hv W
theorem ca55 {n : Sz} {f : Nat → Value} {ty : TypeId} {pos : String} {af : Array Edge} {g : Option (Nat × Bool)} {xs : Array Operand} {tys : Array TypeId} {dst : Option Tmp} {vs : List Value} (hv : xs.toList.map (ev n f) = vs) (W : World) : (execOp (ev n f) ⟨dst, .call ⟨.value (.func 55), xs, tys⟩, ty, pos, af, g⟩).run Try.prog W = .ok (.enter 55 vs.toArray) W := r_call Try.func55 (by kernel_rfl) (by kernel_rfl) hv W
theorem ca56 {n : Sz} {f : Nat → Value} {ty : TypeId} {pos : String} {af : Array Edge} {g : Option (Nat × Bool)} {xs : Array Operand} {tys : Array TypeId} {dst : Option Tmp} {vs : List Value} (hv : xs.toList.map (ev n f) = vs) (W : World) : (execOp (ev n f) ⟨dst, .call ⟨.value (.func 56), xs, tys⟩, ty, pos, af, g⟩).run Try.prog W = .ok (.enter 56 vs.toArray) W := r_call Try.func56 (by kernel_rfl) (by kernel_rfl) hv W
theorem ca57 {n : Sz} {f : Nat → Value} {ty : TypeId} {pos : String} {af : Array Edge} {g : Option (Nat × Bool)} {xs : Array Operand} {tys : Array TypeId} {dst : Option Tmp} {vs : List Value} (hv : xs.toList.map (ev n f) = vs) (W : World) : (execOp (ev n f) ⟨dst, .call ⟨.value (.func 57), xs, tys⟩, ty, pos, af, g⟩).run Try.prog W = .ok (.enter 57 vs.toArray) W := r_call Try.func57 (by kernel_rfl) (by kernel_rfl) hv W
theorem ca74 {n : Sz} {f : Nat → Value} {ty : TypeId} {pos : String} {af : Array Edge} {g : Option (Nat × Bool)} {xs : Array Operand} {tys : Array TypeId} {dst : Option Tmp} {vs : List Value} (hv : xs.toList.map (ev n f) = vs) (W : World) : (execOp (ev n f) ⟨dst, .call ⟨.value (.func 74), xs, tys⟩, ty, pos, af, g⟩).run Try.prog W = .ok (.enter 74 vs.toArray) W := r_call Try.func74 (by kernel_rfl) (by kernel_rfl) hv W
theorem ca75 {n : Sz} {f : Nat → Value} {ty : TypeId} {pos : String} {af : Array Edge} {g : Option (Nat × Bool)} {xs : Array Operand} {tys : Array TypeId} {dst : Option Tmp} {vs : List Value} (hv : xs.toList.map (ev n f) = vs) (W : World) : (execOp (ev n f) ⟨dst, .call ⟨.value (.func 75), xs, tys⟩, ty, pos, af, g⟩).run Try.prog W = .ok (.enter 75 vs.toArray) W := r_call Try.func75 (by kernel_rfl) (by kernel_rfl) hv W
theorem ca76 {n : Sz} {f : Nat → Value} {ty : TypeId} {pos : String} {af : Array Edge} {g : Option (Nat × Bool)} {xs : Array Operand} {tys : Array TypeId} {dst : Option Tmp} {vs : List Value} (hv : xs.toList.map (ev n f) = vs) (W : World) : (execOp (ev n f) ⟨dst, .call ⟨.value (.func 76), xs, tys⟩, ty, pos, af, g⟩).run Try.prog W = .ok (.enter 76 vs.toArray) W := r_call Try.func76 (by kernel_rfl) (by kernel_rfl) hv W
theorem ca77 {n : Sz} {f : Nat → Value} {ty : TypeId} {pos : String} {af : Array Edge} {g : Option (Nat × Bool)} {xs : Array Operand} {tys : Array TypeId} {dst : Option Tmp} {vs : List Value} (hv : xs.toList.map (ev n f) = vs) (W : World) : (execOp (ev n f) ⟨dst, .call ⟨.value (.func 77), xs, tys⟩, ty, pos, af, g⟩).run Try.prog W = .ok (.enter 77 vs.toArray) W := r_call Try.func77 (by kernel_rfl) (by kernel_rfl) hv W
theorem ca78 {n : Sz} {f : Nat → Value} {ty : TypeId} {pos : String} {af : Array Edge} {g : Option (Nat × Bool)} {xs : Array Operand} {tys : Array TypeId} {dst : Option Tmp} {vs : List Value} (hv : xs.toList.map (ev n f) = vs) (W : World) : (execOp (ev n f) ⟨dst, .call ⟨.value (.func 78), xs, tys⟩, ty, pos, af, g⟩).run Try.prog W = .ok (.enter 78 vs.toArray) W := r_call Try.func78 (by kernel_rfl) (by kernel_rfl) hv W
theorem ca79 {n : Sz} {f : Nat → Value} {ty : TypeId} {pos : String} {af : Array Edge} {g : Option (Nat × Bool)} {xs : Array Operand} {tys : Array TypeId} {dst : Option Tmp} {vs : List Value} (hv : xs.toList.map (ev n f) = vs) (W : World) : (execOp (ev n f) ⟨dst, .call ⟨.value (.func 79), xs, tys⟩, ty, pos, af, g⟩).run Try.prog W = .ok (.enter 79 vs.toArray) W := r_call Try.func79 (by kernel_rfl) (by kernel_rfl) hv W
theorem ca80 {n : Sz} {f : Nat → Value} {ty : TypeId} {pos : String} {af : Array Edge} {g : Option (Nat × Bool)} {xs : Array Operand} {tys : Array TypeId} {dst : Option Tmp} {vs : List Value} (hv : xs.toList.map (ev n f) = vs) (W : World) : (execOp (ev n f) ⟨dst, .call ⟨.value (.func 80), xs, tys⟩, ty, pos, af, g⟩).run Try.prog W = .ok (.enter 80 vs.toArray) W := r_call Try.func80 (by kernel_rfl) (by kernel_rfl) hv W
theorem ca81 {n : Sz} {f : Nat → Value} {ty : TypeId} {pos : String} {af : Array Edge} {g : Option (Nat × Bool)} {xs : Array Operand} {tys : Array TypeId} {dst : Option Tmp} {vs : List Value} (hv : xs.toList.map (ev n f) = vs) (W : World) : (execOp (ev n f) ⟨dst, .call ⟨.value (.func 81), xs, tys⟩, ty, pos, af, g⟩).run Try.prog W = .ok (.enter 81 vs.toArray) W := r_call Try.func81 (by kernel_rfl) (by kernel_rfl) hv W
theorem ca82 {n : Sz} {f : Nat → Value} {ty : TypeId} {pos : String} {af : Array Edge} {g : Option (Nat × Bool)} {xs : Array Operand} {tys : Array TypeId} {dst : Option Tmp} {vs : List Value} (hv : xs.toList.map (ev n f) = vs) (W : World) : (execOp (ev n f) ⟨dst, .call ⟨.value (.func 82), xs, tys⟩, ty, pos, af, g⟩).run Try.prog W = .ok (.enter 82 vs.toArray) W := r_call Try.func82 (by kernel_rfl) (by kernel_rfl) hv W
theorem ca97 {n : Sz} {f : Nat → Value} {ty : TypeId} {pos : String} {af : Array Edge} {g : Option (Nat × Bool)} {xs : Array Operand} {tys : Array TypeId} {dst : Option Tmp} {vs : List Value} (hv : xs.toList.map (ev n f) = vs) (W : World) : (execOp (ev n f) ⟨dst, .call ⟨.value (.func 97), xs, tys⟩, ty, pos, af, g⟩).run Try.prog W = .ok (.enter 97 vs.toArray) W := r_call Try.func97 (by kernel_rfl) (by kernel_rfl) hv W
theorem ca99 {n : Sz} {f : Nat → Value} {ty : TypeId} {pos : String} {af : Array Edge} {g : Option (Nat × Bool)} {xs : Array Operand} {tys : Array TypeId} {dst : Option Tmp} {vs : List Value} (hv : xs.toList.map (ev n f) = vs) (W : World) : (execOp (ev n f) ⟨dst, .call ⟨.value (.func 99), xs, tys⟩, ty, pos, af, g⟩).run Try.prog W = .ok (.enter 99 vs.toArray) W := r_call Try.func99 (by kernel_rfl) (by kernel_rfl) hv W
theorem ca127 {n : Sz} {f : Nat → Value} {ty : TypeId} {pos : String} {af : Array Edge} {g : Option (Nat × Bool)} {xs : Array Operand} {tys : Array TypeId} {dst : Option Tmp} {vs : List Value} (hv : xs.toList.map (ev n f) = vs) (W : World) : (execOp (ev n f) ⟨dst, .call ⟨.value (.func 127), xs, tys⟩, ty, pos, af, g⟩).run Try.prog W = .ok (.enter 127 vs.toArray) W := r_call Try.func127 (by kernel_rfl) (by kernel_rfl) hv W
end Go.Proofs.Ytlakbclnilakbaa
end

section
namespace Go.Proofs.Ytlakbclnilakbaa
open Go.RowKit

end Go.Proofs.Ytlakbclnilakbaa
end

section
namespace Go.Proofs.Ytlakbclnilakbaa
open Go.RowKit
set_option maxRecDepth 100000
set_option maxHeartbeats 2000000
theorem rIntsT (A B : Option Addr) (n c d : Nat) (l : List Int) (w : World) (hA : Sees (Value.int .i64) w [] A l) (hB : Sees (Value.int .i64) w [] B l) (hl : l.length = n) (hn : n ≤ 1000000000) :
  Calls Try.prog 12 [.slice A n c, .slice B n d].toArray w fun e w' => e = .returned (.bool true) ∧ Only [] w w' := by
 have H := Heap.nil w
 refine k_in (N := 26) Try.func12 rfl rfl rfl ?_
 refine k_sg ?_
 refine s_run rfl rfl (rab rfl) ?_
 refine k_nc ?_
 refine k_seq ?_
 refine k_sg ?_
 refine s_run rfl rfl (rms rfl) ?_
 refine s_run rfl rfl (r_len rfl Try.underlying25) ?_
 refine s_run rfl rfl (rms rfl) ?_
 refine s_run rfl rfl (r_len rfl Try.underlying25) ?_
 refine s_run rfl rfl (r_neqF rfl rfl (by omega)) ?_
 refine k_nc ?_
 refine k_f rfl ?_
 refine k_skip ?_
 refine c_norm ?_
 refine k_seq ?_
 refine k_sg ?_
 refine s_run rfl rfl (rai rfl) ?_
 refine k_nc ?_
 refine k_b ?_
 refine k_loop (fun z f W => ∃ (i : Nat), i ≤ n ∧ z = n - i ∧ f 0 = .slice A n c ∧ f 1 = .slice B n d ∧ f 5 = .int .i64 i ∧ Heap w [] [] W) n ⟨0, by omega, rfl, rfl, rfl, rfl, H⟩ ?_
 clear H
 rintro z f W ⟨i, hi, rfl, f0, f1, f5, H⟩
 by_cases hlt : i < n
 ·obtain ⟨y, hy⟩ : ∃ y, l[i]? = some y := ⟨_, List.getElem?_eq_getElem (by omega)⟩
  obtain ⟨b, o, rfl, _, hrd⟩ := hA (by omega)
  have hc0 := hrd i y hy
  obtain ⟨b', o', rfl, _, hrd'⟩ := hB (by omega)
  have hc1 := hrd' i y hy
  obtain ⟨f, rfl⟩ := live3 f0 f1 f5
  clear f0 f1 f5
  refine k_seq ?_
  refine k_sg ?_
  refine s_run rfl rfl (rmi rfl) ?_
  refine s_run rfl rfl (rms rfl) ?_
  refine s_run rfl rfl (r_len rfl Try.underlying25) ?_
  refine s_run rfl rfl (r_lssT rfl rfl (by omega)) ?_
  refine k_nc ?_
  refine k_t rfl ?_
  refine k_skip ?_
  refine c_norm ?_
  refine k_seq ?_
  refine k_b ?_
  refine k_seq ?_
  refine k_q mixed (by kernel_rfl) H ?_
  refine q_run rfl rfl (fun _ H => r_mv (v := .slice _ _ _) rfl) ?_
  refine q_run rfl rfl (fun _ H => r_mv (v := .int _ _) rfl) ?_
  first | (refine q_run rfl rfl (fun _ H => r_ix1 (i := i) rfl rfl (by omega) (by omega) Try.underlying25 sz3) ?_) | (refine q_run rfl rfl (fun _ H => r_ix1o (i := i) rfl rfl (by omega) (by omega) Try.underlying25 sz3) ?_) | fail
  refine q_run rfl rfl (fun _ H => r_lr H rfl hc0 (by simp) ag3) ?_
  refine q_run rfl rfl (fun _ H => r_mv (v := .slice _ _ _) rfl) ?_
  refine q_run rfl rfl (fun _ H => r_mv (v := .int _ _) rfl) ?_
  first | (refine q_run rfl rfl (fun _ H => r_ix1 (i := i) rfl rfl (by omega) (by omega) Try.underlying25 sz3) ?_) | (refine q_run rfl rfl (fun _ H => r_ix1o (i := i) rfl rfl (by omega) (by omega) Try.underlying25 sz3) ?_) | fail
  refine q_run rfl rfl (fun _ H => r_lr H rfl hc1 (by simp) ag3) ?_
  refine q_run rfl rfl (fun _ H => r_neqF rfl rfl (by omega)) ?_
  refine q_nil ?_
  intro _ H'; clear H; have H := H'; clear H'
  refine c_norm ?_
  refine k_f rfl ?_
  refine k_skip ?_
  refine b_norm ?_
  refine c_norm ?_
  refine k_rg ?_
  refine s_run rfl rfl (rmi rfl) ?_
  refine s_run rfl rfl (r_add rfl rfl (wI (by omega))) ?_
  refine s_run rfl rfl (rai rfl) ?_
  refine k_nil ?_
  refine c_round ?_
  refine ⟨_, _, ?_, rfl, i + 1, by omega, rfl, rfl, rfl, rfl, H⟩
  omega
 ·obtain rfl : i = n := by omega
  obtain ⟨f, rfl⟩ := live3 f0 f1 f5
  clear f0 f1 f5
  refine k_seq ?_
  refine k_sg ?_
  refine s_run rfl rfl (rmi rfl) ?_
  refine s_run rfl rfl (rms rfl) ?_
  refine s_run rfl rfl (r_len rfl Try.underlying25) ?_
  refine s_run rfl rfl (r_lssF rfl rfl (by omega)) ?_
  refine k_nc ?_
  refine k_f rfl ?_
  refine k_exit ?_
  refine c_exit ?_
  refine c_exit ?_
  refine b_hit ?_
  refine c_norm ?_
  refine k_sg ?_
  refine s_run rfl rfl (rab rfl) ?_
  refine k_nc ?_
  refine k_ret ?_
  refine fin1r (v := .bool _) rfl rfl ?_
  exact ⟨rfl, H.only⟩
end Go.Proofs.Ytlakbclnilakbaa
end

section
namespace Go.Proofs.Ytlakbclnilakbaa
open Go.RowKit
set_option maxRecDepth 100000
set_option maxHeartbeats 4000000
abbrev ptrF (p : Nat) : Value := .pointer (some ⟨p, 0, none⟩)
theorem laidF : laidOutB Try.prog = true := by kernel_rfl
theorem keyedF : Go.Maps.Keyed Try.prog 97 := Go.Maps.Keyed.of_law (deep_law_laid laidF (m := 2) (by omega) (of_decide_eq_true (by kernel_rfl)) (by kernel_rfl) (by rw [Try.underlying97]))
def wf64 (a : Int) : Prop := -9223372036854775808 ≤ a ∧ a ≤ 9223372036854775807
def kF : KC Try.prog 97 (Int × Int) :=
 ⟨fun a => .agg [.int .i64 a.1, .int .i64 a.2].toArray, fun a => wf64 a.1 ∧ wf64 a.2, keyedF, fun a ha => keyOf_pairS (by kernel_rfl) (by kernel_rfl) Try.underlying3 Try.underlying3 (by kernel_rfl) (by kernel_rfl) (by kernel_rfl) (by kernel_rfl) ⟨Try.prog.types.size - 1, by kernel_rfl⟩ (wf_i64 ha.1) (wf_i64 ha.2), fun a b => agg2_inj⟩
abbrev FrM := List ((Int × Int) × RowS)
def frC (G : Nat → RowS) (b : Nat) : List Value := fnC 33 fun i => if i = 32 then .map (some b) else (G (i * 5)).v
def frE (p b : Nat) (G F : Nat → RowS) (l : FrM) : List Ent := [blk p (frC G b) 95, mp kF RowS.v b l, fam 3 160 F]
theorem frC_get {G : Nat → RowS} {b k : Nat} (hk : k < 32) : (frC G b)[k]? = some (.slice (G (k * 5)).A (G (k * 5)).n (G (k * 5)).c) := by
 unfold frC; rw [fnC_get (by omega), if_neg (by omega)]; rfl
theorem frC_map (G : Nat → RowS) (b : Nat) : (frC G b)[32]? = some (.map (some b)) := by
 unfold frC; rw [fnC_get (by omega), if_pos rfl]
theorem frC_set {G : Nat → RowS} {b k : Nat} {r : RowS} (hk : k < 32) : (frC G b).set k (.slice r.A r.n r.c) = frC (updR G (k * 5) r) b := by
 unfold frC
 rw [fnC_set]
 refine fnC_congr fun i hi => ?_
 unfold updR
 by_cases e : i = k
 ·subst e; rw [if_pos rfl, if_neg (by omega), if_pos rfl]; rfl
 ·rw [if_neg e]
  by_cases e2 : i = 32
  ·rw [if_pos e2, if_pos e2]
  ·rw [if_neg e2, if_neg e2, if_neg (by omega)]
structure FrOk (F : Nat → RowS) (l : FrM) (N : Nat) : Prop where
 keys : ∀ x ∈ l, 0 ≤ x.1.1 ∧ x.1.1 < 4 ∧ 0 ≤ x.1.2 ∧ x.1.2 < 32
 got : ∀ m k : Nat, m < 4 → k < 32 → mget l ((m : Int), (k : Int)) = some (F (k * 5 + 1 + m)) ∨ mget l ((m : Int), (k : Int)) = none ∧ F (k * 5 + 1 + m) = RowS.nil
 len : ∀ i, i < 160 → (F i).n ≤ N
theorem cRight (k : Int) (w : World) : Calls Try.prog 52 [.int .i64 k].toArray w fun e w' => e = .returned (.bool (isC k)) ∧ Only [] w w' := by
 have H := Heap.nil w
 unfold isC
 by_cases h1 : 0 ≤ k
 ·by_cases h2 : k < 32
  ·rw [decide_eq_true ⟨h1, h2⟩]
   refine k_in (N := 9) Try.func52 rfl rfl rfl ?_
   refine k_sg ?_
   refine s_run rfl rfl (rab rfl) ?_
   refine k_nc ?_
   refine k_sg ?_
   refine s_run rfl rfl (rmi rfl) ?_
   refine s_run rfl rfl (r_geqT rfl rfl (by omega)) ?_
   refine s_run rfl rfl (rmb rfl) ?_
   refine s_run rfl (g_on 5 (by kernel_rfl) rfl) (rmi rfl) ?_
   refine s_run rfl (g_on 5 (by kernel_rfl) rfl) (r_lssT rfl rfl (by omega)) ?_
   refine s_run rfl rfl (r_pkT (v := .bool _) rfl rfl) ?_
   refine s_run rfl rfl (rab rfl) ?_
   refine k_nc ?_
   refine k_ret ?_
   refine fin1r (v := .bool _) rfl rfl ?_
   exact ⟨rfl, H.only⟩
  ·rw [decide_eq_false (fun h => h2 h.2)]
   refine k_in (N := 9) Try.func52 rfl rfl rfl ?_
   refine k_sg ?_
   refine s_run rfl rfl (rab rfl) ?_
   refine k_nc ?_
   refine k_sg ?_
   refine s_run rfl rfl (rmi rfl) ?_
   refine s_run rfl rfl (r_geqT rfl rfl (by omega)) ?_
   refine s_run rfl rfl (rmb rfl) ?_
   refine s_run rfl (g_on 5 (by kernel_rfl) rfl) (rmi rfl) ?_
   refine s_run rfl (g_on 5 (by kernel_rfl) rfl) (r_lssF rfl rfl (by omega)) ?_
   refine s_run rfl rfl (r_pkT (v := .bool _) rfl rfl) ?_
   refine s_run rfl rfl (rab rfl) ?_
   refine k_nc ?_
   refine k_ret ?_
   refine fin1r (v := .bool _) rfl rfl ?_
   exact ⟨rfl, H.only⟩
 ·rw [decide_eq_false (fun h => h1 h.1)]
  refine k_in (N := 9) Try.func52 rfl rfl rfl ?_
  refine k_sg ?_
  refine s_run rfl rfl (rab rfl) ?_
  refine k_nc ?_
  refine k_sg ?_
  refine s_run rfl rfl (rmi rfl) ?_
  refine s_run rfl rfl (r_geqF rfl rfl (by omega)) ?_
  refine s_run rfl rfl (rmb rfl) ?_
  refine s_off rfl (g_off 5 (by kernel_rfl) rfl rfl) ?_
  refine s_off rfl (g_off 5 (by kernel_rfl) rfl rfl) ?_
  refine s_run rfl rfl (r_pkF (v := .bool _) rfl rfl) ?_
  refine s_run rfl rfl (rab rfl) ?_
  refine k_nc ?_
  refine k_ret ?_
  refine fin1r (v := .bool _) rfl rfl ?_
  exact ⟨rfl, H.only⟩
theorem fRight (m k : Int) (w : World) : Calls Try.prog 57 [.int .i64 m, .int .i64 k].toArray w fun e w' => e = .returned (.bool (isM m && isC k)) ∧ Only [] w w' := by
 have H := Heap.nil w
 have hC := fun W => cRight k W
 unfold isM
 by_cases h1 : 0 ≤ m
 ·by_cases h2 : m < 4
  ·rw [decide_eq_true ⟨h1, h2⟩, Bool.true_and]
   cases hk : isC k with
   | true =>
    simp only [hk] at hC
    refine k_in (N := 15) Try.func57 rfl rfl rfl ?_
    refine k_sg ?_
    refine s_run rfl rfl (rab rfl) ?_
    refine k_nc ?_
    refine k_sg ?_
    refine s_run rfl rfl (rmi rfl) ?_
    refine s_run rfl rfl (r_geqT rfl rfl (by omega)) ?_
    refine s_run rfl rfl (rmb rfl) ?_
    refine s_run rfl (g_on 7 (by kernel_rfl) rfl) (rmi rfl) ?_
    refine s_run rfl (g_on 7 (by kernel_rfl) rfl) (r_lssT rfl rfl (by omega)) ?_
    refine s_run rfl rfl (r_pkT (v := .bool _) rfl rfl) ?_
    refine s_run rfl rfl (rmb rfl) ?_
    refine s_run rfl (g_on 11 (by kernel_rfl) rfl) (rmi rfl) ?_
    refine s_call (g_on 11 (by kernel_rfl) rfl) (hC _) (ca52 rfl) ?_
    rintro e W1 ⟨rfl, H'⟩
    refine ⟨_, rfl, ?_⟩
    have H := H.same H'; clear H'
    refine s_run rfl rfl (r_pkT (v := .bool _) rfl rfl) ?_
    refine s_run rfl rfl (rab rfl) ?_
    refine k_nc ?_
    refine k_ret ?_
    refine fin1r (v := .bool _) rfl rfl ?_
    exact ⟨rfl, H.only⟩
   | false =>
    simp only [hk] at hC
    refine k_in (N := 15) Try.func57 rfl rfl rfl ?_
    refine k_sg ?_
    refine s_run rfl rfl (rab rfl) ?_
    refine k_nc ?_
    refine k_sg ?_
    refine s_run rfl rfl (rmi rfl) ?_
    refine s_run rfl rfl (r_geqT rfl rfl (by omega)) ?_
    refine s_run rfl rfl (rmb rfl) ?_
    refine s_run rfl (g_on 7 (by kernel_rfl) rfl) (rmi rfl) ?_
    refine s_run rfl (g_on 7 (by kernel_rfl) rfl) (r_lssT rfl rfl (by omega)) ?_
    refine s_run rfl rfl (r_pkT (v := .bool _) rfl rfl) ?_
    refine s_run rfl rfl (rmb rfl) ?_
    refine s_run rfl (g_on 11 (by kernel_rfl) rfl) (rmi rfl) ?_
    refine s_call (g_on 11 (by kernel_rfl) rfl) (hC _) (ca52 rfl) ?_
    rintro e W1 ⟨rfl, H'⟩
    refine ⟨_, rfl, ?_⟩
    have H := H.same H'; clear H'
    refine s_run rfl rfl (r_pkT (v := .bool _) rfl rfl) ?_
    refine s_run rfl rfl (rab rfl) ?_
    refine k_nc ?_
    refine k_ret ?_
    refine fin1r (v := .bool _) rfl rfl ?_
    exact ⟨rfl, H.only⟩
  ·rw [decide_eq_false (fun h => h2 h.2), Bool.false_and]
   refine k_in (N := 15) Try.func57 rfl rfl rfl ?_
   refine k_sg ?_
   refine s_run rfl rfl (rab rfl) ?_
   refine k_nc ?_
   refine k_sg ?_
   refine s_run rfl rfl (rmi rfl) ?_
   refine s_run rfl rfl (r_geqT rfl rfl (by omega)) ?_
   refine s_run rfl rfl (rmb rfl) ?_
   refine s_run rfl (g_on 7 (by kernel_rfl) rfl) (rmi rfl) ?_
   refine s_run rfl (g_on 7 (by kernel_rfl) rfl) (r_lssF rfl rfl (by omega)) ?_
   refine s_run rfl rfl (r_pkT (v := .bool _) rfl rfl) ?_
   refine s_run rfl rfl (rmb rfl) ?_
   refine s_off rfl (g_off 11 (by kernel_rfl) rfl rfl) ?_
   refine s_off rfl (g_off 11 (by kernel_rfl) rfl rfl) ?_
   refine s_run rfl rfl (r_pkF (v := .bool _) rfl rfl) ?_
   refine s_run rfl rfl (rab rfl) ?_
   refine k_nc ?_
   refine k_ret ?_
   refine fin1r (v := .bool _) rfl rfl ?_
   exact ⟨rfl, H.only⟩
 ·rw [decide_eq_false (fun h => h1 h.1), Bool.false_and]
  refine k_in (N := 15) Try.func57 rfl rfl rfl ?_
  refine k_sg ?_
  refine s_run rfl rfl (rab rfl) ?_
  refine k_nc ?_
  refine k_sg ?_
  refine s_run rfl rfl (rmi rfl) ?_
  refine s_run rfl rfl (r_geqF rfl rfl (by omega)) ?_
  refine s_run rfl rfl (rmb rfl) ?_
  refine s_off rfl (g_off 7 (by kernel_rfl) rfl rfl) ?_
  refine s_off rfl (g_off 7 (by kernel_rfl) rfl rfl) ?_
  refine s_run rfl rfl (r_pkF (v := .bool _) rfl rfl) ?_
  refine s_run rfl rfl (rmb rfl) ?_
  refine s_off rfl (g_off 11 (by kernel_rfl) rfl rfl) ?_
  refine s_off rfl (g_off 11 (by kernel_rfl) rfl rfl) ?_
  refine s_run rfl rfl (r_pkF (v := .bool _) rfl rfl) ?_
  refine s_run rfl rfl (rab rfl) ?_
  refine k_nc ?_
  refine k_ret ?_
  refine fin1r (v := .bool _) rfl rfl ?_
  exact ⟨rfl, H.only⟩
theorem sIndex (A : Option Addr) (n c : Nat) (l : List Int) (x : Int) (w : World) (hS : Sees (Value.int .i64) w [] A l) (hl : l.length = n) (hn : n ≤ 1000000) :
  Calls Try.prog 82 [.slice A n c, .int .i64 x].toArray w fun e w' => (∃ r, e = .returned (.int .i64 r) ∧ (x ∉ l ∧ r = -1 ∨ x ∈ l ∧ 0 ≤ r)) ∧ Only [] w w' := by
 have H := Heap.nil w
 refine k_in (N := 19) Try.func82 rfl rfl rfl ?_
 refine k_sg ?_
 refine s_run rfl rfl (rai rfl) ?_
 refine k_nc ?_
 refine k_seq ?_
 refine k_sg ?_
 refine s_run rfl rfl (rms rfl) ?_
 refine s_run rfl rfl (r_len rfl Try.underlying25) ?_
 refine s_run rfl rfl (rmi rfl) ?_
 refine k_nc ?_
 refine k_b ?_
 refine k_loop (fun z f W => ∃ (i : Nat), i ≤ n ∧ z = n - i ∧ x ∉ l.take i ∧ f 0 = .slice A n c ∧ f 1 = .int .i64 x ∧ f 7 = .int .i64 n ∧ f 8 = .int .i64 i ∧ Heap w [] [] W) n ⟨0, by omega, rfl, by simp, rfl, rfl, rfl, rfl, H⟩ ?_
 clear H
 rintro z f W ⟨i, hi, rfl, hno, f0, f1, f7, f8, H⟩
 obtain ⟨f, rfl⟩ := live4 f0 f1 f7 f8
 clear f0 f1 f7 f8
 by_cases hlt : i < n
 ·obtain ⟨y, hy⟩ : ∃ y, l[i]? = some y := ⟨_, List.getElem?_eq_getElem (by omega)⟩
  obtain ⟨b, o, rfl, _, hrd⟩ := hS (by omega)
  have hc := hrd i y hy
  by_cases e : x = y
  ·refine k_sg ?_
   refine s_run rfl rfl (r_lssT rfl rfl (by omega)) ?_
   refine k_nc ?_
   refine k_seq ?_
   refine k_t rfl ?_
   refine k_skip ?_
   refine c_norm ?_
   refine k_seq ?_
   refine k_b ?_
   refine k_sg ?_
   refine s_run rfl rfl (rmi rfl) ?_
   refine s_run rfl rfl (rai rfl) ?_
   refine k_nc ?_
   refine k_sg ?_
   refine s_run rfl rfl (rmi rfl) ?_
   refine s_run rfl rfl (rms rfl) ?_
   refine s_run rfl rfl (rmi rfl) ?_
   refine s_run rfl rfl (r_ix1o (i := i) rfl rfl (by omega) (by omega) Try.underlying25 sz3) ?_
   refine s_run rfl rfl (r_lr H rfl hc (by simp) ag3) ?_
   refine s_run rfl rfl (r_eqlT rfl rfl (by omega)) ?_
   refine k_nc ?_
   refine k_t rfl ?_
   refine k_sg ?_
   refine s_run rfl rfl (rmi rfl) ?_
   refine s_run rfl rfl (rai rfl) ?_
   refine k_nc ?_
   refine k_ret ?_
   refine b_ret ?_
   refine c_ret ?_
   refine c_ret ?_
   refine b_ret ?_
   refine c_ret ?_
   refine fin1r (v := .int _ _) rfl rfl ?_
   exact ⟨⟨_, rfl, .inr ⟨by rw [e]; exact List.mem_of_getElem? hy, by omega⟩⟩, H.only⟩
  ·refine k_sg ?_
   refine s_run rfl rfl (r_lssT rfl rfl (by omega)) ?_
   refine k_nc ?_
   refine k_seq ?_
   refine k_t rfl ?_
   refine k_skip ?_
   refine c_norm ?_
   refine k_seq ?_
   refine k_b ?_
   refine k_sg ?_
   refine s_run rfl rfl (rmi rfl) ?_
   refine s_run rfl rfl (rai rfl) ?_
   refine k_nc ?_
   refine k_sg ?_
   refine s_run rfl rfl (rmi rfl) ?_
   refine s_run rfl rfl (rms rfl) ?_
   refine s_run rfl rfl (rmi rfl) ?_
   refine s_run rfl rfl (r_ix1o (i := i) rfl rfl (by omega) (by omega) Try.underlying25 sz3) ?_
   refine s_run rfl rfl (r_lr H rfl hc (by simp) ag3) ?_
   refine s_run rfl rfl (r_eqlF rfl rfl (by omega)) ?_
   refine k_nc ?_
   refine k_f rfl ?_
   refine k_skip ?_
   refine b_norm ?_
   refine c_norm ?_
   refine k_rg ?_
   refine s_run rfl rfl (r_add rfl rfl (wI (by omega))) ?_
   refine s_run rfl rfl (rmi rfl) ?_
   refine k_nil ?_
   refine c_round ?_
   refine ⟨_, _, ?_, rfl, i + 1, by omega, rfl, ?_, rfl, rfl, rfl, rfl, H⟩
   ·omega
   ·rw [← tk_snoc hy]; simp [hno, e]
 ·obtain rfl : i = n := by omega
  rw [show l.take i = l by rw [← hl]; exact List.take_length] at hno
  refine k_sg ?_
  refine s_run rfl rfl (r_lssF rfl rfl (by omega)) ?_
  refine k_nc ?_
  refine k_seq ?_
  refine k_f rfl ?_
  refine k_exit ?_
  refine c_exit ?_
  refine c_exit ?_
  refine b_hit ?_
  refine c_norm ?_
  refine k_sg ?_
  refine s_run rfl rfl (rai rfl) ?_
  refine k_nc ?_
  refine k_ret ?_
  refine fin1r (v := .int _ _) rfl rfl ?_
  exact ⟨⟨_, rfl, .inl ⟨hno, rfl⟩⟩, H.only⟩
theorem sContains (A : Option Addr) (n c : Nat) (l : List Int) (x : Int) (w : World) (hS : Sees (Value.int .i64) w [] A l) (hl : l.length = n) (hn : n ≤ 1000000) :
  Calls Try.prog 53 [.slice A n c, .int .i64 x].toArray w fun e w' => e = .returned (.bool (decide (x ∈ l))) ∧ Only [] w w' := by
 have H := Heap.nil w
 have hI := fun {W : World} (h : Only [] w W) => sIndex A n c l x W (hS.later h (by simp)) hl hn
 by_cases hx : x ∈ l
 ·rw [decide_eq_true hx]
  refine k_in (N := 9) Try.func53 rfl rfl rfl ?_
  refine k_sg ?_
  refine s_run rfl rfl (rab rfl) ?_
  refine k_nc ?_
  refine k_sg ?_
  refine s_run rfl rfl (rms rfl) ?_
  refine s_run rfl rfl (rmi rfl) ?_
  refine s_call rfl (hI H.only) (ca82 rfl) ?_
  rintro e W1 ⟨⟨r, rfl, hr⟩, H'⟩
  refine ⟨_, rfl, ?_⟩
  have H := H.same H'; clear H'; have h0 : 0 ≤ r := hr.elim (fun h => (h.1 hx).elim) (fun h => h.2)
  refine s_run rfl rfl (r_geqT rfl rfl (by omega)) ?_
  refine s_run rfl rfl (rab rfl) ?_
  refine k_nc ?_
  refine k_ret ?_
  refine fin1r (v := .bool _) rfl rfl ?_
  exact ⟨rfl, H.only⟩
 ·rw [decide_eq_false hx]
  refine k_in (N := 9) Try.func53 rfl rfl rfl ?_
  refine k_sg ?_
  refine s_run rfl rfl (rab rfl) ?_
  refine k_nc ?_
  refine k_sg ?_
  refine s_run rfl rfl (rms rfl) ?_
  refine s_run rfl rfl (rmi rfl) ?_
  refine s_call rfl (hI H.only) (ca82 rfl) ?_
  rintro e W1 ⟨⟨r, rfl, hr⟩, H'⟩
  refine ⟨_, rfl, ?_⟩
  have H := H.same H'; clear H'; have h0 : r = -1 := hr.elim (fun h => h.2) (fun h => (hx h.1).elim)
  refine s_run rfl rfl (r_geqF rfl rfl (by omega)) ?_
  refine s_run rfl rfl (rab rfl) ?_
  refine k_nc ?_
  refine k_ret ?_
  refine fin1r (v := .bool _) rfl rfl ?_
  exact ⟨rfl, H.only⟩
/-- a row of one's own, or nil -/
theorem sClone (A : Option Addr) (n c : Nat) (l : List Int) (w : World) (hS : Sees (Value.int .i64) w [] A l) (hl : l.length = n) (hn : n ≤ 1000000) :
  Calls Try.prog 54 [.slice A n c].toArray w fun e w' => ∃ A' c', e = .returned (.slice A' n c') ∧ Heap w [] [ownN 1 (.slice A' n c') n (l.map (Value.int .i64)) 3] w' := by
 have H := Heap.nil w
 cases A with
 | none =>
  have h0 : l.length = 0 := by
   rcases Nat.eq_zero_or_pos l.length with h0 | h0
   ·exact h0
   ·obtain ⟨q, r, e0, _⟩ := hS (by omega); cases e0
  obtain rfl : l = [] := List.eq_nil_of_length_eq_zero h0
  obtain rfl : n = 0 := by simpa using hl.symm
  refine k_in (N := 8) Try.func54 rfl rfl rfl ?_
  refine k_sg ?_
  refine s_run rfl rfl (ras rfl) ?_
  refine k_nc ?_
  refine k_seq ?_
  refine k_sg ?_
  refine s_run rfl rfl (rms rfl) ?_
  refine s_run rfl rfl (r_slnilT rfl rfl Try.underlying25) ?_
  refine k_nc ?_
  refine k_t rfl ?_
  refine k_sg ?_
  refine s_run rfl rfl (ras rfl) ?_
  refine k_nc ?_
  refine k_ret ?_
  refine c_ret ?_
  refine fin1r (v := .slice _ _ _) rfl rfl ?_
  exact ⟨none, 0, rfl, H.own_nil 1 3⟩
 | some a =>
  refine k_in (N := 8) Try.func54 rfl rfl rfl ?_
  refine k_sg ?_
  refine s_run rfl rfl (ras rfl) ?_
  refine k_nc ?_
  refine k_seq ?_
  refine k_sg ?_
  refine s_run rfl rfl (rms rfl) ?_
  refine s_run rfl rfl (r_slnilF rfl rfl Try.underlying25) ?_
  refine k_nc ?_
  refine k_f rfl ?_
  refine k_skip ?_
  refine c_norm ?_
  refine k_sg ?_
  refine s_bs0 1 (by omega) H rfl Try.underlying25 inf3 ?_
  intro _ _ H'; clear H; have H := H'; clear H'
  refine s_run rfl rfl (rms rfl) ?_
  refine s_apps (enc := (Value.int .i64)) (xs := []) H 0 rfl rfl rfl rfl (hS) (hl) (fun _ => rfl) (by omega) Try.underlying25 inf3 rfl ?_
  intro A1 c1 _ hA H'; simp only [List.set_cons_zero, List.set_cons_succ, List.take_succ_cons, List.take_zero, List.drop_succ_cons, List.drop_zero, List.cons_append, List.nil_append, List.append_nil, List.length_cons, List.length_nil, Nat.reduceAdd] at H'; clear H; have H := H'; clear H'
  refine s_run rfl rfl (ras rfl) ?_
  refine k_nc ?_
  refine k_ret ?_
  refine fin1r (v := .slice _ _ _) rfl rfl ?_
  rw [Nat.zero_add] at H
  exact ⟨A1, c1, by rw [Nat.zero_add], H⟩
end Go.Proofs.Ytlakbclnilakbaa
end

section
namespace Go.Proofs.Ytlakbclnilakbaa
open Go.RowKit
set_option maxRecDepth 100000
set_option maxHeartbeats 4000000
def frNil : Nat → RowS := fun _ => RowS.nil
theorem frOk_nil : FrOk frNil [] 0 := ⟨by simp, fun m k _ _ => .inr ⟨rfl, rfl⟩, fun i _ => Nat.le_refl _⟩
theorem Heap.fam_nil {w0 W : World} {Fr : List Nat} {L : List Ent} (H : Heap w0 Fr L W) (T : TypeId) (N : Nat) : Heap w0 Fr (fam T N frNil :: L) W := by
 have h0 : ids (famL T N frNil) = [] := by
  unfold ids famL
  rw [List.flatMap_map]
  exact List.flatMap_eq_nil_iff.2 fun i _ => rfl
 refine H.more (A := [fam T N frNil]) ⟨fun E hE => ?_, ?_, ?_, Only.refl _ _⟩
 ·rw [List.mem_singleton.1 hE]
  refine ⟨fun X hX => ?_, by rw [h0]; simp⟩
  unfold famL at hX
  obtain ⟨i, _, rfl⟩ := List.mem_map.1 hX
  exact World.ownsRow_nil W 0 T 1
 ·show (ids [fam T N frNil]).Nodup
  rw [show ids [fam T N frNil] = ids (famL T N frNil) ++ [] from rfl, h0]; simp
 ·intro i hi
  rw [show ids [fam T N frNil] = ids (famL T N frNil) ++ [] from rfl, h0] at hi
  simp at hi
theorem oNewF (w : World) : Calls Try.prog 47 [].toArray w fun e w' => ∃ p b, e = .returned (ptrF p) ∧ Heap w [] (frE p b frNil frNil []) w' := by
 have H := Heap.nil w
 refine k_in (N := 4) Try.func47 rfl rfl rfl ?_
 refine k_sg ?_
 refine s_run rfl rfl (rap rfl) ?_
 refine k_nc ?_
 refine k_sg ?_
 refine s_mm kF RowS.v H rfl ?_
 intro b1 _ H'; clear H; have H := H'; clear H'
 refine s_run rfl rfl (r_bd (bd95_1 _) rfl) ?_
 refine s_box H rfl rfl ?_
 intro p3 _ H'; clear H; have H := H'; clear H'
 refine s_run rfl rfl (rap rfl) ?_
 refine k_nc ?_
 refine k_ret ?_
 refine fin1r (v := .pointer _) rfl rfl ?_
 replace H := H.fam_nil 3 160
 exact ⟨p3, b1, rfl, H.order [1, 2, 0] rfl rfl⟩
theorem cls_mem (S : FrS) (k : Nat) (a : Int) : a ∈ cls S k ↔ a ∈ S (k * 5) ∨ ∃ m : Nat, m < 4 ∧ a ∈ S (k * 5 + 1 + m) := by
 unfold cls
 simp only [List.mem_append]
 constructor
 ·rintro ((((h | h) | h) | h) | h)
  ·exact .inl h
  ·exact .inr ⟨0, by omega, h⟩
  ·exact .inr ⟨1, by omega, h⟩
  ·exact .inr ⟨2, by omega, h⟩
  ·exact .inr ⟨3, by omega, h⟩
 ·rintro (h | ⟨m, hm, h⟩)
  ·exact .inl (.inl (.inl (.inl h)))
  ·rcases (by omega : m = 0 ∨ m = 1 ∨ m = 2 ∨ m = 3) with rfl | rfl | rfl | rfl
   ·exact .inl (.inl (.inl (.inr h)))
   ·exact .inl (.inl (.inr h))
   ·exact .inl (.inr h)
   ·exact .inr h
theorem isC_nat {k : Int} (h : isC k = true) : ∃ j : Nat, k = (j : Int) ∧ j < 32 := by
 have := of_decide_eq_true h
 exact ⟨k.toNat, by omega, by omega⟩
theorem isM_nat {k : Int} (h : isM k = true) : ∃ j : Nat, k = (j : Int) ∧ j < 4 := by
 have := of_decide_eq_true h
 exact ⟨k.toNat, by omega, by omega⟩
theorem gdF {m k : Nat} (hm : m < 4) (hk : k < 32) : kF.Gd ((m : Int), (k : Int)) := ⟨⟨by show _ ≤ (m : Int); omega, by show (m : Int) ≤ _; omega⟩, ⟨by show _ ≤ (k : Int); omega, by show (k : Int) ≤ _; omega⟩⟩
section
variable {p b N : Nat} {F : Nat → RowS} {l : FrM} {w : World}
theorem oHas (hE : Ents (frE p b F F l) w) (hok : FrOk F l N) (hN : N ≤ 100000) (k a : Int) :
  Calls Try.prog 10 [ptrF p, .int .i64 k, .int .i64 a].toArray w fun e w' => e = .returned (.bool (fHas (xsOf F) k a)) ∧ Only [] w w' := by
 have HR := Heap.start hE
 have H := Heap.nil w
 have hC := fun W => cRight k W
 unfold fHas
 unfold frE at HR
 cases hk : isC k with
 | false =>
  simp only [hk] at hC
  refine k_in (N := 33) Try.func10 rfl rfl rfl ?_
  refine k_sg ?_
  refine s_run rfl rfl (rab rfl) ?_
  refine k_nc ?_
  refine k_seq ?_
  refine k_sg ?_
  refine s_run rfl rfl (rmi rfl) ?_
  refine s_call rfl (hC _) (ca52 rfl) ?_
  rintro e W1 ⟨rfl, H'⟩
  refine ⟨_, rfl, ?_⟩
  have H := H.same H'; clear H'
  refine s_run rfl rfl (r_notF rfl) ?_
  refine k_nc ?_
  refine k_t rfl ?_
  refine k_sg ?_
  refine s_run rfl rfl (rab rfl) ?_
  refine k_nc ?_
  refine k_ret ?_
  refine c_ret ?_
  refine fin1r (v := .bool _) rfl rfl ?_
  exact ⟨rfl, H.only⟩
 | true =>
  simp only [hk] at hC
  obtain ⟨j, rfl, hj⟩ := isC_nat hk
  rw [Int.toNat_natCast, Bool.true_and]
  have hCo := fun i (hi : i < 160) {W : World} (h : Only [] w W) => sContains (F i).A (F i).n (F i).c (F i).xs a W ((fam_sees HR 2 rfl hi).later h (by simp)) (fam_len HR 2 rfl hi) (by have := hok.len i hi; omega)
  have hmem := cls_mem (xsOf F) j a
  by_cases h0 : a ∈ (F (j * 5)).xs
  ·rw [decide_eq_true (hmem.2 (.inl h0))]
   have hC0 := fun {W : World} h => hCo (j * 5) (by omega) (W := W) h
   simp only [decide_eq_true h0] at hC0
   refine k_in (N := 33) Try.func10 rfl rfl rfl ?_
   refine k_sg ?_
   refine s_run rfl rfl (rab rfl) ?_
   refine k_nc ?_
   refine k_seq ?_
   refine k_sg ?_
   refine s_run rfl rfl (rmi rfl) ?_
   refine s_call rfl (hC _) (ca52 rfl) ?_
   rintro e W1 ⟨rfl, H'⟩
   refine ⟨_, rfl, ?_⟩
   have H := H.same H'; clear H'
   refine s_run rfl rfl (r_notT rfl) ?_
   refine k_nc ?_
   refine k_f rfl ?_
   refine k_skip ?_
   refine c_norm ?_
   refine k_seq ?_
   refine k_sg ?_
   refine s_run rfl rfl (rmp rfl) ?_
   refine s_run rfl rfl (rmi rfl) ?_
   refine s_run rfl rfl (r_nc rfl) ?_
   refine s_run rfl rfl (r_fa0 rfl fo95_0) ?_
   refine s_run rfl rfl (r_ia0 (i := j) rfl rfl (by omega) (by omega) Try.underlying92 sz25) ?_
   refine s_run rfl rfl (r_lo (HR.same H.only) 0 rfl rfl (frC_get hj) ag25) ?_
   refine s_run rfl rfl (rmi rfl) ?_
   refine s_call rfl (hC0 H.only) (ca53 rfl) ?_
   rintro e W1 ⟨rfl, H'⟩
   refine ⟨_, rfl, ?_⟩
   have H := H.same H'; clear H'
   refine k_nc ?_
   refine k_t rfl ?_
   refine k_sg ?_
   refine s_run rfl rfl (rab rfl) ?_
   refine k_nc ?_
   refine k_ret ?_
   refine c_ret ?_
   refine fin1r (v := .bool _) rfl rfl ?_
   exact ⟨rfl, H.only⟩
  ·have hC0 := fun {W : World} h => hCo (j * 5) (by omega) (W := W) h
   simp only [decide_eq_false h0] at hC0
   refine k_in (N := 33) Try.func10 rfl rfl rfl ?_
   refine k_sg ?_
   refine s_run rfl rfl (rab rfl) ?_
   refine k_nc ?_
   refine k_seq ?_
   refine k_sg ?_
   refine s_run rfl rfl (rmi rfl) ?_
   refine s_call rfl (hC _) (ca52 rfl) ?_
   rintro e W1 ⟨rfl, H'⟩
   refine ⟨_, rfl, ?_⟩
   have H := H.same H'; clear H'
   refine s_run rfl rfl (r_notT rfl) ?_
   refine k_nc ?_
   refine k_f rfl ?_
   refine k_skip ?_
   refine c_norm ?_
   refine k_seq ?_
   refine k_sg ?_
   refine s_run rfl rfl (rmp rfl) ?_
   refine s_run rfl rfl (rmi rfl) ?_
   refine s_run rfl rfl (r_nc rfl) ?_
   refine s_run rfl rfl (r_fa0 rfl fo95_0) ?_
   refine s_run rfl rfl (r_ia0 (i := j) rfl rfl (by omega) (by omega) Try.underlying92 sz25) ?_
   refine s_run rfl rfl (r_lo (HR.same H.only) 0 rfl rfl (frC_get hj) ag25) ?_
   refine s_run rfl rfl (rmi rfl) ?_
   refine s_call rfl (hC0 H.only) (ca53 rfl) ?_
   rintro e W1 ⟨rfl, H'⟩
   refine ⟨_, rfl, ?_⟩
   have H := H.same H'; clear H'
   refine k_nc ?_
   refine k_f rfl ?_
   refine k_skip ?_
   refine c_norm ?_
   refine k_seq ?_
   refine k_sg ?_
   refine s_run rfl rfl (rmi rfl) ?_
   refine k_nc ?_
   refine k_b ?_
   refine k_loop (fun z f W => ∃ (i : Nat), i ≤ 4 ∧ z = 4 - i ∧ (∀ m : Nat, m < i → a ∉ (F (j * 5 + 1 + m)).xs) ∧ f 0 = ptrF p ∧ f 1 = .int .i64 j ∧ f 2 = .int .i64 a ∧ f 19 = .int .i64 i ∧ Heap w [] [] W) 4 ⟨0, by omega, rfl, by omega, rfl, rfl, rfl, rfl, H⟩ ?_
   clear H
   rintro z f W ⟨i, hi, rfl, hno, f0, f1, f2, f19, H⟩
   obtain ⟨f, rfl⟩ := live4 f0 f1 f2 f19
   clear f0 f1 f2 f19
   by_cases hlt : i < 4
   ·have gd := gdF hlt hj
    have hC1 := fun {W : World} h => hCo (j * 5 + 1 + i) (by omega) (W := W) h
    rcases hok.got i j hlt hj with hg | ⟨hg, hnil⟩
    ·by_cases h1 : a ∈ (F (j * 5 + 1 + i)).xs
     ·rw [decide_eq_true (hmem.2 (.inr ⟨i, hlt, h1⟩))]
      simp only [decide_eq_true h1] at hC1
      refine k_sg ?_
      refine s_run rfl rfl (r_lssT rfl rfl (by omega)) ?_
      refine k_nc ?_
      refine k_seq ?_
      refine k_t rfl ?_
      refine k_skip ?_
      refine c_norm ?_
      refine k_seq ?_
      refine k_b ?_
      refine k_sg ?_
      refine s_run rfl rfl (rmi rfl) ?_
      refine s_run rfl rfl (rai rfl) ?_
      refine k_nc ?_
      refine k_sg ?_
      refine s_run rfl rfl (rmp rfl) ?_
      refine s_run rfl rfl (r_nc rfl) ?_
      refine s_run rfl rfl (r_fa0 rfl fo95_1) ?_
      refine s_run rfl rfl (r_lo (HR.same H.only) 0 rfl rfl (frC_map F b) ag93) ?_
      refine s_run rfl rfl (rmi rfl) ?_
      refine s_run rfl rfl (rmi rfl) ?_
      refine s_run rfl rfl (r_bd (bd97_0_1 _ _) rfl) ?_
      refine s_run rfl rfl (r_lkS (HR.same H.only) 1 rfl rfl rfl (gd) (hg) Try.underlying93 (zv_of inf25) rfl) ?_
      refine s_run rfl rfl (rmi rfl) ?_
      refine s_call rfl (hC1 H.only) (ca53 rfl) ?_
      rintro e W1 ⟨rfl, H'⟩
      refine ⟨_, rfl, ?_⟩
      have H := H.same H'; clear H'
      refine k_nc ?_
      refine k_t rfl ?_
      refine k_sg ?_
      refine s_run rfl rfl (rab rfl) ?_
      refine k_nc ?_
      refine k_ret ?_
      refine b_ret ?_
      refine c_ret ?_
      refine c_ret ?_
      refine b_ret ?_
      refine c_ret ?_
      refine fin1r (v := .bool _) rfl rfl ?_
      exact ⟨rfl, H.only⟩
     ·simp only [decide_eq_false h1] at hC1
      refine k_sg ?_
      refine s_run rfl rfl (r_lssT rfl rfl (by omega)) ?_
      refine k_nc ?_
      refine k_seq ?_
      refine k_t rfl ?_
      refine k_skip ?_
      refine c_norm ?_
      refine k_seq ?_
      refine k_b ?_
      refine k_sg ?_
      refine s_run rfl rfl (rmi rfl) ?_
      refine s_run rfl rfl (rai rfl) ?_
      refine k_nc ?_
      refine k_sg ?_
      refine s_run rfl rfl (rmp rfl) ?_
      refine s_run rfl rfl (r_nc rfl) ?_
      refine s_run rfl rfl (r_fa0 rfl fo95_1) ?_
      refine s_run rfl rfl (r_lo (HR.same H.only) 0 rfl rfl (frC_map F b) ag93) ?_
      refine s_run rfl rfl (rmi rfl) ?_
      refine s_run rfl rfl (rmi rfl) ?_
      refine s_run rfl rfl (r_bd (bd97_0_1 _ _) rfl) ?_
      refine s_run rfl rfl (r_lkS (HR.same H.only) 1 rfl rfl rfl (gd) (hg) Try.underlying93 (zv_of inf25) rfl) ?_
      refine s_run rfl rfl (rmi rfl) ?_
      refine s_call rfl (hC1 H.only) (ca53 rfl) ?_
      rintro e W1 ⟨rfl, H'⟩
      refine ⟨_, rfl, ?_⟩
      have H := H.same H'; clear H'
      refine k_nc ?_
      refine k_f rfl ?_
      refine k_skip ?_
      refine b_norm ?_
      refine c_norm ?_
      refine k_rg ?_
      refine s_run rfl rfl (r_add rfl rfl (wI (by omega))) ?_
      refine s_run rfl rfl (rmi rfl) ?_
      refine k_nil ?_
      refine c_round ?_
      refine ⟨_, _, ?_, rfl, i + 1, by omega, rfl, fun m hm => ?_, rfl, rfl, rfl, rfl, H⟩
      ·omega
      ·by_cases e : m = i
       ·subst e; exact h1
       ·exact hno m (by omega)
    ·rw [hnil] at hC1
     have h1 : a ∉ RowS.nil.xs := by simp [RowS.nil]
     simp only [decide_eq_false h1] at hC1
     refine k_sg ?_
     refine s_run rfl rfl (r_lssT rfl rfl (by omega)) ?_
     refine k_nc ?_
     refine k_seq ?_
     refine k_t rfl ?_
     refine k_skip ?_
     refine c_norm ?_
     refine k_seq ?_
     refine k_b ?_
     refine k_sg ?_
     refine s_run rfl rfl (rmi rfl) ?_
     refine s_run rfl rfl (rai rfl) ?_
     refine k_nc ?_
     refine k_sg ?_
     refine s_run rfl rfl (rmp rfl) ?_
     refine s_run rfl rfl (r_nc rfl) ?_
     refine s_run rfl rfl (r_fa0 rfl fo95_1) ?_
     refine s_run rfl rfl (r_lo (HR.same H.only) 0 rfl rfl (frC_map F b) ag93) ?_
     refine s_run rfl rfl (rmi rfl) ?_
     refine s_run rfl rfl (rmi rfl) ?_
     refine s_run rfl rfl (r_bd (bd97_0_1 _ _) rfl) ?_
     refine s_run rfl rfl (r_lkN (HR.same H.only) 1 rfl rfl rfl (gd) (hg) Try.underlying93 (zv_of inf25)) ?_
     refine s_run rfl rfl (rmi rfl) ?_
     refine s_call rfl (hC1 H.only) (ca53 rfl) ?_
     rintro e W1 ⟨rfl, H'⟩
     refine ⟨_, rfl, ?_⟩
     have H := H.same H'; clear H'
     refine k_nc ?_
     refine k_f rfl ?_
     refine k_skip ?_
     refine b_norm ?_
     refine c_norm ?_
     refine k_rg ?_
     refine s_run rfl rfl (r_add rfl rfl (wI (by omega))) ?_
     refine s_run rfl rfl (rmi rfl) ?_
     refine k_nil ?_
     refine c_round ?_
     refine ⟨_, _, ?_, rfl, i + 1, by omega, rfl, fun m hm => ?_, rfl, rfl, rfl, rfl, H⟩
     ·omega
     ·by_cases e : m = i
      ·subst e; rw [hnil]; exact h1
      ·exact hno m (by omega)
   ·obtain rfl : i = 4 := by omega
    rw [decide_eq_false (fun h => (hmem.1 h).elim h0 (fun ⟨m, hm, h2⟩ => hno m hm h2))]
    refine k_sg ?_
    refine s_run rfl rfl (r_lssF rfl rfl (by omega)) ?_
    refine k_nc ?_
    refine k_seq ?_
    refine k_f rfl ?_
    refine k_exit ?_
    refine c_exit ?_
    refine c_exit ?_
    refine b_hit ?_
    refine c_norm ?_
    refine k_sg ?_
    refine s_run rfl rfl (rab rfl) ?_
    refine k_nc ?_
    refine k_ret ?_
    refine fin1r (v := .bool _) rfl rfl ?_
    exact ⟨rfl, H.only⟩
def clsTo (S : FrS) (k : Nat) : Nat → List Int
 | 0 => S (k * 5)
 | i + 1 => clsTo S k i ++ S (k * 5 + 1 + i)
theorem clsTo_len (S : FrS) (k M : Nat) (h : ∀ i, i < 160 → (S i).length ≤ M) (hk : k < 32) : ∀ i, i ≤ 4 → (clsTo S k i).length ≤ (i + 1) * M
 | 0, _ => by have := h (k * 5) (by omega); simp only [clsTo]; omega
 | i + 1, hi => by
  have h1 := clsTo_len S k M h hk i (by omega)
  have h2 := h (k * 5 + 1 + i) (by omega)
  simp only [clsTo, List.length_append]
  rw [show (i + 1 + 1) * M = (i + 1) * M + M by rw [Nat.add_mul (i + 1) 1 M, Nat.one_mul]]
  omega
theorem oList (hE : Ents (frE p b F F l) w) (hok : FrOk F l N) (hN : N ≤ 100000) (k : Int) :
  Calls Try.prog 13 [ptrF p, .int .i64 k].toArray w fun e w' => ∃ A' c', e = .returned (.slice A' (fList (xsOf F) k).length c') ∧ Heap w [] [ownN 1 (.slice A' (fList (xsOf F) k).length c') (fList (xsOf F) k).length ((fList (xsOf F) k).map (Value.int .i64)) 3] w' := by
 have HR := Heap.start hE
 have H := Heap.nil w
 have hC := fun W => cRight k W
 unfold fList
 unfold frE at HR
 cases hk : isC k with
 | false =>
  simp only [hk] at hC
  refine k_in (N := 34) Try.func13 rfl rfl rfl ?_
  refine k_sg ?_
  refine s_run rfl rfl (ras rfl) ?_
  refine k_nc ?_
  refine k_seq ?_
  refine k_sg ?_
  refine s_run rfl rfl (rmi rfl) ?_
  refine s_call rfl (hC _) (ca52 rfl) ?_
  rintro e W1 ⟨rfl, H'⟩
  refine ⟨_, rfl, ?_⟩
  have H := H.same H'; clear H'
  refine s_run rfl rfl (r_notF rfl) ?_
  refine k_nc ?_
  refine k_t rfl ?_
  refine k_sg ?_
  refine s_run rfl rfl (ras rfl) ?_
  refine k_nc ?_
  refine k_ret ?_
  refine c_ret ?_
  refine fin1r (v := .slice _ _ _) rfl rfl ?_
  exact ⟨none, 0, rfl, H.own_nil 1 3⟩
 | true =>
  simp only [hk] at hC
  obtain ⟨j, rfl, hj⟩ := isC_nat hk
  rw [Int.toNat_natCast, if_pos rfl]
  have hSe := fun i (hi : i < 160) {W : World} (h : Only [] w W) => (fam_sees HR 2 rfl hi).later h (by simp)
  have hLe := fun i (hi : i < 160) => fam_len HR 2 rfl hi
  have hNi := hok.len
  have hlen0 := clsTo_len (xsOf F) j N (fun i hi => by have := hLe i hi; have := hNi i hi; show (F i).xs.length ≤ N; omega) hj
  have hlen : ∀ i, i ≤ 4 → (clsTo (xsOf F) j i).length ≤ 5 * N := fun i hi => Nat.le_trans (hlen0 i hi) (Nat.mul_le_mul_right _ (by omega))
  have hCl := fun {W : World} (h : Only [] w W) => sClone (F (j * 5)).A (F (j * 5)).n (F (j * 5)).c (F (j * 5)).xs W (hSe (j * 5) (by omega) h) (hLe (j * 5) (by omega)) (by have := hNi (j * 5) (by omega); omega)
  have e0 := hLe (j * 5) (by omega)
  refine k_in (N := 34) Try.func13 rfl rfl rfl ?_
  refine k_sg ?_
  refine s_run rfl rfl (ras rfl) ?_
  refine k_nc ?_
  refine k_seq ?_
  refine k_sg ?_
  refine s_run rfl rfl (rmi rfl) ?_
  refine s_call rfl (hC _) (ca52 rfl) ?_
  rintro e W1 ⟨rfl, H'⟩
  refine ⟨_, rfl, ?_⟩
  have H := H.same H'; clear H'
  refine s_run rfl rfl (r_notT rfl) ?_
  refine k_nc ?_
  refine k_f rfl ?_
  refine k_skip ?_
  refine c_norm ?_
  refine k_sg ?_
  refine s_run rfl rfl (rmp rfl) ?_
  refine s_run rfl rfl (rmi rfl) ?_
  refine s_run rfl rfl (r_nc rfl) ?_
  refine s_run rfl rfl (r_fa0 rfl fo95_0) ?_
  refine s_run rfl rfl (r_ia0 (i := j) rfl rfl (by omega) (by omega) Try.underlying92 sz25) ?_
  refine s_run rfl rfl (r_lo (HR.same H.only) 0 rfl rfl (frC_get hj) ag25) ?_
  refine s_call rfl (hCl H.only) (ca54 rfl) ?_
  rintro e W1 ⟨A1, c1, rfl, H'⟩
  refine ⟨_, rfl, ?_⟩
  have H := H.more H'; clear H'; simp only [List.cons_append, List.nil_append] at H
  refine s_run rfl rfl (ras rfl) ?_
  refine k_nc ?_
  refine k_seq ?_
  refine k_sg ?_
  refine s_run rfl rfl (rmi rfl) ?_
  refine k_nc ?_
  refine k_b ?_
  refine k_loop (fun z f W => ∃ (i : Nat) (A' : Option Addr) (n' c' : Nat), i ≤ 4 ∧ z = 4 - i ∧ n' = (clsTo (xsOf F) j i).length ∧ f 0 = ptrF p ∧ f 1 = .int .i64 j ∧ f 5 = .slice A' n' c' ∧ f 17 = .int .i64 i ∧ Heap w [] [ownN 1 (.slice A' n' c') n' ((clsTo (xsOf F) j i).map (Value.int .i64)) 3] W) 4 ⟨0, A1, _, c1, by omega, rfl, e0.symm, rfl, rfl, rfl, rfl, H⟩ ?_
  clear H
  rintro z f W ⟨i, A', n', c', hi, rfl, hn', f0, f1, f5, f17, H⟩
  have hli := hlen i hi
  obtain ⟨f, rfl⟩ := live4 f0 f1 f5 f17
  clear f0 f1 f5 f17
  by_cases hlt : i < 4
  ·have gd := gdF hlt hj
   have hli2 := hlen (i + 1) (by omega)
   have e1 : clsTo (xsOf F) j (i + 1) = clsTo (xsOf F) j i ++ (F (j * 5 + 1 + i)).xs := rfl
   have e2 := hLe (j * 5 + 1 + i) (by omega)
   have hNi1 := hNi (j * 5 + 1 + i) (by omega)
   rcases hok.got i j hlt hj with hg | ⟨hg, hnil⟩
   ·have hS1 := fun {W : World} h => hSe (j * 5 + 1 + i) (by omega) (W := W) h
    refine k_sg ?_
    refine s_run rfl rfl (r_lssT rfl rfl (by omega)) ?_
    refine k_nc ?_
    refine k_seq ?_
    refine k_t rfl ?_
    refine k_skip ?_
    refine c_norm ?_
    refine k_seq ?_
    refine k_b ?_
    refine k_sg ?_
    refine s_run rfl rfl (rmi rfl) ?_
    refine s_run rfl rfl (rai rfl) ?_
    refine k_nc ?_
    refine k_rg ?_
    refine s_run rfl rfl (rms rfl) ?_
    refine s_run rfl rfl (rmp rfl) ?_
    refine s_run rfl rfl (r_nc rfl) ?_
    refine s_run rfl rfl (r_fa0 rfl fo95_1) ?_
    refine s_run rfl rfl (r_lo (HR.same H.only) 0 rfl rfl (frC_map F b) ag93) ?_
    refine s_run rfl rfl (rmi rfl) ?_
    refine s_run rfl rfl (rmi rfl) ?_
    refine s_run rfl rfl (r_bd (bd97_0_1 _ _) rfl) ?_
    refine s_run rfl rfl (r_lkS (HR.same H.only) 1 rfl rfl rfl (gd) (hg) Try.underlying93 (zv_of inf25) rfl) ?_
    refine s_apW (enc := (Value.int .i64)) H 0 rfl rfl rfl rfl ((hS1 H.only)) (e2) (fun _ => rfl) (by omega) Try.underlying25 inf3 rfl ?_
    intro A2 c2 _ H'; simp only [List.set_cons_zero, List.set_cons_succ, List.take_succ_cons, List.take_zero, List.drop_succ_cons, List.drop_zero, List.cons_append, List.nil_append, List.append_nil, List.length_cons, List.length_nil, Nat.reduceAdd] at H'; clear H; have H := H'; clear H'
    refine s_run rfl rfl (ras rfl) ?_
    refine k_nil ?_
    refine b_norm ?_
    refine c_norm ?_
    refine k_rg ?_
    refine s_run rfl rfl (r_add rfl rfl (wI (by omega))) ?_
    refine s_run rfl rfl (rmi rfl) ?_
    refine k_nil ?_
    refine c_round ?_
    rw [← e1] at H
    refine ⟨_, _, ?_, rfl, i + 1, A2, _, c2, by omega, rfl, ?_, rfl, rfl, rfl, rfl, H⟩
    ·omega
    ·rw [e1, List.length_append, e2, hn']
   ·rw [hnil] at e1
    refine k_sg ?_
    refine s_run rfl rfl (r_lssT rfl rfl (by omega)) ?_
    refine k_nc ?_
    refine k_seq ?_
    refine k_t rfl ?_
    refine k_skip ?_
    refine c_norm ?_
    refine k_seq ?_
    refine k_b ?_
    refine k_sg ?_
    refine s_run rfl rfl (rmi rfl) ?_
    refine s_run rfl rfl (rai rfl) ?_
    refine k_nc ?_
    refine k_rg ?_
    refine s_run rfl rfl (rms rfl) ?_
    refine s_run rfl rfl (rmp rfl) ?_
    refine s_run rfl rfl (r_nc rfl) ?_
    refine s_run rfl rfl (r_fa0 rfl fo95_1) ?_
    refine s_run rfl rfl (r_lo (HR.same H.only) 0 rfl rfl (frC_map F b) ag93) ?_
    refine s_run rfl rfl (rmi rfl) ?_
    refine s_run rfl rfl (rmi rfl) ?_
    refine s_run rfl rfl (r_bd (bd97_0_1 _ _) rfl) ?_
    refine s_run rfl rfl (r_lkN (HR.same H.only) 1 rfl rfl rfl (gd) (hg) Try.underlying93 (zv_of inf25)) ?_
    refine s_apW (enc := (Value.int .i64)) H 0 rfl rfl rfl rfl ((Sees.nil (enc := Value.int .i64))) (rfl) (fun _ => rfl) (by omega) Try.underlying25 inf3 rfl ?_
    intro A2 c2 _ H'; simp only [List.set_cons_zero, List.set_cons_succ, List.take_succ_cons, List.take_zero, List.drop_succ_cons, List.drop_zero, List.cons_append, List.nil_append, List.append_nil, List.length_cons, List.length_nil, Nat.reduceAdd] at H'; clear H; have H := H'; clear H'
    refine s_run rfl rfl (ras rfl) ?_
    refine k_nil ?_
    refine b_norm ?_
    refine c_norm ?_
    refine k_rg ?_
    refine s_run rfl rfl (r_add rfl rfl (wI (by omega))) ?_
    refine s_run rfl rfl (rmi rfl) ?_
    refine k_nil ?_
    refine c_round ?_
    rw [show clsTo (xsOf F) j i = clsTo (xsOf F) j (i + 1) from (e1.trans (List.append_nil _)).symm] at H
    refine ⟨_, _, ?_, rfl, i + 1, A2, _, c2, by omega, rfl, ?_, rfl, rfl, rfl, rfl, H⟩
    ·omega
    ·rw [e1, List.length_append, hn']; rfl
  ·obtain rfl : i = 4 := by omega
   have hS := fun {W : World} hE => gSort A' n' c' (clsTo (xsOf F) j 4) 3 W hE (by omega)
   have e4 : (srt (cls (xsOf F) j)).length = n' := by rw [srt_len, hn']; rfl
   refine k_sg ?_
   refine s_run rfl rfl (r_lssF rfl rfl (by omega)) ?_
   refine k_nc ?_
   refine k_seq ?_
   refine k_f rfl ?_
   refine k_exit ?_
   refine c_exit ?_
   refine c_exit ?_
   refine b_hit ?_
   refine c_norm ?_
   refine k_sg ?_
   refine s_run rfl rfl (rms rfl) ?_
   refine s_call rfl (hS (Heap.part (A := [_]) (L := []) H)) (ca55 rfl) ?_
   rintro e W1 ⟨rfl, H'⟩
   refine ⟨_, rfl, ?_⟩
   have H := H.at 0 rfl H' (fun i hi => by simpa [ids] using hi); clear H'
   refine k_nc ?_
   refine k_sg ?_
   refine s_run rfl rfl (rms rfl) ?_
   refine s_run rfl rfl (ras rfl) ?_
   refine k_nc ?_
   refine k_ret ?_
   refine fin1r (v := .slice _ _ _) rfl rfl ?_
   refine ⟨A', c', by rw [e4], ?_⟩
   rw [e4]
   exact H
theorem oLen (hE : Ents (frE p b F F l) w) (hok : FrOk F l N) (hN : N ≤ 100000) (k : Int) :
  Calls Try.prog 17 [ptrF p, .int .i64 k].toArray w fun e w' => e = .returned (.int .i64 (fList (xsOf F) k).length) ∧ Only [] w w' := by
 have HR := Heap.start hE
 have H := Heap.nil w
 have hL := fun {W : World} (h : Only [] w W) => oList (HR.same h).ents hok hN k
 refine k_in (N := 9) Try.func17 rfl rfl rfl ?_
 refine k_sg ?_
 refine s_run rfl rfl (rai rfl) ?_
 refine k_nc ?_
 refine k_sg ?_
 refine s_run rfl rfl (rmp rfl) ?_
 refine s_run rfl rfl (rmi rfl) ?_
 refine s_call rfl (hL H.only) (ca13 rfl) ?_
 rintro e W1 ⟨A1, c1, rfl, H'⟩
 refine ⟨_, rfl, ?_⟩
 have H := H.same H'.only; clear H'
 refine s_run rfl rfl (r_len rfl Try.underlying25) ?_
 refine s_run rfl rfl (rai rfl) ?_
 refine k_nc ?_
 refine k_ret ?_
 refine fin1r (v := .int _ _) rfl rfl ?_
 exact ⟨rfl, H.only⟩
theorem key_out (hok : FrOk F l N) {m k : Int} (h : isM m = false ∨ isC k = false) : mget l (m, k) = none := (mget_iff l _).2 fun x hx e => by
 have := hok.keys x hx
 rw [e] at this
 simp only at this
 rcases h with h | h
 ·have := of_decide_eq_false h; omega
 ·have := of_decide_eq_false h; omega
theorem oOwn (hE : Ents (frE p b F F l) w) (hok : FrOk F l N) (m k : Int) (hm : wf64 m) (hk : wf64 k) :
  Calls Try.prog 49 [ptrF p, .int .i64 m, .int .i64 k].toArray w fun e w' => e = .returned (.int .i64 (fOwn (xsOf F) m k)) ∧ Only [] w w' := by
 have HR := Heap.start hE
 have H := Heap.nil w
 have gd : kF.Gd (m, k) := ⟨hm, hk⟩
 unfold fOwn
 unfold frE at HR
 by_cases hb : isM m = true ∧ isC k = true
 ·rw [if_pos hb]
  obtain ⟨i, rfl, hi⟩ := isM_nat hb.1
  obtain ⟨j, rfl, hj⟩ := isC_nat hb.2
  rw [Int.toNat_natCast, Int.toNat_natCast]
  have e2 := fam_len HR 2 rfl (i := j * 5 + 1 + i) (by omega)
  rw [show ((xsOf F) (j * 5 + 1 + i)).length = (F (j * 5 + 1 + i)).n from e2]
  rcases hok.got i j hi hj with hg | ⟨hg, hnil⟩
  ·refine k_in (N := 16) Try.func49 rfl rfl rfl ?_
   refine k_sg ?_
   refine s_run rfl rfl (rai rfl) ?_
   refine k_nc ?_
   refine k_sg ?_
   refine s_run rfl rfl (rmp rfl) ?_
   refine s_run rfl rfl (r_nc rfl) ?_
   refine s_run rfl rfl (r_fa0 rfl fo95_1) ?_
   refine s_run rfl rfl (r_lo (HR.same H.only) 0 rfl rfl (frC_map F b) ag93) ?_
   refine s_run rfl rfl (rmi rfl) ?_
   refine s_run rfl rfl (rmi rfl) ?_
   refine s_run rfl rfl (r_bd (bd97_0_1 _ _) rfl) ?_
   refine s_run rfl rfl (r_lkS (HR.same H.only) 1 rfl rfl rfl (gd) (hg) Try.underlying93 (zv_of inf25) rfl) ?_
   refine s_run rfl rfl (r_len rfl Try.underlying25) ?_
   refine s_run rfl rfl (rai rfl) ?_
   refine k_nc ?_
   refine k_ret ?_
   refine fin1r (v := .int _ _) rfl rfl ?_
   exact ⟨rfl, H.only⟩
  ·rw [hnil]
   refine k_in (N := 16) Try.func49 rfl rfl rfl ?_
   refine k_sg ?_
   refine s_run rfl rfl (rai rfl) ?_
   refine k_nc ?_
   refine k_sg ?_
   refine s_run rfl rfl (rmp rfl) ?_
   refine s_run rfl rfl (r_nc rfl) ?_
   refine s_run rfl rfl (r_fa0 rfl fo95_1) ?_
   refine s_run rfl rfl (r_lo (HR.same H.only) 0 rfl rfl (frC_map F b) ag93) ?_
   refine s_run rfl rfl (rmi rfl) ?_
   refine s_run rfl rfl (rmi rfl) ?_
   refine s_run rfl rfl (r_bd (bd97_0_1 _ _) rfl) ?_
   refine s_run rfl rfl (r_lkN (HR.same H.only) 1 rfl rfl rfl (gd) (hg) Try.underlying93 (zv_of inf25)) ?_
   refine s_run rfl rfl (r_len rfl Try.underlying25) ?_
   refine s_run rfl rfl (rai rfl) ?_
   refine k_nc ?_
   refine k_ret ?_
   refine fin1r (v := .int _ _) rfl rfl ?_
   exact ⟨rfl, H.only⟩
 ·rw [if_neg hb]
  have hg := key_out hok (m := m) (k := k) (by cases h1 : isM m <;> cases h2 : isC k <;> simp [h1, h2] at hb ⊢)
  refine k_in (N := 16) Try.func49 rfl rfl rfl ?_
  refine k_sg ?_
  refine s_run rfl rfl (rai rfl) ?_
  refine k_nc ?_
  refine k_sg ?_
  refine s_run rfl rfl (rmp rfl) ?_
  refine s_run rfl rfl (r_nc rfl) ?_
  refine s_run rfl rfl (r_fa0 rfl fo95_1) ?_
  refine s_run rfl rfl (r_lo (HR.same H.only) 0 rfl rfl (frC_map F b) ag93) ?_
  refine s_run rfl rfl (rmi rfl) ?_
  refine s_run rfl rfl (rmi rfl) ?_
  refine s_run rfl rfl (r_bd (bd97_0_1 _ _) rfl) ?_
  refine s_run rfl rfl (r_lkN (HR.same H.only) 1 rfl rfl rfl (gd) (hg) Try.underlying93 (zv_of inf25)) ?_
  refine s_run rfl rfl (r_len rfl Try.underlying25) ?_
  refine s_run rfl rfl (rai rfl) ?_
  refine k_nc ?_
  refine k_ret ?_
  refine fin1r (v := .int _ _) rfl rfl ?_
  exact ⟨rfl, H.only⟩
end
end Go.Proofs.Ytlakbclnilakbaa
end

section
namespace Go.Proofs.Ytlakbclnilakbaa
open Go.RowKit Go.MapKept
open Go.Maps (Keyed)
open Go.ChangeMaps (setBlock)
section
variable {P : Program} {k : TypeId} {α β : Type} [DecidableEq α] {C : KC P k α} {venc : β → Value} {es : Array MapEntry} {clock : Nat} {l : List (α × β)}
theorem set_inj {W : World} {b : Nat} {o o1 o2 : Obj} (h : W.heap[b]? = some o) (e : setBlock W b o1 = setBlock W b o2) : o1 = o2 := by
 have h1 := set_at W b o1 o h
 rw [e, set_at W b o2 o h] at h1
 injection h1 with h1
 exact h1.symm
theorem MapOk.entry {t e : TypeId} (h : MapOk C venc es clock l) (ht : P.underlying t = some (.map k e)) {z : Value} {W : World} (hz : (zeroValue e).run P W = .ok z W) {b : Nat} (hb : W.heap[b]? = some (.map es clock)) (a : α) (ga : C.Gd a) :
  ∃ (st : Nat) (es1 : Array MapEntry) (clock1 : Nat), (Instr.mapEntry t (.map (some b)) (C.enc a)).run P W = .ok (.tuple #[((mget l a).map venc).getD z, .int .i64 st]) (setBlock W b (.map es1 clock1)) ∧
   ∀ v : β, ∃ es' clock', MapOk C venc es' clock' (mput l a v) ∧ ∀ (W2 : World) (t2 : TypeId), W2.heap[b]? = some (.map es1 clock1) → (Instr.entryStore t2 (.map (some b)) (.int .i64 st) (venc v)).run P W2 = .ok () (setBlock W2 b (.map es' clock')) := by
 obtain ⟨lit, hk⟩ := C.good a ga
 have hput := fun v => h.put ht hb a ga v
 rcases h.find a ga W with ⟨h1, h2⟩ | ⟨j, p, x, h1, rfl, h3, h4, h5, h6⟩
 ·refine ⟨clock, es.push ⟨C.enc a, z, clock⟩, clock + 1, ?_, fun v => ?_⟩
  ·rw [(m_none l a h1).1]
   simp [Instr.mapEntry, run_underlying ht, MapKept.run_getObj_map hb, C.K.check W _ hk, h2, hz, MapKept.run_setObj_map _ hb, Result.andThen, setBlock, goInt]
  ·refine ⟨es.push ⟨C.enc a, venc v, clock⟩, clock + 1, ?_, fun W2 t2 hw2 => ?_⟩
   ·obtain ⟨es', clock', hr, hok⟩ := hput v
    have hr2 : (Instr.mapUpdate t (.map (some b)) (C.enc a) (venc v)).run P W = .ok () (setBlock W b (.map (es.push ⟨C.enc a, venc v, clock⟩) (clock + 1))) := by
     simp [Instr.mapUpdate, run_underlying ht, MapKept.run_getObj_map hb, C.K.check W _ hk, h2, MapKept.run_setObj_map _ hb, Result.andThen, setBlock]
    rw [hr] at hr2
    injection hr2 with _ hr2
    have := set_inj hb hr2
    injection this with e1 e2
    rw [← e1, ← e2]; exact hok
   ·have hidx : (es.push ⟨C.enc a, z, clock⟩).findIdx? (fun e => ((e.born : Nat) : Int) == ((clock : Nat) : Int)) = some es.size := by
     rw [WideElems.findIdx_arr]
     exact WideElems.findIdx_born (l := (es.push ⟨C.enc a, z, clock⟩).toList) (j := es.size) (e0 := ⟨C.enc a, z, clock⟩) (by
      simp only [Array.toList_push, List.map_append, List.map_cons, List.map_nil]
      refine List.nodup_append.2 ⟨h.bn, by simp, fun a ha c hc e1 => ?_⟩
      simp only [List.mem_singleton] at hc
      obtain ⟨x, hx, rfl⟩ := List.mem_map.1 ha
      have := h.born x hx
      omega) (by simp)
    have hmod : (es.push ⟨C.enc a, z, clock⟩).modify es.size (fun e => { e with val := venc v }) = es.push ⟨C.enc a, venc v, clock⟩ := by
     apply Array.ext'
     rw [Array.toList_modify, Array.toList_push, Array.toList_push, ← Array.length_toList, WideElems.modify_last]
    simp [Instr.entryStore, MapKept.run_getObj_map hw2, asInt, asIntOf, goInt, hidx, hmod, MapKept.run_setObj_map _ hw2, Result.andThen, setBlock]
 ·have hst := C.K.stays W hk
  have hxa : es[j]? = some x := by rw [← Array.getElem?_toList]; exact h3
  have hsame : es.modify j (fun e => { e with key := C.enc p.1 }) = es := by
   apply Array.ext'
   rw [Array.toList_modify, ChangeMaps.modify_eq_set _ _ _ _ h3]
   have : ({ x with key := C.enc p.1 } : MapEntry) = x := by rw [← h4]
   rw [this]
   exact WideElems.set_self _ _ _ h3
  refine ⟨x.born, es, clock, ?_, fun v => ?_⟩
  ·rw [(m_some l j p h1 h.nd).1]
   simp [Instr.mapEntry, run_underlying ht, MapKept.run_getObj_map hb, C.K.check W _ hk, h6, hxa, h4, h5, hst, hsame, MapKept.run_setObj_map _ hb, Result.andThen, setBlock, goInt]
  ·obtain ⟨es', clock', hr, hok⟩ := hput v
   refine ⟨es', clock', hok, fun W2 t2 hw2 => ?_⟩
   have hr2 : (Instr.mapUpdate t (.map (some b)) (C.enc p.1) (venc v)).run P W = .ok () (setBlock W b (.map (es.modify j fun e => { e with key := C.enc p.1, val := venc v }) clock)) := by
    simp [Instr.mapUpdate, run_underlying ht, MapKept.run_getObj_map hb, C.K.check W _ hk, h6, hxa, h4, hst, MapKept.run_setObj_map _ hb, Result.andThen, setBlock]
   rw [hr] at hr2
   injection hr2 with _ hr2
   have := set_inj hb hr2
   injection this with e1 e2
   subst e1; subst e2
   have hidx : es.findIdx? (fun e => ((e.born : Nat) : Int) == ((x.born : Nat) : Int)) = some j := by
    rw [WideElems.findIdx_arr]
    exact WideElems.findIdx_born h.bn h3
   have hmod : es.modify j (fun e => { e with val := venc v }) = es.modify j (fun e' => { e' with key := C.enc p.1, val := venc v }) := by
    apply Array.ext'
    rw [Array.toList_modify, Array.toList_modify, ChangeMaps.modify_eq_set _ _ _ _ h3, ChangeMaps.modify_eq_set _ _ _ _ h3, ← h4]
   simp [Instr.entryStore, MapKept.run_getObj_map hw2, asInt, asIntOf, goInt, hidx, hmod, MapKept.run_setObj_map _ hw2, Result.andThen, setBlock]
end
section
variable {P : Program} {kt : TypeId} {α β : Type} [DecidableEq α]
/-- a map, one entry of which was looked up to be stored to -/
def me (C : KC P kt α) (venc : β → Value) (b : Nat) (l : List (α × β)) (a : α) (st : Nat) : Ent :=
 ⟨[b], fun W => ∃ es1 clock1, W.heap[b]? = some (.map es1 clock1) ∧ ∀ v : β, ∃ es' clock', MapOk C venc es' clock' (mput l a v) ∧ ∀ (W2 : World) (t2 : TypeId), W2.heap[b]? = some (.map es1 clock1) → (Instr.entryStore t2 (.map (some b)) (.int .i64 st) (venc v)).run P W2 = .ok () (setBlock W2 b (.map es' clock')), by
  rintro W ⟨es, clock, h, _⟩ i hi
  rw [List.mem_singleton.1 hi]; exact arr_lt h, by
  rintro W W' h ⟨es, clock, hb, hk⟩
  exact ⟨es, clock, by rw [h b (by simp)]; exact hb, hk⟩⟩
end
section
variable {P : Program} {ops : Array Oper} {rest : List Oper} {n : Sz} {k : Nat} {f : Nat → Value} {W w0 : World} {F : List Nat} {L : List Ent} {Q : Exit → Act → World → Prop} {ty : TypeId} {pos : String} {af : Array Edge} {g : Option (Nat × Bool)} {x y u s : Operand} {t e kt : TypeId} {v z : Value} {dst : Option Tmp}
variable {α β : Type} [DecidableEq α] {C : KC P kt α} {venc : β → Value} {b : Nat} {l : List (α × β)} {a : α} {q : β}
theorem s_me (H : Heap w0 F L W) (j : Nat) (hw : Region.wanted ⟨some k, .mapEntry t x y, ty, pos, af, g⟩ (yl n f ops) = true) (hj : L[j]? = some (mp C venc b l)) (hx : ev n f x = .map (some b)) (hy : ev n f y = C.enc a) (ga : C.Gd a) (hm : ((mget l a).map venc).getD z = v) (ht : P.underlying t = some (.map kt e)) (hz : ∀ W, (zeroValue e).run P W = .ok z W)
  (h : ∀ st W', Heap w0 F (L.set j (me C venc b l a st)) W' → SL P ops Q rest n (upd f k (.tuple [v, .int .i64 (st : Nat)].toArray)) W') : SL P ops Q (⟨some k, .mapEntry t x y, ty, pos, af, g⟩ :: rest) n f W := by
 obtain ⟨es, clock, hb, hk⟩ := H.mp_get j hj
 obtain ⟨st, es1, clock1, hrun, hst⟩ := hk.entry ht (hz W) hb a ga
 rw [hm] at hrun
 refine s_run rfl hw (W' := setBlock W b (.map es1 clock1)) (v := .tuple [v, .int .i64 st].toArray) (by simp only [execOp, hx, hy, Sem.run_bind, hrun, Result.andThen_ok]; rfl) (h st _ (H.at j hj (F' := [b]) ⟨?_, by simp [ids, me], by simp [ids, me], only_sb W b _⟩ (by simp [mp])))
 intro E hE
 rw [List.mem_singleton.1 hE]
 exact ⟨es1, clock1, set_at W b _ _ hb, hst⟩
theorem s_es {st : Nat} (H : Heap w0 F L W) (j : Nat) (hw : Region.wanted ⟨none, .entryStore t x y u, ty, pos, af, g⟩ (yl n f ops) = true) (hj : L[j]? = some (me C venc b l a st)) (hx : ev n f x = .map (some b)) (hy : ev n f y = .int .i64 (st : Nat)) (hu : ev n f u = v) (hq : v = venc q)
  (h : ∀ W', Heap w0 F (L.set j (mp C venc b (mput l a q))) W' → SL P ops Q rest n f W') : SL P ops Q (⟨none, .entryStore t x y u, ty, pos, af, g⟩ :: rest) n f W := by
 obtain ⟨es1, clock1, hb, hk⟩ := H.ok _ (List.mem_of_getElem? hj)
 obtain ⟨es', clock', hok, hrun⟩ := hk q
 have hrun := hrun W t hb
 rw [← hq] at hrun
 refine s_do rfl hw (W' := setBlock W b (.map es' clock')) (by simp only [execOp, hx, hy, hu, Sem.run_bind, hrun, Result.andThen_ok, Sem.run_pure]) (h _ (H.at j hj (F' := [b]) ⟨?_, by simp [ids, mp], by simp [ids, mp], only_sb W b _⟩ (by simp [me])))
 intro E hE
 rw [List.mem_singleton.1 hE]
 exact ⟨es', clock', set_at W b _ _ hb, hok⟩
theorem r_lkV (H : Heap w0 F L W) (j : Nat) (hj : L[j]? = some (mp C venc b l)) (hx : ev n f x = .map (some b)) (hy : ev n f y = C.enc a) (ga : C.Gd a) (hm : ((mget l a).map venc).getD z = v) (ht : P.underlying t = some (.map kt e)) (hz : ∀ W, (zeroValue e).run P W = .ok z W) :
  (execOp (ev n f) ⟨dst, .lookup t x y false, ty, pos, af, g⟩).run P W = .ok (.value v) W := by
 have h := r_lk (dst := dst) (ty := ty) (pos := pos) (af := af) (g := g) H j hj hx hy ga ht hz false
 rw [h, if_neg (by simp), hm]
end
end Go.Proofs.Ytlakbclnilakbaa
end
