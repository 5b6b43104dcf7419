/- Parts of the proof, one behind the other. -/
import Derived.WideKeyEntry
import Derived.Shelf.Sort.Plain
import Derived.Shelf.Slices.In.SortNone
import Derived.Sort.OwnSortedInts
import Derived.WalkKit
import Derived.Laws.BitsAllLaws
import Derived.BigQuiet
import Derived.Outline
import Derived.Deep.QuietTactic
import Derived.Test.YtlakbclnilakbaaKCensusAgesa
set_option linter.unusedSimpArgs false
set_option linter.unusedVariables false
set_option linter.unusedSectionVars false
section
namespace Go.Proofs.Ytlakbclnilakbaa
open Go.RowKit
theorem set_perm {α : Type _} (L : List α) (k : Nat) (E : α) (hk : k < L.length) : (L.set k E).Perm (E :: L.eraseIdx k) := by
 have : (L.set k E).eraseIdx k = L.eraseIdx k := by
  apply List.ext_getElem?
  intro i
  simp only [List.getElem?_eraseIdx, List.getElem?_set]
  split
  ·rw [if_neg (by omega)]
  ·rw [if_neg (by omega)]
 rw [← this]
 have h2 := pick_perm (L.set k E) k (by simpa using hk)
 rwa [List.getElem_set_self] at h2
/-- a call that changes a group, and makes new entries -/
theorem Heap.grp_new {w0 W W' : World} {F : List Nat} {L A B A' : List Ent} (H : Heap w0 F L W) (k : Nat) (hk : L[k]? = some (grp A)) (h' : Heap W (ids A) (B ++ A') W') : Heap w0 F (B ++ L.set k (grp A')) W' := by
 obtain ⟨hlt, _⟩ := List.getElem?_eq_some_iff.1 hk
 have h1 : Heap w0 F ([grp A] ++ L.eraseIdx k) W := H.pick k hk
 have h2 : Heap W (ids A) (B ++ [grp A']) W' := by
  refine ⟨fun E hE => ?_, ?_, ?_, h'.only⟩
  ·rcases List.mem_append.1 hE with h | h
   ·exact h'.ok E (List.mem_append_left _ h)
   ·rw [List.mem_singleton.1 h]
    exact ⟨fun X hX => h'.ok X (List.mem_append_right _ hX), by have := h'.nd; rw [ids_append] at this; exact (List.nodup_append.1 this).2.1⟩
  ·have := h'.nd; rw [ids_append] at this ⊢; simpa [ids, grp] using this
  ·have := h'.own; rw [ids_append] at this ⊢; simpa [ids, grp] using this
 have h3 := h1.step h2 (fun i hi => by simpa [ids, grp] using hi)
 refine h3.perm ?_
 rw [List.append_assoc]
 exact List.Perm.append_left _ (set_perm L k (grp A') hlt).symm
theorem tk_snoc {α : Type} {l : List α} {k : Nat} {x : α} (h : l[k]? = some x) : l.take k ++ [x] = l.take (k + 1) := by rw [List.take_add_one, h]; rfl
section
variable {P : Program} {n : Sz} {f : Nat → Value} {W w0 : World} {dst : Option Tmp} {ty : TypeId} {pos : String} {af : Array Edge} {g : Option (Nat × Bool)} {x y : Operand} {t t2 e : TypeId} {v : Value} {k k2 : IntKind} {a b : Int}
/-- s[:hi:max] -/
theorem r_shm {A : Option Addr} {l c : Nat} {hi mx : Operand} {j j2 m : Nat} (hx : ev n f x = .slice A l c) (hh : ev n f hi = .int k a) (ha : a = (j : Int)) (hq : ev n f mx = .int k2 b) (hb : b = (j2 : Int)) (hj : j ≤ j2) (hj2 : j2 ≤ c) (h : P.underlying t = some (.slice e)) (hm : ∀ W, (Go.sizeOf e).run P W = .ok m W) :
  (execOp (ev n f) ⟨dst, .slice t x none (some hi) (some mx), ty, pos, af, g⟩).run P W = .ok (.value (.slice A j j2)) W := by
 subst ha; subst hb
 have h1 : (0 : Int) ≤ j ∧ (j : Int) ≤ j2 := by omega
 have h2 : (0 : Int) ≤ j2 ∧ (j2 : Int) ≤ c := by omega
 have h0 : ∀ p : Addr, p.add 0 = p := fun p => by simp [Addr.add]
 simp only [execOp, Instr.sliceAt, Instr.slice, Instr.sliceBounds, Instr.sliceBound, hx, hh, hq, asIntOf, Option.map_some, Option.map_none, Sem.run_bind, run_underlying h, Result.andThen_ok, Sem.run_pure, h1, h2, and_self, if_true, hm, Int.toNat_natCast, Nat.zero_mul, Nat.sub_zero]
 cases A <;> simp [h0]
/-- s[lo:] of any slice -/
def sloA (A : Option Addr) (c i m : Nat) : Option Addr := A.map fun p => if c = i then p else p.add (i * m)
theorem r_sloA {A : Option Addr} {l c : Nat} {lo : Operand} {i m : Nat} (hx : ev n f x = .slice A l c) (hl : ev n f lo = .int k a) (ha : a = (i : Int)) (hi : i ≤ l) (h : P.underlying t = some (.slice e)) (hm : ∀ W, (Go.sizeOf e).run P W = .ok m W) :
  (execOp (ev n f) ⟨dst, .slice t x (some lo) none none, ty, pos, af, g⟩).run P W = .ok (.value (.slice (sloA A c i m) (l - i) (c - i))) W := by
 subst ha
 have h1 : (0 : Int) ≤ i ∧ (i : Int) ≤ l := by omega
 simp only [execOp, Instr.sliceAt, Instr.slice, Instr.sliceBounds, Instr.sliceBound, hx, hl, asIntOf, Option.map_some, Option.map_none, Sem.run_bind, run_underlying h, Result.andThen_ok, Sem.run_pure, h1, and_self, if_true, hm, Int.toNat_natCast]
 cases A with
 | none => simp [sloA]
 | some p => by_cases h2 : c = i <;> simp [sloA, h2]
theorem Sees.slo {α : Type} {enc : α → Value} {w : World} {F : List Nat} {A : Option Addr} {xs : List α} (h : Sees enc w F A xs) {c : Nat} (i : Nat) (hc : xs.length ≤ c) : Sees enc w F (sloA A c i 1) (xs.drop i) := by
 intro h0
 rw [List.length_drop] at h0
 obtain ⟨b, o, e, hb, hr⟩ := h (by omega)
 subst e
 refine ⟨b, o + i, ?_, hb, fun j z hj => ?_⟩
 ·show some (if c = i then _ else _) = _
  rw [if_neg (by omega)]; simp [Addr.add]
 ·rw [List.getElem?_drop] at hj
  rw [Nat.add_assoc]; exact hr _ z hj
theorem Sees.head {α : Type} {enc : α → Value} {w : World} {F : List Nat} {A : Option Addr} {xs : List α} (h : Sees enc w F A xs) (k : Nat) : Sees enc w F A (xs.take k) := by
 intro h0
 obtain ⟨b, o, e, hb, hr⟩ := h (by rw [List.length_take] at h0; omega)
 refine ⟨b, o, e, hb, fun j z hj => hr j z ?_⟩
 rw [List.getElem?_take] at hj
 split at hj
 ·exact hj
 ·cases hj
theorem own_cap {size m c : Nat} {A : Option Addr} {xs : List Value} {T : TypeId} {F : List Nat} {L : List Ent} (H : Heap w0 F L W) (j : Nat) (hj : L[j]? = some (ownN size (.slice A m c) m xs T)) : m ≤ c := by
 rcases (H.own_get j hj).2 with ⟨e, h0⟩ | ⟨g, cap, cur, e, _, _, h, _⟩
 ·injection e with _ _ e; omega
 ·injection e with _ _ e; omega
theorem own_seesC {α : Type} {enc : α → Value} {size : Nat} {F : List Nat} {L : List Ent} (H : Heap w0 F L W) (j : Nat) {A : Option Addr} {n c : Nat} {xs : List α} {T : TypeId} (hj : L[j]? = some (ownN size (.slice A n c) n (xs.map enc) T)) : Sees enc W [] A xs := by
 intro h0
 obtain ⟨b, e, _, hr⟩ := H.own_seesN j hj h0
 exact ⟨b, 0, e, by simp, hr⟩
end
section
variable {P : Program} {ops : Array Oper} {rest : List Oper} {n : Sz} {k k2 : Nat} {f : Nat → Value} {W w0 : World} {F : List Nat} {L : List Ent} {Q : Exit → Act → World → Prop} {ty ty2 : TypeId} {pos pos2 : String} {af af2 : Array Edge} {g : Option (Nat × Bool)} {x y s : Operand} {v u : Value} {t e : TypeId}
theorem owns_any {W : World} {lo : Nat} {T : TypeId} {size : Nat} {v : Value} {n : Nat} {xs : List Value} (h : W.ownsRow lo T size v n xs) : W.ownsRow 0 T size v n xs :=
 ⟨h.1, h.2.imp id fun ⟨g, cap, cur, e, hg, r⟩ => ⟨g, cap, cur, e, Nat.zero_le _, r⟩⟩
/-- append(s, y...): s is full; both are only read -/
theorem s_apG {α : Type} {enc : α → Value} {z0 : Value} {bytes m l c : Nat} {A B : Option Addr} {xs zs : List α} (H : Heap w0 F L W) (hS : Sees enc W [] A xs) (hl : xs.length = m) (hZ : Sees enc W [] B zs) (hzl : zs.length = l) (h0 : 0 < l)
  (hw : Region.wanted ⟨some k, .call ⟨.builtin .append, #[s, y], #[t, t]⟩, ty, pos, af, g⟩ (yl n f ops) = true) (hs : ev n f s = .slice A m m) (hy : ev n f y = .slice B l c) (h1 : ∀ z, (enc z).oneCell' = true)
  (hm : m + l ≤ 100000000000 ∧ (m + l) * bytes ≤ 140737488355328) (ht : P.underlying t = some (.slice e)) (hi : Inf P e z0 1 bytes) (hz : z0.oneCell' = true)
  (h : ∀ A' c' W', Heap w0 F (ownN 1 (.slice A' (m + l) c') (m + l) ((xs ++ zs).map enc) e :: L) W' → SL P ops Q rest n (upd f k (.slice A' (m + l) c')) W') :
  SL P ops Q (⟨some k, .call ⟨.builtin .append, #[s, y], #[t, t]⟩, ty, pos, af, g⟩ :: rest) n f W := by
 obtain ⟨i, hi0, hz0, hsz, hby⟩ := hi.ex
 obtain ⟨bz, oz, rfl, _, hrz⟩ := hZ (by omega)
 have hnew : ∀ q u, (zs.map enc)[q]? = some u → W.cell? ((⟨bz, oz, none⟩ : Addr).add q) = some u := fun q u hq => by
  rw [List.getElem?_map] at hq
  cases hzq : zs[q]? with
  | none => rw [hzq] at hq; simp at hq
  | some z => rw [hzq] at hq; rw [add_plain, hrz q z hzq]; simpa using hq
 have hone : ∀ u ∈ zs.map enc, u.oneCell' = true := fun u hu => by
  obtain ⟨z, _, rfl⟩ := List.mem_map.1 hu; exact h1 z
 obtain ⟨v', W2, hr, o1, o2⟩ : ∃ v' W2, (Builtin.append_ #[t, t] ty #[.slice A m m, .slice (some ⟨bz, oz, none⟩) l c]).run P W = .ok v' W2 ∧ W2.ownsRow W.heap.size e 1 v' (m + l) (xs.map enc ++ zs.map enc) ∧ W.grownBy W2 none := by
  cases A with
  | none =>
   have h0 : xs.length = 0 := by
    rcases Nat.eq_zero_or_pos xs.length with h0 | h0
    ·exact h0
    ·obtain ⟨q, r, e0, _⟩ := hS (by omega); cases e0
   obtain rfl : xs = [] := List.eq_nil_of_length_eq_zero h0
   obtain rfl : m = 0 := by simpa using hl.symm
   obtain ⟨v2, W2, hr2, h22, h23, _⟩ := run_append_own (P := P) W W.heap.size t ty e i z0 1 bytes ht hi0 hz0 hsz hby (by simp [one_cells hz]) (by omega) (.slice none 0 0) 0 [] (World.ownsRow_nil _ _ e 1) ⟨bz, oz, none⟩ l c (zs.map enc) (by simp [hzl]) hnew hone (by unfold maxLen; omega) hm.2 (Nat.le_refl _)
   exact ⟨v2, W2, hr2, by simpa using h22, h23⟩
  | some p =>
   have holds : ∀ j u, (xs.map enc)[j]? = some u → W.cell? (p.add j) = some u := fun j u hj => by
    rw [List.getElem?_map] at hj
    cases hzj : xs[j]? with
    | none => rw [hzj] at hj; simp at hj
    | some x' =>
     rw [hzj] at hj
     obtain ⟨b, o, e0, hb, hr⟩ := hS (by have := (List.getElem?_eq_some_iff.1 hzj).1; omega)
     injection e0 with e0
     subst e0
     rw [add_plain, hr j x' hzj]; simpa using hj
   obtain ⟨v2, W2, hr2, h22, h23⟩ := run_append_arg_grows (P := P) (w := W) t ty e i z0 1 bytes ht hi0 hz0 hsz hby (by simp [one_cells hz]) (by omega) p m m (xs.map enc) (by simp [hl]) holds ⟨bz, oz, none⟩ l c (zs.map enc) (by simp [hzl]) hnew (by omega) (by unfold maxLen; omega) hm.2
   exact ⟨v2, W2, hr2, h22, h23⟩
 obtain ⟨A', c', rfl⟩ : ∃ A c, v' = .slice A (m + l) c := by
  rcases o1.2 with ⟨rfl, h0⟩ | ⟨g, cap, cur, rfl, _⟩
  ·omega
  ·exact ⟨_, cap, rfl⟩
 have H3 : Heap w0 F (ownN 1 (.slice A' (m + l) c') (m + l) ((xs ++ zs).map enc) e :: L) W2 := by
  refine H.more (A := [ownN 1 (.slice A' (m + l) c') (m + l) ((xs ++ zs).map enc) e]) ⟨?_, ?_, ?_, ?_⟩
  ·intro E hE; rw [List.mem_singleton.1 hE]
   have := owns_any o1
   show W2.ownsRow 0 e 1 _ _ _
   rw [List.map_append]; exact this
  ·simp only [ids, ownN, List.flatMap_cons, List.flatMap_nil, List.append_nil]; exact nodup_opt _
  ·intro i hi
   simp only [ids, ownN, List.flatMap_cons, List.flatMap_nil, List.append_nil, Option.mem_toList] at hi
   exact .inr (o1.lt i hi).1
  ·exact ⟨o2.os, o2.tape, o2.output, o2.size, fun k hk hf => o2.block k hk (by simp)⟩
 exact s_run rfl hw (W' := W2) (v := .slice A' (m + l) c') (by
  simp only [execOp, resolve, invoke, builtin, List.map_toArray, List.map_cons, List.map_nil, hs, hy, Sem.run_bind, Sem.run_pure, Result.andThen_ok, hr]) (h A' c' W2 H3)
end
end Go.Proofs.Ytlakbclnilakbaa
end

section
namespace Go.Proofs.Ytlakbclnilakbaa
open Go.RowKit Go.MapKept
open Go.Maps (Keyed)
open Go.ChangeMaps (setBlock)
theorem mset_fstG {α β : Type} {lb : List ((α × β) × Bool)} {j : Nat} {p : α × β} (h : lb[j]? = some (p, true)) : (lb.set j (p, false)).map (·.1) = lb.map (·.1) := by
 rw [List.map_set]
 apply List.ext_getElem?
 intro i
 rw [List.getElem?_set]
 by_cases e : j = i
 ·subst e
  rw [if_pos rfl, List.getElem?_map, h]
  have := (List.getElem?_eq_some_iff.1 h).1
  rw [if_pos (by simpa using this)]; rfl
 ·rw [if_neg e]
section
variable {P : Program} {kt : TypeId} {α β : Type}
/-- a map that lies where nothing changes -/
structure MapAt (C : KC P kt α) (venc : β → Value) (w0 : World) (F : List Nat) (b : Nat) (es : Array MapEntry) (clock : Nat) (l : List (α × β)) : Prop where
 hb : w0.heap[b]? = some (.map es clock)
 hk : MapOk C venc es clock l
 hF : b ∉ F
theorem MapAt.now {C : KC P kt α} {venc : β → Value} {w0 W : World} {F : List Nat} {b : Nat} {es : Array MapEntry} {clock : Nat} {l : List (α × β)} (M : MapAt C venc w0 F b es clock l) (hO : Only F w0 W) : W.heap[b]? = some (.map es clock) :=
 (hO.block b (arr_lt M.hb) M.hF).trans M.hb
theorem MapAt.nd {C : KC P kt α} {venc : β → Value} {w0 : World} {F : List Nat} {b : Nat} {es : Array MapEntry} {clock : Nat} {l : List (α × β)} (M : MapAt C venc w0 F b es clock l) : (l.map Prod.fst).Nodup := M.hk.nd
theorem Ents.map_at [DecidableEq α] {C : KC P kt α} {venc : β → Value} {w : World} {A : List Ent} {b : Nat} {l : List (α × β)} (hE : Ents A w) (j : Nat) (hj : A[j]? = some (mp C venc b l)) : ∃ es clock, MapAt C venc w [] b es clock l := by
 obtain ⟨es, clock, h1, h2⟩ := (Heap.start hE).mp_get j hj
 exact ⟨es, clock, h1, h2, by simp⟩
/-- the iterator of a map that is only read -/
def mri (C : KC P kt α) (venc : β → Value) (es : Array MapEntry) (clock b r : Nat) (lb : List ((α × β) × Bool)) (cur : Option (α × β)) : Ent :=
 ⟨[r], fun W => ∃ since seen c0, W.heap[r]? = some (.mapIter (some b) since seen c0) ∧ IterOk C venc es clock since seen c0 lb ∧
   ∀ p, cur = some p → ∃ (e : MapEntry) (seen' : Array Nat), seen = seen'.push e.born ∧ c0 = clock ∧ e ∈ es.toList ∧ e.key = C.enc p.1 ∧ e.val = venc p.2, by
  rintro W ⟨since, seen, c0, hr, _⟩ i hi
  rw [List.mem_singleton.1 hi]; exact arr_lt hr, by
  rintro W W' h ⟨since, seen, c0, hr, hk⟩
  exact ⟨since, seen, c0, by rw [h r (by simp)]; exact hr, hk⟩⟩
end
section
variable {P : Program} {ops : Array Oper} {rest : List Oper} {n : Sz} {k : Nat} {f : Nat → Value} {W w0 : World} {F : List Nat} {L : List Ent} {Q : Exit → Act → World → Prop} {ty : TypeId} {pos : String} {af : Array Edge} {g : Option (Nat × Bool)} {x y u : Operand} {t e kt : TypeId} {v z : Value} {dst : Option Tmp}
variable {α β : Type} [DecidableEq α] {C : KC P kt α} {venc : β → Value} {b r : Nat} {l : List (α × β)} {lb : List ((α × β) × Bool)} {cur : Option (α × β)} {a : α} {q : β} {es : Array MapEntry} {clock : Nat}
theorem Heap.mri_get (H : Heap w0 F L W) (j : Nat) (hj : L[j]? = some (mri C venc es clock b r lb cur)) : ∃ since seen c0, W.heap[r]? = some (.mapIter (some b) since seen c0) ∧ IterOk C venc es clock since seen c0 lb ∧
   ∀ p, cur = some p → ∃ (e : MapEntry) (seen' : Array Nat), seen = seen'.push e.born ∧ c0 = clock ∧ e ∈ es.toList ∧ e.key = C.enc p.1 ∧ e.val = venc p.2 := H.ok _ (List.mem_of_getElem? hj)
theorem s_rmR (M : MapAt C venc w0 F b es clock l) (H : Heap w0 F L W) (hw : Region.wanted ⟨some k, .range t x, ty, pos, af, g⟩ (yl n f ops) = true) (hx : ev n f x = .map (some b)) (ht : P.underlying t = some (.map kt e))
  (h : ∀ r W', Heap w0 F (mri C venc es clock b r (l.map fun p => (p, true)) none :: L) W' → SL P ops Q rest n (upd f k (.pointer (some ⟨r, 0, none⟩))) W') : SL P ops Q (⟨some k, .range t x, ty, pos, af, g⟩ :: rest) n f W := by
 have hb := M.now H.only
 have hrun := run_range_map (P := P) W t kt e b es clock ht hb
 refine s_run rfl hw (W' := W.alloc (.mapIter (some b) clock #[] clock)) (by simp only [execOp, hx, Sem.run_bind, hrun, Result.andThen_ok, Sem.run_pure]) (h W.heap.size _ (H.more (A := [mri C venc es clock b W.heap.size (l.map fun p => (p, true)) none]) ⟨?_, ?_, ?_, ?_⟩))
 ·intro E hE
  rw [List.mem_singleton.1 hE]
  exact ⟨clock, #[], clock, (MapKept.heap_alloc W _).1, IterOk.start M.hk, fun p hp => by cases hp⟩
 ·simp [ids, mri]
 ·intro i hi
  simp [ids, mri] at hi
  exact .inr (by omega)
 ·exact (Only.of_below ((Below.refl _ _).alloc (Nat.le_refl _) _) _)
theorem s_nx0R (M : MapAt C venc w0 F b es clock l) (H : Heap w0 F L W) (j : Nat) (hl : mleft lb = []) (hw : Region.wanted ⟨some k, .next x false, ty, pos, af, g⟩ (yl n f ops) = true) (hx : ev n f x = .pointer (some ⟨r, 0, none⟩)) (hj : L[j]? = some (mri C venc es clock b r lb cur))
  (h : SL P ops Q rest n (upd f k (.tuple [.bool false].toArray)) W) : SL P ops Q (⟨some k, .next x false, ty, pos, af, g⟩ :: rest) n f W := by
 obtain ⟨since, seen, c0, hr, hk, _⟩ := H.mri_get j hj
 rcases hk.next (M.now H.only) hr ty with ⟨_, hrun⟩ | ⟨hn, _⟩
 ·exact s_run rfl hw (by simp only [execOp, hx, Sem.run_bind, hrun, Result.andThen_ok, Sem.run_pure]) h
 ·exact absurd hl hn
theorem s_nx1R (M : MapAt C venc w0 F b es clock l) (H : Heap w0 F L W) (j : Nat) (hl : mleft lb ≠ []) (hw : Region.wanted ⟨some k, .next x false, ty, pos, af, g⟩ (yl n f ops) = true) (hx : ev n f x = .pointer (some ⟨r, 0, none⟩)) (hj : L[j]? = some (mri C venc es clock b r lb cur))
  (h : ∀ i p W', lb[i]? = some (p, true) → C.Gd p.1 → Heap w0 F (L.set j (mri C venc es clock b r (lb.set i (p, false)) (some p))) W' → SL P ops Q rest n (upd f k (.tuple [.bool true, C.enc p.1, venc p.2].toArray)) W') : SL P ops Q (⟨some k, .next x false, ty, pos, af, g⟩ :: rest) n f W := by
 obtain ⟨since, seen, c0, hr, hk, _⟩ := H.mri_get j hj
 rcases hk.next (M.now H.only) hr ty with ⟨hn, _⟩ | ⟨_, i, p, e0, w1, hal, hp, hem, hkey, hval, hrun, hk'⟩
 ·exact absurd hn hl
 ·have hr1 : w1.heap[r]? = some (.mapIter (some b) since seen c0) := by rcases hal with rfl | rfl <;> exact hr
  have ho : Only [] W w1 := by
   rcases hal with rfl | rfl
   ·exact Only.refl _ _
   ·exact ⟨rfl, rfl, rfl, Nat.le_refl _, fun _ _ _ => rfl⟩
  have gp : C.Gd p.1 := hk.ok.gd p (List.mem_map.2 ⟨(p, true), List.mem_of_getElem? hp, rfl⟩)
  refine s_run rfl hw (W' := setBlock w1 r (.mapIter (some b) since (seen.push e0.born) clock)) (by simp only [execOp, hx, Sem.run_bind, hrun, Result.andThen_ok, Sem.run_pure]) (h i p _ hp gp (H.at j hj (F' := [r]) ⟨?_, ?_, ?_, ?_⟩ (by simp [mri])))
  ·intro E hE
   rw [List.mem_singleton.1 hE]
   exact ⟨since, seen.push e0.born, clock, set_at w1 r _ _ hr1, hk', fun p' hp' => by
    injection hp' with hp'
    subst hp'
    exact ⟨e0, seen, rfl, rfl, hem, hkey, hval⟩⟩
  ·simp [ids, mri]
  ·intro i hi
   simp [ids, mri] at hi
   exact .inl (by simp [hi])
  ·exact (ho.mono (by simp)).trans (only_sb w1 r _)
theorem r_enR {p : α × β} (M : MapAt C venc w0 F b es clock l) (H : Heap w0 F L W) (j : Nat) (hj : L[j]? = some (mri C venc es clock b r lb (some p))) (hx : ev n f x = .pointer (some ⟨r, 0, none⟩)) : (execOp (ev n f) ⟨dst, .entry x, ty, pos, af, g⟩).run P W = .ok (.value (.tuple [C.enc p.1, venc p.2].toArray)) W := by
 obtain ⟨since, seen, c0, hr, hk, hc⟩ := H.mri_get j hj
 obtain ⟨e0, seen', rfl, rfl, hem, hkey, hval⟩ := hc p rfl
 have hrun := run_entry_at (P := P) W r b since seen' es c0 e0 hr (M.now H.only) hem hk.ok.bn
 rw [hkey, hval] at hrun
 simp only [execOp, hx, Sem.run_bind, hrun, Result.andThen_ok, Sem.run_pure]
end
end Go.Proofs.Ytlakbclnilakbaa
end

section
namespace Go.Proofs.Ytlakbclnilakbaa
open Go.RowKit
theorem map_range_set {α : Type _} (N i : Nat) (g : Nat → α) (v : α) : ((List.range N).map g).set i v = (List.range N).map (fun j => if j = i then v else g j) := by
 apply List.ext_getElem?
 intro j
 rw [List.getElem?_set]
 by_cases hj : j < N
 ·by_cases e : i = j
  ·subst e
   rw [if_pos rfl, List.getElem?_map, List.getElem?_range hj]
   simp [hj]
  ·rw [if_neg e, List.getElem?_map, List.getElem?_map, List.getElem?_range hj]
   have : ¬ j = i := fun e2 => e e2.symm
   simp [this]
 ·have h1 : ∀ (h : Nat → α), ((List.range N).map h)[j]? = none := fun h => by rw [List.getElem?_eq_none]; simp; omega
  rw [h1]
  by_cases e : i = j
  ·subst e; rw [if_pos rfl, if_neg (by simpa using hj), h1]
  ·rw [if_neg e, h1]
/-- a row of ints: where, how long, how much room, what -/
structure RowS where
 A : Option Addr
 n : Nat
 c : Nat
 xs : List Int
def RowS.v (r : RowS) : Value := .slice r.A r.n r.c
def RowS.nil : RowS := ⟨none, 0, 0, []⟩
def rowE (T : TypeId) (r : RowS) : Ent := ownN 1 (.slice r.A r.n r.c) r.n (r.xs.map (Value.int .i64)) T
def updR (F : Nat → RowS) (i : Nat) (r : RowS) : Nat → RowS := fun j => if j = i then r else F j
def famL (T : TypeId) (N : Nat) (F : Nat → RowS) : List Ent := (List.range N).map fun i => rowE T (F i)
def fam (T : TypeId) (N : Nat) (F : Nat → RowS) : Ent := grp (famL T N F)
section
variable {w0 W : World} {Fr : List Nat} {L A : List Ent}
theorem Heap.splice (H : Heap w0 Fr (grp A :: L) W) : Heap w0 Fr (A ++ L) W := by
 have e : ids (A ++ L) = ids (grp A :: L) := by rw [ids_append, ids_cons]; rfl
 refine ⟨fun E hE => ?_, by rw [e]; exact H.nd, by rw [e]; exact H.own, H.only⟩
 rcases List.mem_append.1 hE with h | h
 ·exact (H.grp_ents 0 rfl).1 E h
 ·exact H.ok E (List.mem_cons_of_mem _ h)
theorem Heap.bundle (H : Heap w0 Fr (A ++ L) W) : Heap w0 Fr (grp A :: L) W := by
 have e : ids (A ++ L) = ids (grp A :: L) := by rw [ids_append, ids_cons]; rfl
 refine ⟨fun E hE => ?_, by rw [← e]; exact H.nd, by rw [← e]; exact H.own, H.only⟩
 rcases List.mem_cons.1 hE with rfl | h
 ·exact H.part
 ·exact H.ok E (List.mem_append_right _ h)
theorem famL_set (T : TypeId) (N i : Nat) (F : Nat → RowS) (r : RowS) : (famL T N F).set i (rowE T r) = famL T N (updR F i r) := by
 unfold famL
 rw [map_range_set]
 refine List.map_congr_left fun j _ => ?_
 unfold updR
 split <;> rfl
theorem famL_get {T : TypeId} {N i : Nat} {F : Nat → RowS} (hi : i < N) : (famL T N F)[i]? = some (rowE T (F i)) := by
 unfold famL; rw [List.getElem?_map, List.getElem?_range hi]; rfl
theorem famL_len (T : TypeId) (N : Nat) (F : Nat → RowS) : (famL T N F).length = N := by unfold famL; simp
/-- .. and put back -/
theorem Heap.push1 {T : TypeId} {N : Nat} {F : Nat → RowS} {r : RowS} (H : Heap w0 Fr (rowE T r :: fam T N F :: L) W) {i : Nat} (hi : i < N) (hF : F i = RowS.nil) : Heap w0 Fr (fam T N (updR F i r) :: L) W := by
 have h0 : Heap w0 Fr (grp (famL T N F) :: (rowE T r :: L)) W := H.perm (List.Perm.swap _ _ _)
 have h1 := h0.splice
 have hl : i < (famL T N F).length := by rw [famL_len]; exact hi
 have hp := pick_perm (famL T N F) i hl
 have hg : (famL T N F)[i] = rowE T (F i) := by
  have := famL_get (T := T) (F := F) hi
  rw [List.getElem?_eq_getElem hl] at this
  injection this
 rw [hg, hF] at hp
 have h2 : Heap w0 Fr (rowE T RowS.nil :: ((famL T N F).eraseIdx i ++ (rowE T r :: L))) W := h1.perm (hp.append_right _)
 have h3 := h2.drop
 have hq := set_perm (famL T N F) i (rowE T r) hl
 rw [famL_set] at hq
 have h4 : Heap w0 Fr (famL T N (updR F i r) ++ L) W := by
  refine h3.perm ?_
  refine List.Perm.trans ?_ (hq.symm.append_right _)
  exact List.perm_middle
 exact h4.bundle
theorem Heap.push {T : TypeId} {N : Nat} {F : Nat → RowS} {r : RowS} (H : Heap w0 Fr (rowE T r :: L) W) (j : Nat) (hj : L[j]? = some (fam T N F)) {i : Nat} (hi : i < N) (hF : F i = RowS.nil) : Heap w0 Fr (L.set j (fam T N (updR F i r))) W := by
 obtain ⟨hlt, _⟩ := List.getElem?_eq_some_iff.1 hj
 have h0 : Heap w0 Fr (rowE T r :: fam T N F :: L.eraseIdx j) W := H.perm (List.Perm.cons _ (by
  have := pick_perm L j hlt
  have hg : L[j] = fam T N F := by
   rw [List.getElem?_eq_getElem hlt] at hj
   injection hj
  rwa [hg] at this))
 exact (h0.push1 hi hF).perm (set_perm L j _ hlt).symm
theorem Ents.row {T : TypeId} {N : Nat} {F : Nat → RowS} {j : Nat} {A : List Ent} (hE : Ents A W) (hj : A[j]? = some (fam T N F)) {i : Nat} (hi : i < N) : W.ownsRow 0 T 1 (.slice (F i).A (F i).n (F i).c) (F i).n ((F i).xs.map (Value.int .i64)) := by
 have h := (Heap.start hE).grp_ents j hj
 exact h.1 _ (List.mem_of_getElem? (famL_get hi))
end
end Go.Proofs.Ytlakbclnilakbaa
end

section
namespace Go.Proofs.Ytlakbclnilakbaa
open Go.RowKit Go.MapKept
open Go.Maps (Keyed)
open Go.ChangeMaps (setBlock)
section
variable {P : Program} {k : TypeId} {α β : Type} [DecidableEq α] {C : KC P k α} {venc : β → Value} {es : Array MapEntry} {clock : Nat} {l : List (α × β)}
theorem set_inj {W : World} {b : Nat} {o o1 o2 : Obj} (h : W.heap[b]? = some o) (e : setBlock W b o1 = setBlock W b o2) : o1 = o2 := by
 have h1 := set_at W b o1 o h
 rw [e, set_at W b o2 o h] at h1
 injection h1 with h1
 exact h1.symm
theorem MapOk.entry {t e : TypeId} (h : MapOk C venc es clock l) (ht : P.underlying t = some (.map k e)) {z : Value} {W : World} (hz : (zeroValue e).run P W = .ok z W) {b : Nat} (hb : W.heap[b]? = some (.map es clock)) (a : α) (ga : C.Gd a) :
  ∃ (st : Nat) (es1 : Array MapEntry) (clock1 : Nat), (Instr.mapEntry t (.map (some b)) (C.enc a)).run P W = .ok (.tuple #[((mget l a).map venc).getD z, .int .i64 st]) (setBlock W b (.map es1 clock1)) ∧
   ∀ v : β, ∃ es' clock', MapOk C venc es' clock' (mput l a v) ∧ ∀ (W2 : World) (t2 : TypeId), W2.heap[b]? = some (.map es1 clock1) → (Instr.entryStore t2 (.map (some b)) (.int .i64 st) (venc v)).run P W2 = .ok () (setBlock W2 b (.map es' clock')) := by
 obtain ⟨lit, hk⟩ := C.good a ga
 have hput := fun v => h.put ht hb a ga v
 rcases h.find a ga W with ⟨h1, h2⟩ | ⟨j, p, x, h1, rfl, h3, h4, h5, h6⟩
 ·refine ⟨clock, es.push ⟨C.enc a, z, clock⟩, clock + 1, ?_, fun v => ?_⟩
  ·rw [(m_none l a h1).1]
   simp [Instr.mapEntry, run_underlying ht, MapKept.run_getObj_map hb, C.K.check W _ hk, h2, hz, MapKept.run_setObj_map _ hb, Result.andThen, setBlock, goInt]
  ·refine ⟨es.push ⟨C.enc a, venc v, clock⟩, clock + 1, ?_, fun W2 t2 hw2 => ?_⟩
   ·obtain ⟨es', clock', hr, hok⟩ := hput v
    have hr2 : (Instr.mapUpdate t (.map (some b)) (C.enc a) (venc v)).run P W = .ok () (setBlock W b (.map (es.push ⟨C.enc a, venc v, clock⟩) (clock + 1))) := by
     simp [Instr.mapUpdate, run_underlying ht, MapKept.run_getObj_map hb, C.K.check W _ hk, h2, MapKept.run_setObj_map _ hb, Result.andThen, setBlock]
    rw [hr] at hr2
    injection hr2 with _ hr2
    have := set_inj hb hr2
    injection this with e1 e2
    rw [← e1, ← e2]; exact hok
   ·have hidx : (es.push ⟨C.enc a, z, clock⟩).findIdx? (fun e => ((e.born : Nat) : Int) == ((clock : Nat) : Int)) = some es.size := by
     rw [WideElems.findIdx_arr]
     exact WideElems.findIdx_born (l := (es.push ⟨C.enc a, z, clock⟩).toList) (j := es.size) (e0 := ⟨C.enc a, z, clock⟩) (by
      simp only [Array.toList_push, List.map_append, List.map_cons, List.map_nil]
      refine List.nodup_append.2 ⟨h.bn, by simp, fun a ha c hc e1 => ?_⟩
      simp only [List.mem_singleton] at hc
      obtain ⟨x, hx, rfl⟩ := List.mem_map.1 ha
      have := h.born x hx
      omega) (by simp)
    have hmod : (es.push ⟨C.enc a, z, clock⟩).modify es.size (fun e => { e with val := venc v }) = es.push ⟨C.enc a, venc v, clock⟩ := by
     apply Array.ext'
     rw [Array.toList_modify, Array.toList_push, Array.toList_push, ← Array.length_toList, WideElems.modify_last]
    simp [Instr.entryStore, MapKept.run_getObj_map hw2, asInt, asIntOf, goInt, hidx, hmod, MapKept.run_setObj_map _ hw2, Result.andThen, setBlock]
 ·have hst := C.K.stays W hk
  have hxa : es[j]? = some x := by rw [← Array.getElem?_toList]; exact h3
  have hsame : es.modify j (fun e => { e with key := C.enc p.1 }) = es := by
   apply Array.ext'
   rw [Array.toList_modify, ChangeMaps.modify_eq_set _ _ _ _ h3]
   have : ({ x with key := C.enc p.1 } : MapEntry) = x := by rw [← h4]
   rw [this]
   exact WideElems.set_self _ _ _ h3
  refine ⟨x.born, es, clock, ?_, fun v => ?_⟩
  ·rw [(m_some l j p h1 h.nd).1]
   simp [Instr.mapEntry, run_underlying ht, MapKept.run_getObj_map hb, C.K.check W _ hk, h6, hxa, h4, h5, hst, hsame, MapKept.run_setObj_map _ hb, Result.andThen, setBlock, goInt]
  ·obtain ⟨es', clock', hr, hok⟩ := hput v
   refine ⟨es', clock', hok, fun W2 t2 hw2 => ?_⟩
   have hr2 : (Instr.mapUpdate t (.map (some b)) (C.enc p.1) (venc v)).run P W = .ok () (setBlock W b (.map (es.modify j fun e => { e with key := C.enc p.1, val := venc v }) clock)) := by
    simp [Instr.mapUpdate, run_underlying ht, MapKept.run_getObj_map hb, C.K.check W _ hk, h6, hxa, h4, hst, MapKept.run_setObj_map _ hb, Result.andThen, setBlock]
   rw [hr] at hr2
   injection hr2 with _ hr2
   have := set_inj hb hr2
   injection this with e1 e2
   subst e1; subst e2
   have hidx : es.findIdx? (fun e => ((e.born : Nat) : Int) == ((x.born : Nat) : Int)) = some j := by
    rw [WideElems.findIdx_arr]
    exact WideElems.findIdx_born h.bn h3
   have hmod : es.modify j (fun e => { e with val := venc v }) = es.modify j (fun e' => { e' with key := C.enc p.1, val := venc v }) := by
    apply Array.ext'
    rw [Array.toList_modify, Array.toList_modify, ChangeMaps.modify_eq_set _ _ _ _ h3, ChangeMaps.modify_eq_set _ _ _ _ h3, ← h4]
   simp [Instr.entryStore, MapKept.run_getObj_map hw2, asInt, asIntOf, goInt, hidx, hmod, MapKept.run_setObj_map _ hw2, Result.andThen, setBlock]
end
section
variable {P : Program} {kt : TypeId} {α β : Type} [DecidableEq α]
end
section
variable {P : Program} {ops : Array Oper} {rest : List Oper} {n : Sz} {k : Nat} {f : Nat → Value} {W w0 : World} {F : List Nat} {L : List Ent} {Q : Exit → Act → World → Prop} {ty : TypeId} {pos : String} {af : Array Edge} {g : Option (Nat × Bool)} {x y u s : Operand} {t e kt : TypeId} {v z : Value} {dst : Option Tmp}
variable {α β : Type} [DecidableEq α] {C : KC P kt α} {venc : β → Value} {b : Nat} {l : List (α × β)} {a : α} {q : β}
end
end Go.Proofs.Ytlakbclnilakbaa
end

section
namespace Go.Proofs.Ytlakbclnilakbaa
open Go.RowKit
section
variable {P : Program} {ops : Array Oper} {rest : List Oper} {n : Sz} {k k2 : Nat} {f : Nat → Value} {W w0 : World} {F : List Nat} {L : List Ent} {Q : Exit → Act → World → Prop} {ty ty2 : TypeId} {pos pos2 : String} {af af2 : Array Edge} {g : Option (Nat × Bool)} {x y s : Operand} {v u : Value} {t e : TypeId}
end
end Go.Proofs.Ytlakbclnilakbaa
end

section
namespace Go.Proofs.Ytlakbclnilakbaa.Cn
def pad (t : List Int) (k : Nat) : List Int := t ++ List.replicate (k - t.length) 0
def tadd (t : List Int) (a : Nat) : List Int := (pad t (a + 1)).set a (t.getD a 0 + 1)
def tbl (l : List Int) : List Int := l.foldl (fun t a => tadd t a.toNat) []
theorem pad_len (t : List Int) (k : Nat) : (pad t k).length = max t.length k := by unfold pad; simp; omega
theorem pad_self {t : List Int} {k : Nat} (h : k ≤ t.length) : pad t k = t := by unfold pad; rw [show k - t.length = 0 by omega]; simp
theorem pad_succ (t : List Int) : pad t (t.length + 1) = t ++ [0] := by unfold pad; rw [show t.length + 1 - t.length = 1 by omega]; rfl
theorem pad_pad (t : List Int) (j k : Nat) (h : j ≤ k) : pad (pad t j) k = pad t k := by
 have := pad_len t j
 unfold pad at *
 rw [this, List.append_assoc, List.replicate_append_replicate]
 congr 2
 omega
theorem pad_get (t : List Int) (k i : Nat) : (pad t k).getD i 0 = t.getD i 0 := by
 unfold pad
 simp only [List.getD_eq_getElem?_getD]
 by_cases h : i < t.length
 ·rw [List.getElem?_append_left h]
 ·rw [List.getElem?_append_right (by omega), List.getElem?_eq_none (by omega : t.length ≤ i), List.getElem?_replicate]
  split <;> rfl
theorem tadd_len (t : List Int) (a : Nat) : (tadd t a).length = max t.length (a + 1) := by unfold tadd; rw [List.length_set, pad_len]
theorem tadd_get (t : List Int) (a i : Nat) : (tadd t a).getD i 0 = t.getD i 0 + if i = a then 1 else 0 := by
 unfold tadd
 have hl := pad_len t (a + 1)
 have hg := pad_get t (a + 1) i
 simp only [List.getD_eq_getElem?_getD] at *
 rw [List.getElem?_set]
 by_cases e : a = i
 ·subst e
  rw [if_pos rfl, if_pos (by omega), if_pos rfl]; rfl
 ·rw [if_neg e, if_neg (fun h => e h.symm), hg]; omega
theorem ext_get {a b : List Int} (h : a.length = b.length) (hg : ∀ i, a.getD i 0 = b.getD i 0) : a = b := by
 apply List.ext_getElem h
 intro i h1 h2
 have := hg i
 simp only [List.getD_eq_getElem?_getD, List.getElem?_eq_getElem h1, List.getElem?_eq_getElem h2, Option.getD_some] at this
 exact this
theorem tadd_comm (t : List Int) (a b : Nat) : tadd (tadd t a) b = tadd (tadd t b) a := by
 apply ext_get
 ·rw [tadd_len, tadd_len, tadd_len, tadd_len]; omega
 ·intro i; rw [tadd_get, tadd_get, tadd_get, tadd_get]; omega
theorem fold_perm {a b : List Int} (h : a.Perm b) : ∀ t, a.foldl (fun t a => tadd t a.toNat) t = b.foldl (fun t a => tadd t a.toNat) t := by
 induction h with
 | nil => intro t; rfl
 | cons x _ ih => intro t; exact ih _
 | swap x y l => intro t; simp only [List.foldl_cons]; rw [tadd_comm]
 | trans _ _ h1 h2 => intro t; rw [h1, h2]
theorem tbl_perm {a b : List Int} (h : a.Perm b) : tbl a = tbl b := fold_perm h []
theorem tbl_snoc (l : List Int) (a : Int) : tbl (l ++ [a]) = tadd (tbl l) a.toNat := by unfold tbl; rw [List.foldl_append]; rfl
theorem tbl_ind {P : List Int → Prop} (h0 : P []) (hs : ∀ l a, P l → P (l ++ [a])) : ∀ l, P l := by
 intro l
 rw [← List.reverse_reverse l]
 induction l.reverse with
 | nil => exact h0
 | cons x r ih => rw [List.reverse_cons]; exact hs _ _ ih
theorem tbl_len (B : Nat) (l : List Int) : (∀ a ∈ l, a ≤ B) → (tbl l).length ≤ B + 1 := by
 induction l using tbl_ind with
 | h0 => intro _; show 0 ≤ _; omega
 | hs l a ih =>
  intro h
  rw [tbl_snoc, tadd_len]
  have := ih fun x hx => h x (by simp [hx])
  have := h a (by simp)
  omega
theorem tbl_get_bd (l : List Int) : ∀ i, 0 ≤ (tbl l).getD i 0 ∧ (tbl l).getD i 0 ≤ l.length := by
 induction l using tbl_ind with
 | h0 => intro i; simp [tbl]
 | hs l a ih =>
  intro i
  rw [tbl_snoc, tadd_get, List.length_append]
  have := ih i
  simp only [List.length_singleton]
  split <;> omega
theorem tbl_bd {l : List Int} {x : Int} (h : x ∈ tbl l) : 0 ≤ x ∧ x ≤ l.length := by
 obtain ⟨i, hi, rfl⟩ := List.mem_iff_getElem.1 h
 have := tbl_get_bd l i
 rw [List.getD_eq_getElem?_getD, List.getElem?_eq_getElem hi] at this
 exact this
/-- the weight of the places that are wanted -/
def ws (p : Nat → Bool) : Nat → List Int → Int
 | _, [] => 0
 | k, x :: t => (if p k then x else 0) + ws p (k + 1) t
theorem ws_app (p : Nat → Bool) : ∀ (a b : List Int) (k : Nat), ws p k (a ++ b) = ws p k a + ws p (k + a.length) b
 | [], b, k => by simp [ws]
 | x :: a, b, k => by
  show (if p k then x else 0) + ws p (k + 1) (a ++ b) = (if p k then x else 0) + ws p (k + 1) a + _
  rw [ws_app p a b (k + 1), List.length_cons, show k + 1 + a.length = k + (a.length + 1) by omega]; omega
theorem ws_zero (p : Nat → Bool) : ∀ (n k : Nat), ws p k (List.replicate n 0) = 0
 | 0, k => rfl
 | n + 1, k => by
  show (if p k then (0 : Int) else 0) + ws p (k + 1) (List.replicate n 0) = 0
  rw [ws_zero p n]; split <;> rfl
theorem ws_set (p : Nat → Bool) : ∀ (t : List Int) (k a : Nat) (v : Int), a < t.length → ws p k (t.set a v) = ws p k t + if p (k + a) then v - t.getD a 0 else 0
 | [], _, a, _, h => by simp at h
 | x :: t, k, 0, v, _ => by
  show (if p k then v else 0) + ws p (k + 1) t = (if p k then x else 0) + ws p (k + 1) t + if p k then v - x else 0
  split <;> omega
 | x :: t, k, a + 1, v, h => by
  have ih := ws_set p t (k + 1) a v (by simpa using h)
  show (if p k then x else 0) + ws p (k + 1) (t.set a v) = (if p k then x else 0) + ws p (k + 1) t + _
  rw [ih, show k + 1 + a = k + (a + 1) by omega]
  simp only [List.getD_cons_succ]
  omega
theorem ws_tadd (p : Nat → Bool) (t : List Int) (a : Nat) : ws p 0 (tadd t a) = ws p 0 t + if p a then 1 else 0 := by
 unfold tadd
 rw [ws_set p _ _ _ _ (by rw [pad_len]; omega), pad_get, Nat.zero_add]
 unfold pad
 rw [ws_app, ws_zero]
 split <;> omega
theorem ws_tbl (p : Nat → Bool) (l : List Int) : ws p 0 (tbl l) = (l.filter fun a => p a.toNat).length := by
 induction l using tbl_ind with
 | h0 => rfl
 | hs l a ih =>
  rw [tbl_snoc, ws_tadd, ih, List.filter_append, List.length_append]
  cases h : p a.toNat <;> simp [h]
theorem ws_nonneg (p : Nat → Bool) : ∀ (t : List Int) (k : Nat), (∀ x ∈ t, 0 ≤ x) → 0 ≤ ws p k t
 | [], _, _ => by simp [ws]
 | x :: t, k, h => by
  have := ws_nonneg p t (k + 1) fun y hy => h y (by simp [hy])
  have := h x (by simp)
  show 0 ≤ (if p k then x else 0) + ws p (k + 1) t
  split <;> omega
theorem ws_take (p : Nat → Bool) (t : List Int) (i : Nat) (h : ∀ x ∈ t, 0 ≤ x) : 0 ≤ ws p 0 (t.take i) ∧ ws p 0 (t.take i) ≤ ws p 0 t := by
 have h1 := ws_app p (t.take i) (t.drop i) 0
 rw [List.take_append_drop] at h1
 have h2 := ws_nonneg p (t.take i) 0 fun x hx => h x (List.mem_of_mem_take hx)
 have h3 := ws_nonneg p (t.drop i) (0 + (t.take i).length) fun x hx => h x (List.mem_of_mem_drop hx)
 omega
theorem ws_snoc (p : Nat → Bool) {t : List Int} {i : Nat} {x : Int} (h : t[i]? = some x) : ws p 0 (t.take (i + 1)) = ws p 0 (t.take i) + if p i then x else 0 := by
 have hi := (List.getElem?_eq_some_iff.1 h).1
 rw [← tk_snoc h, ws_app, List.length_take, show 0 + min i t.length = i by omega]
 show _ = _ + _
 simp [ws]
theorem ws_tbl_le (p : Nat → Bool) (l : List Int) (i : Nat) : 0 ≤ ws p 0 ((tbl l).take i) ∧ ws p 0 ((tbl l).take i) ≤ l.length := by
 have h1 := ws_take p (tbl l) i fun x hx => (tbl_bd hx).1
 rw [ws_tbl] at h1
 have := List.length_filter_le (fun a : Int => p a.toNat) l
 omega
end Go.Proofs.Ytlakbclnilakbaa.Cn
end

section
namespace Go.Proofs.Ytlakbclnilakbaa
open Go.Sort Go.RowKit
set_option maxRecDepth 100000
def lays189_ren : Go.Shelf.Ren := ⟨fun | 189 => 55 | 125 => 84 | 257 => 83 | 128 => 109 | 129 => 110 | 294 => 100 | 295 => 101 | 296 => 102 | 297 => 103 | 298 => 104 | 299 => 105 | 216 => 106 | 300 => 107 | 301 => 108 | 328 => 128 | 329 => 129 | 330 => 130 | 331 => 131 | 332 => 132 | 215 => 133 | 343 => 150 | n => n, fun | 28 => 25 | 3 => 3 | 46 => 144 | 0 => 0 | 51 => 147 | 53 => 78 | 4 => 4 | 183 => 164 | 182 => 163 | 131 => 126 | 5 => 5 | 9 => 9 | 218 => 185 | 222 => 189 | 228 => 199 | 229 => 200 | n => n, fun | n => n⟩
theorem lays189 : Go.Proofs.Lays.n189 Try.prog lays189_ren := {
  mixed := by kernel_rfl
  f125 := Try.func84.trans (congrArg some (by kernel_rfl))
  f128 := Try.func109.trans (congrArg some (by kernel_rfl))
  f129 := Try.func110.trans (congrArg some (by kernel_rfl))
  f189 := Try.func55.trans (congrArg some (by kernel_rfl))
  f215 := Try.func133.trans (congrArg some (by kernel_rfl))
  f216 := Try.func106.trans (congrArg some (by kernel_rfl))
  f257 := Try.func83.trans (congrArg some (by kernel_rfl))
  f294 := Try.func100.trans (congrArg some (by kernel_rfl))
  f295 := Try.func101.trans (congrArg some (by kernel_rfl))
  f296 := Try.func102.trans (congrArg some (by kernel_rfl))
  f297 := Try.func103.trans (congrArg some (by kernel_rfl))
  f298 := Try.func104.trans (congrArg some (by kernel_rfl))
  f299 := Try.func105.trans (congrArg some (by kernel_rfl))
  f300 := Try.func107.trans (congrArg some (by kernel_rfl))
  f301 := Try.func108.trans (congrArg some (by kernel_rfl))
  f328 := Try.func128.trans (congrArg some (by kernel_rfl))
  f329 := Try.func129.trans (congrArg some (by kernel_rfl))
  f330 := Try.func130.trans (congrArg some (by kernel_rfl))
  f331 := Try.func131.trans (congrArg some (by kernel_rfl))
  f332 := Try.func132.trans (congrArg some (by kernel_rfl))
  f343 := Try.func150.trans (congrArg some (by kernel_rfl))
  t0 := Try.underlying0
  a0 := Try.isAgg0
  z0 := Try.sizeOf0
  v0 := Try.zeroValue0
  t3 := Try.underlying3
  a3 := Try.isAgg3
  z3 := Try.sizeOf3
  v3 := Try.zeroValue3
  t4 := Try.underlying4
  a4 := Try.isAgg4
  z4 := Try.sizeOf4
  v4 := Try.zeroValue4
  t5 := Try.underlying5
  a5 := Try.isAgg5
  z5 := Try.sizeOf5
  v5 := Try.zeroValue5
  t9 := Try.underlying9
  a9 := Try.isAgg9
  z9 := Try.sizeOf9
  v9 := Try.zeroValue9
  t28 := Try.underlying25
  a28 := Try.isAgg25
  z28 := Try.sizeOf25
  v28 := Try.zeroValue25
  t46 := Try.underlying144
  a46 := Try.isAgg144
  z46 := Try.sizeOf144
  v46 := Try.zeroValue144
  t51 := Try.underlying147
  a51 := Try.isAgg147
  z51 := Try.sizeOf147
  v51 := Try.zeroValue147
  t53 := Try.underlying78
  a53 := Try.isAgg78
  z53 := Try.sizeOf78
  v53 := Try.zeroValue78
  t131 := Try.underlying126
  a131 := Try.isAgg126
  z131 := Try.sizeOf126
  v131 := Try.zeroValue126
  t182 := Try.underlying163
  a182 := Try.isAgg163
  z182 := Try.sizeOf163
  v182 := Try.zeroValue163
  t183 := Try.underlying164
  a183 := Try.isAgg164
  z183 := Try.sizeOf164
  v183 := Try.zeroValue164
  t218 := Try.underlying185
  a218 := Try.isAgg185
  z218 := Try.sizeOf185
  v218 := Try.zeroValue185
  t222 := Try.underlying189
  a222 := Try.isAgg189
  z222 := Try.sizeOf189
  v222 := Try.zeroValue189
  t228 := Try.underlying199
  a228 := Try.isAgg199
  z228 := Try.sizeOf199
  v228 := Try.zeroValue199
  t229 := Try.underlying200
  a229 := Try.isAgg200
  z229 := Try.sizeOf200
  v229 := Try.zeroValue200 }
theorem gSort0 (blk off cap : Nat) (zs : List Int) (w : World) (hH : Holds (Value.int .i64) w blk off zs.toArray) (hblk : blk < w.heap.size) (hsz : zs.length < 4611686018427387904) :
  Calls Try.prog 55 #[.slice (some ⟨blk, off, none⟩) zs.length cap] w fun e w' =>
   e = .returned (.tuple #[]) ∧ ∃ n os, w' = grow (putRow (Value.int .i64) (Sort.ahead w n) blk off (zs.mergeSort fun x y => decide (x ≤ y)).toArray) os := Any.slices_Sort_int lays189 blk off cap zs w hH hblk hsz
def srt (l : List Int) : List Int := l.mergeSort fun x y => decide (x ≤ y)
theorem srt_perm (l : List Int) : (srt l).Perm l := List.mergeSort_perm _ _
theorem srt_len (l : List Int) : (srt l).length = l.length := (srt_perm l).length_eq
theorem gSort (A : Option Addr) (n c : Nat) (zs : List Int) (T : TypeId) (w : World) (hE : Ents [ownN 1 (.slice A n c) n (zs.map (Value.int .i64)) T] w) (hn : n ≤ 1000000) :
  Calls Try.prog 55 [.slice A n c].toArray w fun e w' => e = .returned (.tuple #[]) ∧ Heap w (ids [ownN 1 (.slice A n c) n (zs.map (Value.int .i64)) T]) [ownN 1 (.slice A n c) n ((srt zs).map (Value.int .i64)) T] w' := by
 have H := Heap.start hE
 have ho := H.own_get 0 rfl
 have hl : zs.length = n := by have := ho.1; simpa using this
 rcases ho.2 with ⟨hv, h0⟩ | ⟨g, cap, cur, hv, _, hg, hnc, hcm, hcs, htk⟩
 ·injection hv with h1 h2 h3
  subst h1; subst h2; subst h3
  have hz : zs = [] := List.eq_nil_of_length_eq_zero hl
  subst hz
  refine (Any.slices_Sort_int_none lays189 none 0 w).mono ?_
  rintro e w' ⟨rfl, rfl⟩
  have e0 : srt [] = [] := by simp [srt]
  rw [e0]
  exact ⟨rfl, H⟩
 ·injection hv with h1 h2 h3
  subst h1; subst h3
  subst hl
  have htk' : cur.toList.take zs.length = zs.map (Value.int .i64) := by rw [Nat.mul_one] at htk; exact htk
  refine (gSort0 g 0 c zs w (holds_of_blockI hg htk') (arr_lt hg) (by omega)).mono ?_
  rintro e w' ⟨rfl, m, os, rfl⟩
  have hs := ownsRow_sortedI (w := w) (base := 0) (n := m) (e := T) (os := os) (ss := zs) (ts := srt zs) (srt_len zs) (Nat.zero_le _) hg hnc hcm hcs
  have hgr : w.grownBy (grow (putRow (Value.int .i64) (Sort.ahead w m) g 0 (srt zs).toArray) os) (some g) := grownBy_sortedI _
  refine ⟨rfl, H.at 0 rfl (F' := [g]) ⟨?_, by simp [ids, ownN, Value.ownBlock], by simp [ids, ownN, Value.ownBlock], ⟨hgr.os, hgr.tape, hgr.output, hgr.size, fun k hk hne => hgr.block k hk (fun e => hne (by injection e with e; rw [e]; simp))⟩⟩ (by simp [ownN, Value.ownBlock])⟩
  intro E hE
  rw [List.mem_singleton.1 hE]
  exact hs
end Go.Proofs.Ytlakbclnilakbaa
end

section
namespace Go.Proofs.Ytlakbclnilakbaa
open Go.RowKit
section
variable {P : Program} {n : Sz} {f : Nat → Value} {W w0 : World} {F : List Nat} {L : List Ent} {dst : Option Tmp} {ty : TypeId} {pos : String} {af : Array Edge} {g : Option (Nat × Bool)} {x : Operand} {t kt e : TypeId} {α β : Type} [DecidableEq α] {C : KC P kt α} {venc : β → Value} {b : Nat} {l : List (α × β)}
end
end Go.Proofs.Ytlakbclnilakbaa
end

section
namespace Go.Proofs.Ytlakbclnilakbaa
open Go.RowKit
theorem ag3 (W : World) : (isAgg 3).run Try.prog W = .ok false W := by kernel_rfl
theorem sz3 (W : World) : (Go.sizeOf 3).run Try.prog W = .ok 1 W := by kernel_rfl
theorem ag4 (W : World) : (isAgg 4).run Try.prog W = .ok false W := by kernel_rfl
theorem sz4 (W : World) : (Go.sizeOf 4).run Try.prog W = .ok 1 W := by kernel_rfl
theorem ag25 (W : World) : (isAgg 25).run Try.prog W = .ok false W := by kernel_rfl
theorem sz25 (W : World) : (Go.sizeOf 25).run Try.prog W = .ok 1 W := by kernel_rfl
theorem ag74 (W : World) : (isAgg 74).run Try.prog W = .ok true W := by kernel_rfl
theorem sz74 (W : World) : (Go.sizeOf 74).run Try.prog W = .ok 2 W := by kernel_rfl
theorem fo74_0 (a : Addr) (W : World) : (Instr.fieldAt 74 (.pointer (some a)) 0).run Try.prog W = .ok (.pointer (some (a.add 0))) W := by kernel_rfl
theorem fo74_1 (a : Addr) (W : World) : (Instr.fieldAt 74 (.pointer (some a)) 1).run Try.prog W = .ok (.pointer (some (a.add 1))) W := by kernel_rfl
theorem ag123 (W : World) : (isAgg 123).run Try.prog W = .ok false W := by kernel_rfl
theorem sz123 (W : World) : (Go.sizeOf 123).run Try.prog W = .ok 1 W := by kernel_rfl
theorem fo125_0 (a : Addr) (W : World) : (Instr.fieldAt 125 (.pointer (some a)) 0).run Try.prog W = .ok (.pointer (some (a.add 0))) W := by kernel_rfl
theorem fo125_1 (a : Addr) (W : World) : (Instr.fieldAt 125 (.pointer (some a)) 1).run Try.prog W = .ok (.pointer (some (a.add 1))) W := by kernel_rfl
theorem fo125_2 (a : Addr) (W : World) : (Instr.fieldAt 125 (.pointer (some a)) 2).run Try.prog W = .ok (.pointer (some (a.add 2))) W := by kernel_rfl
theorem fo125_3 (a : Addr) (W : World) : (Instr.fieldAt 125 (.pointer (some a)) 3).run Try.prog W = .ok (.pointer (some (a.add 3))) W := by kernel_rfl
theorem fo125_4 (a : Addr) (W : World) : (Instr.fieldAt 125 (.pointer (some a)) 4).run Try.prog W = .ok (.pointer (some (a.add 4))) W := by kernel_rfl
theorem ag132 (W : World) : (isAgg 132).run Try.prog W = .ok true W := by kernel_rfl
theorem sz132 (W : World) : (Go.sizeOf 132).run Try.prog W = .ok 2 W := by kernel_rfl
theorem fo132_0 (a : Addr) (W : World) : (Instr.fieldAt 132 (.pointer (some a)) 0).run Try.prog W = .ok (.pointer (some (a.add 0))) W := by kernel_rfl
theorem fo132_1 (a : Addr) (W : World) : (Instr.fieldAt 132 (.pointer (some a)) 1).run Try.prog W = .ok (.pointer (some (a.add 1))) W := by kernel_rfl
theorem inf3 : Inf Try.prog 3 (.int .i64 0) 1 8 := inf_of (by kernel_rfl)
theorem inf4 : Inf Try.prog 4 (.bool false) 1 1 := inf_of (by kernel_rfl)
theorem inf74 : Inf Try.prog 74 (.agg [.slice none 0 0, .slice none 0 0].toArray) 2 48 := inf_of (by kernel_rfl)
theorem inf132 : Inf Try.prog 132 (.agg [.int .i64 0, .int .i64 0].toArray) 2 16 := inf_of (by kernel_rfl)
theorem bd125_0 (z0 : Option Nat) (W : World) : (Instr.build 125 ([(0, .map z0)] : List (Nat × Value)).toArray).run Try.prog W = .ok (.agg ([(.map z0), (.int .i64 0), (.int .i64 0), (.int .i64 0), (.slice none 0 0)] : List Value).toArray) W := by kernel_rfl
theorem bd132_0_1 (z0 : Int) (z1 : Int) (W : World) : (Instr.build 132 ([(0, .int .i64 z0), (1, .int .i64 z1)] : List (Nat × Value)).toArray).run Try.prog W = .ok (.agg ([(.int .i64 z0), (.int .i64 z1)] : List Value).toArray) W := by kernel_rfl
theorem mixed : Try.prog.follows .mixedOrders = true := by kernel_rfl
variable {n : Nat} {f : Nat → Value} {ty : TypeId} {pos : String} {af : Array Edge} {g : Option (Nat × Bool)} {xs : Array Operand} {tys : Array TypeId} {dst : Option Tmp} {vs : List Value}
theorem ca12 {n : Sz} {f : Nat → Value} {ty : TypeId} {pos : String} {af : Array Edge} {g : Option (Nat × Bool)} {xs : Array Operand} {tys : Array TypeId} {dst : Option Tmp} {vs : List Value} (hv : xs.toList.map (ev n f) = vs) (W : World) : (execOp (ev n f) ⟨dst, .call ⟨.value (.func 12), xs, tys⟩, ty, pos, af, g⟩).run Try.prog W = .ok (.enter 12 vs.toArray) W := r_call Try.func12 (by kernel_rfl) (by kernel_rfl) hv W
theorem ca33 {n : Sz} {f : Nat → Value} {ty : TypeId} {pos : String} {af : Array Edge} {g : Option (Nat × Bool)} {xs : Array Operand} {tys : Array TypeId} {dst : Option Tmp} {vs : List Value} (hv : xs.toList.map (ev n f) = vs) (W : World) : (execOp (ev n f) ⟨dst, .call ⟨.value (.func 33), xs, tys⟩, ty, pos, af, g⟩).run Try.prog W = .ok (.enter 33 vs.toArray) W := r_call Try.func33 (by kernel_rfl) (by kernel_rfl) hv W
theorem ca34 {n : Sz} {f : Nat → Value} {ty : TypeId} {pos : String} {af : Array Edge} {g : Option (Nat × Bool)} {xs : Array Operand} {tys : Array TypeId} {dst : Option Tmp} {vs : List Value} (hv : xs.toList.map (ev n f) = vs) (W : World) : (execOp (ev n f) ⟨dst, .call ⟨.value (.func 34), xs, tys⟩, ty, pos, af, g⟩).run Try.prog W = .ok (.enter 34 vs.toArray) W := r_call Try.func34 (by kernel_rfl) (by kernel_rfl) hv W
theorem ca35 {n : Sz} {f : Nat → Value} {ty : TypeId} {pos : String} {af : Array Edge} {g : Option (Nat × Bool)} {xs : Array Operand} {tys : Array TypeId} {dst : Option Tmp} {vs : List Value} (hv : xs.toList.map (ev n f) = vs) (W : World) : (execOp (ev n f) ⟨dst, .call ⟨.value (.func 35), xs, tys⟩, ty, pos, af, g⟩).run Try.prog W = .ok (.enter 35 vs.toArray) W := r_call Try.func35 (by kernel_rfl) (by kernel_rfl) hv W
theorem ca36 {n : Sz} {f : Nat → Value} {ty : TypeId} {pos : String} {af : Array Edge} {g : Option (Nat × Bool)} {xs : Array Operand} {tys : Array TypeId} {dst : Option Tmp} {vs : List Value} (hv : xs.toList.map (ev n f) = vs) (W : World) : (execOp (ev n f) ⟨dst, .call ⟨.value (.func 36), xs, tys⟩, ty, pos, af, g⟩).run Try.prog W = .ok (.enter 36 vs.toArray) W := r_call Try.func36 (by kernel_rfl) (by kernel_rfl) hv W
theorem ca37 {n : Sz} {f : Nat → Value} {ty : TypeId} {pos : String} {af : Array Edge} {g : Option (Nat × Bool)} {xs : Array Operand} {tys : Array TypeId} {dst : Option Tmp} {vs : List Value} (hv : xs.toList.map (ev n f) = vs) (W : World) : (execOp (ev n f) ⟨dst, .call ⟨.value (.func 37), xs, tys⟩, ty, pos, af, g⟩).run Try.prog W = .ok (.enter 37 vs.toArray) W := r_call Try.func37 (by kernel_rfl) (by kernel_rfl) hv W
theorem ca38 {n : Sz} {f : Nat → Value} {ty : TypeId} {pos : String} {af : Array Edge} {g : Option (Nat × Bool)} {xs : Array Operand} {tys : Array TypeId} {dst : Option Tmp} {vs : List Value} (hv : xs.toList.map (ev n f) = vs) (W : World) : (execOp (ev n f) ⟨dst, .call ⟨.value (.func 38), xs, tys⟩, ty, pos, af, g⟩).run Try.prog W = .ok (.enter 38 vs.toArray) W := r_call Try.func38 (by kernel_rfl) (by kernel_rfl) hv W
theorem ca39 {n : Sz} {f : Nat → Value} {ty : TypeId} {pos : String} {af : Array Edge} {g : Option (Nat × Bool)} {xs : Array Operand} {tys : Array TypeId} {dst : Option Tmp} {vs : List Value} (hv : xs.toList.map (ev n f) = vs) (W : World) : (execOp (ev n f) ⟨dst, .call ⟨.value (.func 39), xs, tys⟩, ty, pos, af, g⟩).run Try.prog W = .ok (.enter 39 vs.toArray) W := r_call Try.func39 (by kernel_rfl) (by kernel_rfl) hv W
theorem ca40 {n : Sz} {f : Nat → Value} {ty : TypeId} {pos : String} {af : Array Edge} {g : Option (Nat × Bool)} {xs : Array Operand} {tys : Array TypeId} {dst : Option Tmp} {vs : List Value} (hv : xs.toList.map (ev n f) = vs) (W : World) : (execOp (ev n f) ⟨dst, .call ⟨.value (.func 40), xs, tys⟩, ty, pos, af, g⟩).run Try.prog W = .ok (.enter 40 vs.toArray) W := r_call Try.func40 (by kernel_rfl) (by kernel_rfl) hv W
theorem ca41 {n : Sz} {f : Nat → Value} {ty : TypeId} {pos : String} {af : Array Edge} {g : Option (Nat × Bool)} {xs : Array Operand} {tys : Array TypeId} {dst : Option Tmp} {vs : List Value} (hv : xs.toList.map (ev n f) = vs) (W : World) : (execOp (ev n f) ⟨dst, .call ⟨.value (.func 41), xs, tys⟩, ty, pos, af, g⟩).run Try.prog W = .ok (.enter 41 vs.toArray) W := r_call Try.func41 (by kernel_rfl) (by kernel_rfl) hv W
theorem ca42 {n : Sz} {f : Nat → Value} {ty : TypeId} {pos : String} {af : Array Edge} {g : Option (Nat × Bool)} {xs : Array Operand} {tys : Array TypeId} {dst : Option Tmp} {vs : List Value} (hv : xs.toList.map (ev n f) = vs) (W : World) : (execOp (ev n f) ⟨dst, .call ⟨.value (.func 42), xs, tys⟩, ty, pos, af, g⟩).run Try.prog W = .ok (.enter 42 vs.toArray) W := r_call Try.func42 (by kernel_rfl) (by kernel_rfl) hv W
theorem ca43 {n : Sz} {f : Nat → Value} {ty : TypeId} {pos : String} {af : Array Edge} {g : Option (Nat × Bool)} {xs : Array Operand} {tys : Array TypeId} {dst : Option Tmp} {vs : List Value} (hv : xs.toList.map (ev n f) = vs) (W : World) : (execOp (ev n f) ⟨dst, .call ⟨.value (.func 43), xs, tys⟩, ty, pos, af, g⟩).run Try.prog W = .ok (.enter 43 vs.toArray) W := r_call Try.func43 (by kernel_rfl) (by kernel_rfl) hv W
theorem ca44 {n : Sz} {f : Nat → Value} {ty : TypeId} {pos : String} {af : Array Edge} {g : Option (Nat × Bool)} {xs : Array Operand} {tys : Array TypeId} {dst : Option Tmp} {vs : List Value} (hv : xs.toList.map (ev n f) = vs) (W : World) : (execOp (ev n f) ⟨dst, .call ⟨.value (.func 44), xs, tys⟩, ty, pos, af, g⟩).run Try.prog W = .ok (.enter 44 vs.toArray) W := r_call Try.func44 (by kernel_rfl) (by kernel_rfl) hv W
theorem ca45 {n : Sz} {f : Nat → Value} {ty : TypeId} {pos : String} {af : Array Edge} {g : Option (Nat × Bool)} {xs : Array Operand} {tys : Array TypeId} {dst : Option Tmp} {vs : List Value} (hv : xs.toList.map (ev n f) = vs) (W : World) : (execOp (ev n f) ⟨dst, .call ⟨.value (.func 45), xs, tys⟩, ty, pos, af, g⟩).run Try.prog W = .ok (.enter 45 vs.toArray) W := r_call Try.func45 (by kernel_rfl) (by kernel_rfl) hv W
theorem ca46 {n : Sz} {f : Nat → Value} {ty : TypeId} {pos : String} {af : Array Edge} {g : Option (Nat × Bool)} {xs : Array Operand} {tys : Array TypeId} {dst : Option Tmp} {vs : List Value} (hv : xs.toList.map (ev n f) = vs) (W : World) : (execOp (ev n f) ⟨dst, .call ⟨.value (.func 46), xs, tys⟩, ty, pos, af, g⟩).run Try.prog W = .ok (.enter 46 vs.toArray) W := r_call Try.func46 (by kernel_rfl) (by kernel_rfl) hv W
theorem ca54 {n : Sz} {f : Nat → Value} {ty : TypeId} {pos : String} {af : Array Edge} {g : Option (Nat × Bool)} {xs : Array Operand} {tys : Array TypeId} {dst : Option Tmp} {vs : List Value} (hv : xs.toList.map (ev n f) = vs) (W : World) : (execOp (ev n f) ⟨dst, .call ⟨.value (.func 54), xs, tys⟩, ty, pos, af, g⟩).run Try.prog W = .ok (.enter 54 vs.toArray) W := r_call Try.func54 (by kernel_rfl) (by kernel_rfl) hv W
theorem ca55 {n : Sz} {f : Nat → Value} {ty : TypeId} {pos : String} {af : Array Edge} {g : Option (Nat × Bool)} {xs : Array Operand} {tys : Array TypeId} {dst : Option Tmp} {vs : List Value} (hv : xs.toList.map (ev n f) = vs) (W : World) : (execOp (ev n f) ⟨dst, .call ⟨.value (.func 55), xs, tys⟩, ty, pos, af, g⟩).run Try.prog W = .ok (.enter 55 vs.toArray) W := r_call Try.func55 (by kernel_rfl) (by kernel_rfl) hv W
theorem ca67 {n : Sz} {f : Nat → Value} {ty : TypeId} {pos : String} {af : Array Edge} {g : Option (Nat × Bool)} {xs : Array Operand} {tys : Array TypeId} {dst : Option Tmp} {vs : List Value} (hv : xs.toList.map (ev n f) = vs) (W : World) : (execOp (ev n f) ⟨dst, .call ⟨.value (.func 67), xs, tys⟩, ty, pos, af, g⟩).run Try.prog W = .ok (.enter 67 vs.toArray) W := r_call Try.func67 (by kernel_rfl) (by kernel_rfl) hv W
theorem ca68 {n : Sz} {f : Nat → Value} {ty : TypeId} {pos : String} {af : Array Edge} {g : Option (Nat × Bool)} {xs : Array Operand} {tys : Array TypeId} {dst : Option Tmp} {vs : List Value} (hv : xs.toList.map (ev n f) = vs) (W : World) : (execOp (ev n f) ⟨dst, .call ⟨.value (.func 68), xs, tys⟩, ty, pos, af, g⟩).run Try.prog W = .ok (.enter 68 vs.toArray) W := r_call Try.func68 (by kernel_rfl) (by kernel_rfl) hv W
theorem ca69 {n : Sz} {f : Nat → Value} {ty : TypeId} {pos : String} {af : Array Edge} {g : Option (Nat × Bool)} {xs : Array Operand} {tys : Array TypeId} {dst : Option Tmp} {vs : List Value} (hv : xs.toList.map (ev n f) = vs) (W : World) : (execOp (ev n f) ⟨dst, .call ⟨.value (.func 69), xs, tys⟩, ty, pos, af, g⟩).run Try.prog W = .ok (.enter 69 vs.toArray) W := r_call Try.func69 (by kernel_rfl) (by kernel_rfl) hv W
theorem ca71 {n : Sz} {f : Nat → Value} {ty : TypeId} {pos : String} {af : Array Edge} {g : Option (Nat × Bool)} {xs : Array Operand} {tys : Array TypeId} {dst : Option Tmp} {vs : List Value} (hv : xs.toList.map (ev n f) = vs) (W : World) : (execOp (ev n f) ⟨dst, .call ⟨.value (.func 71), xs, tys⟩, ty, pos, af, g⟩).run Try.prog W = .ok (.enter 71 vs.toArray) W := r_call Try.func71 (by kernel_rfl) (by kernel_rfl) hv W
theorem ca72 {n : Sz} {f : Nat → Value} {ty : TypeId} {pos : String} {af : Array Edge} {g : Option (Nat × Bool)} {xs : Array Operand} {tys : Array TypeId} {dst : Option Tmp} {vs : List Value} (hv : xs.toList.map (ev n f) = vs) (W : World) : (execOp (ev n f) ⟨dst, .call ⟨.value (.func 72), xs, tys⟩, ty, pos, af, g⟩).run Try.prog W = .ok (.enter 72 vs.toArray) W := r_call Try.func72 (by kernel_rfl) (by kernel_rfl) hv W
theorem ca73 {n : Sz} {f : Nat → Value} {ty : TypeId} {pos : String} {af : Array Edge} {g : Option (Nat × Bool)} {xs : Array Operand} {tys : Array TypeId} {dst : Option Tmp} {vs : List Value} (hv : xs.toList.map (ev n f) = vs) (W : World) : (execOp (ev n f) ⟨dst, .call ⟨.value (.func 73), xs, tys⟩, ty, pos, af, g⟩).run Try.prog W = .ok (.enter 73 vs.toArray) W := r_call Try.func73 (by kernel_rfl) (by kernel_rfl) hv W
theorem ca94 {n : Sz} {f : Nat → Value} {ty : TypeId} {pos : String} {af : Array Edge} {g : Option (Nat × Bool)} {xs : Array Operand} {tys : Array TypeId} {dst : Option Tmp} {vs : List Value} (hv : xs.toList.map (ev n f) = vs) (W : World) : (execOp (ev n f) ⟨dst, .call ⟨.value (.func 94), xs, tys⟩, ty, pos, af, g⟩).run Try.prog W = .ok (.enter 94 vs.toArray) W := r_call Try.func94 (by kernel_rfl) (by kernel_rfl) hv W
theorem ca95 {n : Sz} {f : Nat → Value} {ty : TypeId} {pos : String} {af : Array Edge} {g : Option (Nat × Bool)} {xs : Array Operand} {tys : Array TypeId} {dst : Option Tmp} {vs : List Value} (hv : xs.toList.map (ev n f) = vs) (W : World) : (execOp (ev n f) ⟨dst, .call ⟨.value (.func 95), xs, tys⟩, ty, pos, af, g⟩).run Try.prog W = .ok (.enter 95 vs.toArray) W := r_call Try.func95 (by kernel_rfl) (by kernel_rfl) hv W
theorem ca124 {n : Sz} {f : Nat → Value} {ty : TypeId} {pos : String} {af : Array Edge} {g : Option (Nat × Bool)} {xs : Array Operand} {tys : Array TypeId} {dst : Option Tmp} {vs : List Value} (hv : xs.toList.map (ev n f) = vs) (W : World) : (execOp (ev n f) ⟨dst, .call ⟨.value (.func 124), xs, tys⟩, ty, pos, af, g⟩).run Try.prog W = .ok (.enter 124 vs.toArray) W := r_call Try.func124 (by kernel_rfl) (by kernel_rfl) hv W
theorem ca126 {n : Sz} {f : Nat → Value} {ty : TypeId} {pos : String} {af : Array Edge} {g : Option (Nat × Bool)} {xs : Array Operand} {tys : Array TypeId} {dst : Option Tmp} {vs : List Value} (hv : xs.toList.map (ev n f) = vs) (W : World) : (execOp (ev n f) ⟨dst, .call ⟨.value (.func 126), xs, tys⟩, ty, pos, af, g⟩).run Try.prog W = .ok (.enter 126 vs.toArray) W := r_call Try.func126 (by kernel_rfl) (by kernel_rfl) hv W
theorem ca148 {n : Sz} {f : Nat → Value} {ty : TypeId} {pos : String} {af : Array Edge} {g : Option (Nat × Bool)} {xs : Array Operand} {tys : Array TypeId} {dst : Option Tmp} {vs : List Value} (hv : xs.toList.map (ev n f) = vs) (W : World) : (execOp (ev n f) ⟨dst, .call ⟨.value (.func 148), xs, tys⟩, ty, pos, af, g⟩).run Try.prog W = .ok (.enter 148 vs.toArray) W := r_call Try.func148 (by kernel_rfl) (by kernel_rfl) hv W
theorem ca149 {n : Sz} {f : Nat → Value} {ty : TypeId} {pos : String} {af : Array Edge} {g : Option (Nat × Bool)} {xs : Array Operand} {tys : Array TypeId} {dst : Option Tmp} {vs : List Value} (hv : xs.toList.map (ev n f) = vs) (W : World) : (execOp (ev n f) ⟨dst, .call ⟨.value (.func 149), xs, tys⟩, ty, pos, af, g⟩).run Try.prog W = .ok (.enter 149 vs.toArray) W := r_call Try.func149 (by kernel_rfl) (by kernel_rfl) hv W
theorem ca164 {n : Sz} {f : Nat → Value} {ty : TypeId} {pos : String} {af : Array Edge} {g : Option (Nat × Bool)} {xs : Array Operand} {tys : Array TypeId} {dst : Option Tmp} {vs : List Value} (hv : xs.toList.map (ev n f) = vs) (W : World) : (execOp (ev n f) ⟨dst, .call ⟨.value (.func 164), xs, tys⟩, ty, pos, af, g⟩).run Try.prog W = .ok (.enter 164 vs.toArray) W := r_call Try.func164 (by kernel_rfl) (by kernel_rfl) hv W
theorem ca169 {n : Sz} {f : Nat → Value} {ty : TypeId} {pos : String} {af : Array Edge} {g : Option (Nat × Bool)} {xs : Array Operand} {tys : Array TypeId} {dst : Option Tmp} {vs : List Value} (hv : xs.toList.map (ev n f) = vs) (W : World) : (execOp (ev n f) ⟨dst, .call ⟨.value (.func 169), xs, tys⟩, ty, pos, af, g⟩).run Try.prog W = .ok (.enter 169 vs.toArray) W := r_call Try.func169 (by kernel_rfl) (by kernel_rfl) hv W
end Go.Proofs.Ytlakbclnilakbaa
end

section
namespace Go.Proofs.Ytlakbclnilakbaa
open Go.RowKit

end Go.Proofs.Ytlakbclnilakbaa
end

section
namespace Go.Proofs.Ytlakbclnilakbaa
open Go.RowKit
set_option maxRecDepth 100000
set_option maxHeartbeats 4000000
abbrev ptrC (p : Nat) : Value := .pointer (some ⟨p, 0, none⟩)
def kC : KC Try.prog 3 Int := kI Try.prog 3 Try.underlying3
theorem Heap.grps {w0 W : World} {F : List Nat} {A L : List Ent} (H : Heap w0 F (A ++ L) W) : Heap w0 F (grp A :: L) W := by
 have e : ids (grp A :: L) = ids (A ++ L) := by rw [ids_cons, ids_append]; rfl
 refine ⟨fun E hE => ?_, by rw [e]; exact H.nd, by rw [e]; exact H.own, H.only⟩
 rcases List.mem_cons.1 hE with rfl | h
 ·exact H.part
 ·exact H.ok E (List.mem_append_right _ h)
theorem Heap.ungrp {w0 W : World} {F : List Nat} {A L : List Ent} (H : Heap w0 F (grp A :: L) W) : Heap w0 F (A ++ L) W := by
 have e : ids (grp A :: L) = ids (A ++ L) := by rw [ids_cons, ids_append]; rfl
 refine ⟨fun E hE => ?_, by rw [← e]; exact H.nd, by rw [← e]; exact H.own, H.only⟩
 rcases List.mem_append.1 hE with h | h
 ·exact (H.grp_ents 0 rfl).1 E h
 ·exact H.ok E (List.mem_cons_of_mem _ h)
def lvE (p b : Nat) (A : Option Addr) (c : Nat) (nc nb nd : Int) (dead : List Int) : List Ent :=
 [blk p [.map (some b), .int .i64 nc, .int .i64 nb, .int .i64 nd, .slice A (Cn.tbl dead).length c] 125, ownN 1 (.slice A (Cn.tbl dead).length c) (Cn.tbl dead).length ((Cn.tbl dead).map (Value.int .i64)) 3]
def cnE (p b : Nat) (A : Option Addr) (c : Nat) (nc nb nd : Int) (ages : List (Int × Int)) (dead : List Int) : List Ent :=
 [grp (lvE p b A c nc nb nd dead), mp kC (Value.int .i64) b ages]
theorem cNew (w : World) : Calls Try.prog 35 [].toArray w fun e w' => ∃ p b, e = .returned (ptrC p) ∧ Heap w [] (cnE p b none 0 0 0 0 [] []) w' := by
 have H := Heap.nil w
 refine k_in (N := 4) Try.func35 rfl rfl rfl ?_
 refine k_sg ?_
 refine s_run rfl rfl (rap rfl) ?_
 refine k_nc ?_
 refine k_sg ?_
 refine s_mm kC (Value.int .i64) H rfl ?_
 intro b1 _ H'; clear H; have H := H'; clear H'
 refine s_run rfl rfl (r_bd (bd125_0 _) rfl) ?_
 refine s_box H rfl rfl ?_
 intro p3 _ H'; clear H; have H := H'; clear H'
 refine s_run rfl rfl (rap rfl) ?_
 refine k_nc ?_
 refine k_ret ?_
 refine fin1r (v := .pointer _) rfl rfl ?_
 replace H := H.own_nil 1 3
 exact ⟨p3, b1, rfl, Heap.grps (A := lvE p3 b1 none 0 0 0 0 []) (Heap.subl H [1, 0, 2] rfl rfl)⟩
section
variable {p b c : Nat} {A : Option Addr} {nc nb nd : Int} {dead : List Int} {ages : List (Int × Int)} {w : World}
theorem cLive (hE : Ents (lvE p b A c nc nb nd dead) w) (a : Nat) (ha : a ≤ 1000) (hd : ∀ x ∈ dead, x ≤ ((1000 : Nat) : Int)) (hl : dead.length ≤ 100000) :
  Calls Try.prog 68 [ptrC p, .int .i64 a].toArray w fun e w' => e = .returned (.tuple #[]) ∧ ∃ A' c', Heap w (ids (lvE p b A c nc nb nd dead)) (lvE p b A' c' nc nb nd (dead ++ [(a : Int)])) w' := by
 have H := Heap.start hE
 have htl := Cn.tbl_len 1000 dead hd
 have hbd := fun i => Cn.tbl_get_bd dead i
 have hsn := Cn.tbl_snoc dead a
 rw [Int.toNat_natCast] at hsn
 unfold lvE at *
 rw [hsn]
 generalize Cn.tbl dead = t at *
 generalize ids _ = I at *
 refine k_in (N := 29) Try.func68 rfl rfl rfl ?_
 refine k_seq ?_
 refine k_b ?_
 refine k_loop (fun z f W => ∃ (k : Nat) (A : Option Addr) (c : Nat), t.length ≤ k ∧ k ≤ max t.length (a + 1) ∧ z = a + 1 - k ∧ f 0 = ptrC p ∧ f 1 = .int .i64 a ∧ Heap w I [blk p [.map (some b), .int .i64 nc, .int .i64 nb, .int .i64 nd, .slice A k c] 125, ownN 1 (.slice A k c) k ((Cn.pad t k).map (Value.int .i64)) 3] W) _ ⟨t.length, A, c, by omega, by omega, rfl, rfl, rfl, by rw [Cn.pad_self (Nat.le_refl _)]; exact H⟩ ?_
 clear H
 rintro z f W ⟨k, A, c, hk1, hk2, rfl, f0, f1, H⟩
 obtain ⟨f, rfl⟩ := live2 f0 f1
 clear f0 f1
 have hpl := Cn.pad_len t k
 by_cases hk : k ≤ a
 ·refine k_seq ?_
  refine k_sg ?_
  refine s_run rfl rfl (rmp rfl) ?_
  refine s_run rfl rfl (r_nc rfl) ?_
  refine s_run rfl rfl (r_fa0 rfl fo125_4) ?_
  refine s_run rfl rfl (r_lo H 0 rfl rfl rfl ag25) ?_
  refine s_run rfl rfl (r_len rfl Try.underlying25) ?_
  refine s_run rfl rfl (rmi rfl) ?_
  refine s_run rfl rfl (r_leqT rfl rfl (by omega)) ?_
  refine k_nc ?_
  refine k_t rfl ?_
  refine k_skip ?_
  refine c_norm ?_
  refine k_b ?_
  refine k_rg ?_
  refine s_run rfl rfl (rmp rfl) ?_
  refine s_run rfl rfl (rmp rfl) ?_
  refine s_run rfl rfl (r_nc rfl) ?_
  refine s_run rfl rfl (r_fa0 rfl fo125_4) ?_
  refine s_run rfl rfl (r_lo H 0 rfl rfl rfl ag25) ?_
  refine s_app1 (enc := (Value.int .i64)) H 1 rfl rfl rfl rfl rfl rfl rfl (by omega) Try.underlying25 inf3 rfl ?_
  intro _ An cn _ H'; simp only [List.set_cons_zero, List.set_cons_succ, List.take_succ_cons, List.take_zero, List.drop_succ_cons, List.drop_zero, List.cons_append, List.nil_append, List.append_nil, List.length_cons, List.length_nil, Nat.reduceAdd] at H'; clear H; have H := H'; clear H'
  refine s_run rfl rfl (r_nc rfl) ?_
  refine s_run rfl rfl (r_fa0 rfl fo125_4) ?_
  refine s_st (u := .slice _ _ _) H 0 rfl rfl rfl rfl rfl rfl sz25 ?_
  clear H; intro _ H; simp only [jA, jB, jC, jD, jE, jF, jG, jH, jI, jJ, jK, Nat.reduceAdd] at H
  refine k_nil ?_
  refine b_norm ?_
  refine c_round ?_
  have e : Cn.pad t k ++ [0] = Cn.pad t (k + 1) := by
   have h1 := Cn.pad_succ (Cn.pad t k)
   rw [hpl, Nat.max_eq_right hk1, Cn.pad_pad _ _ _ (by omega)] at h1
   exact h1.symm
  rw [e] at H
  refine ⟨_, _, ?_, rfl, k + 1, An, cn, by omega, by omega, rfl, rfl, rfl, H⟩
  omega
 ·have hkm : k = max t.length (a + 1) := by omega
  have hag : a < k := by omega
  obtain ⟨q, rfl⟩ := H.own_some 1 rfl (by omega)
  have hge : (Cn.pad t k)[a]? = some (t.getD a 0) := by
   have h1 := Cn.pad_get t k a
   rw [List.getD_eq_getElem?_getD, List.getElem?_eq_getElem (by omega)] at h1
   rw [List.getElem?_eq_getElem (by omega)]
   exact congrArg some h1
  have hv := hbd a
  have hpk : Cn.pad t k = Cn.pad t (a + 1) := by
   rcases Nat.le_total t.length (a + 1) with h | h
   ·rw [hkm, Nat.max_eq_right h]
   ·rw [hkm, Nat.max_eq_left h, Cn.pad_self (Nat.le_refl _), Cn.pad_self h]
  generalize hvv : t.getD a 0 = v at *
  refine k_seq ?_
  refine k_sg ?_
  refine s_run rfl rfl (rmp rfl) ?_
  refine s_run rfl rfl (r_nc rfl) ?_
  refine s_run rfl rfl (r_fa0 rfl fo125_4) ?_
  refine s_run rfl rfl (r_lo H 0 rfl rfl rfl ag25) ?_
  refine s_run rfl rfl (r_len rfl Try.underlying25) ?_
  refine s_run rfl rfl (rmi rfl) ?_
  refine s_run rfl rfl (r_leqF rfl rfl (by omega)) ?_
  refine k_nc ?_
  refine k_f rfl ?_
  refine k_exit ?_
  refine c_exit ?_
  refine c_exit ?_
  refine b_hit ?_
  refine c_norm ?_
  refine k_rg ?_
  refine s_run rfl rfl (rmp rfl) ?_
  refine s_run rfl rfl (r_nc rfl) ?_
  refine s_run rfl rfl (r_fa0 rfl fo125_4) ?_
  refine s_run rfl rfl (r_lo H 0 rfl rfl rfl ag25) ?_
  refine s_run rfl rfl (rmi rfl) ?_
  refine s_run rfl rfl (r_ix1 (i := a) rfl rfl (by omega) (by omega) Try.underlying25 sz3) ?_
  refine s_run rfl rfl (r_ow H 1 rfl rfl hge ag3) ?_
  refine s_run rfl rfl (r_add rfl rfl (wI (by omega))) ?_
  refine s_run rfl rfl (r_ix1 (i := a) rfl rfl (by omega) (by omega) Try.underlying25 sz3) ?_
  refine s_so (enc := Value.int .i64) H 1 rfl rfl rfl rfl rfl (by omega) rfl sz3 ?_
  clear H; intro _ H; simp only [jA, jB, jC, jD, jE, jF, jG, jH, jI, jJ, jK, Nat.reduceAdd] at H
  refine k_nil ?_
  refine fin0  rfl ?_
  refine ⟨rfl, some ⟨q, 0, none⟩, c, ?_⟩
  have e1 : Cn.tadd t a = (Cn.pad t k).set a (v + 1) := by unfold Cn.tadd; rw [hpk, hvv]
  have e2 : (Cn.tadd t a).length = k := by rw [Cn.tadd_len]; exact hkm.symm
  rw [e2, e1]
  exact H
end
end Go.Proofs.Ytlakbclnilakbaa
end

section
namespace Go.Proofs.Ytlakbclnilakbaa
open Go.RowKit
set_option maxRecDepth 100000
set_option maxHeartbeats 4000000
theorem Cn.pad_next {t : List Int} {k : Nat} (h : t.length ≤ k) : Cn.pad t k ++ [0] = Cn.pad t (k + 1) := by
 have h1 := Cn.pad_succ (Cn.pad t k)
 rw [Cn.pad_len, Nat.max_eq_right h, Cn.pad_pad _ _ _ (by omega)] at h1
 exact h1.symm
theorem Cn.pad_at {t : List Int} {k a : Nat} (ha : a < k) (h : t.length ≤ k) : (Cn.pad t k)[a]? = some (t.getD a 0) := by
 have hpl := Cn.pad_len t k
 have h1 := Cn.pad_get t k a
 rw [List.getD_eq_getElem?_getD, List.getElem?_eq_getElem (by omega)] at h1
 rw [List.getElem?_eq_getElem (by omega)]
 exact congrArg some h1
theorem Cn.pad_end {t : List Int} {k a : Nat} (h : k = max t.length (a + 1)) : Cn.tadd t a = (Cn.pad t k).set a (t.getD a 0 + 1) ∧ (Cn.tadd t a).length = k := by
 refine ⟨?_, by rw [Cn.tadd_len]; exact h.symm⟩
 unfold Cn.tadd
 congr 1
 rcases Nat.le_total t.length (a + 1) with h1 | h1
 ·rw [h, Nat.max_eq_right h1]
 ·rw [h, Nat.max_eq_left h1, Cn.pad_self (Nat.le_refl _), Cn.pad_self h1]
theorem rTable (A : Option Addr) (n c : Nat) (l : List Int) (w : World) (hS : Sees (Value.int .i64) w [] A l) (hl : l.length = n) (hn : n ≤ 100000) (hb : ∀ x ∈ l, 0 ≤ x ∧ x ≤ 1000) :
  Calls Try.prog 42 [.slice A n c].toArray w fun e w' => ∃ A' c', e = .returned (.slice A' (Cn.tbl l).length c') ∧ Heap w [] [ownN 1 (.slice A' (Cn.tbl l).length c') (Cn.tbl l).length ((Cn.tbl l).map (Value.int .i64)) 3] w' := by
 have H := Heap.nil w
 refine k_in (N := 31) Try.func42 rfl rfl rfl ?_
 refine k_sg ?_
 refine s_run rfl rfl (ras rfl) ?_
 refine k_nc ?_
 refine k_sg ?_
 refine s_run rfl rfl (ras rfl) ?_
 refine k_nc ?_
 refine k_seq ?_
 refine k_sg ?_
 refine s_run rfl rfl (rai rfl) ?_
 refine k_nc ?_
 refine k_b ?_
 replace H := H.own_nil 1 3
 refine k_loop (fun z f W => ∃ (i : Nat) (OA : Option Addr) (co : Nat), i ≤ n ∧ z = n - i ∧ f 0 = .slice A n c ∧ f 3 = .slice OA (Cn.tbl (l.take i)).length co ∧ f 4 = .int .i64 i ∧ Heap w [] [ownN 1 (.slice OA (Cn.tbl (l.take i)).length co) (Cn.tbl (l.take i)).length ((Cn.tbl (l.take i)).map (Value.int .i64)) 3] W) n ⟨0, none, 0, by omega, rfl, rfl, rfl, rfl, H⟩ ?_
 clear H
 rintro z f W ⟨i, OA, co, hi, rfl, f0, f3, f4, H⟩
 obtain ⟨f, rfl⟩ := live3 f0 f3 f4
 clear f0 f3 f4
 by_cases hlt : i < n
 ·obtain ⟨x, hx⟩ : ∃ x, l[i]? = some x := ⟨_, List.getElem?_eq_getElem (by omega)⟩
  obtain ⟨hx0, hx1⟩ := hb x (List.mem_of_getElem? hx)
  obtain ⟨a, rfl⟩ := Int.eq_ofNat_of_zero_le hx0
  obtain ⟨b, o, rfl, _, hrd⟩ := hS (by omega)
  have hc := hrd i _ hx
  have hsn := Cn.tbl_snoc (l.take i) a
  rw [tk_snoc hx, Int.toNat_natCast] at hsn
  have htl := Cn.tbl_len 1000 (l.take i) fun y hy => (hb y (List.mem_of_mem_take hy)).2
  have hbd := Cn.tbl_get_bd (l.take i) a
  rw [List.length_take] at hbd
  generalize Cn.tbl (l.take i) = t at *
  refine k_seq ?_
  refine k_sg ?_
  refine s_run rfl rfl (rmi rfl) ?_
  refine s_run rfl rfl (rms rfl) ?_
  refine s_run rfl rfl (r_len rfl Try.underlying25) ?_
  refine s_run rfl rfl (r_lssT rfl rfl (by omega)) ?_
  refine k_nc ?_
  refine k_t rfl ?_
  refine k_skip ?_
  refine c_norm ?_
  refine k_seq ?_
  refine k_b ?_
  refine k_seq ?_
  refine k_b ?_
  refine k_loop (fun z f W => ∃ (k : Nat) (OA : Option Addr) (co : Nat), t.length ≤ k ∧ k ≤ max t.length (a + 1) ∧ z = a + 1 - k ∧ f 0 = .slice (some ⟨b, o, none⟩) n c ∧ f 3 = .slice OA k co ∧ f 4 = .int .i64 i ∧ Heap w [] [ownN 1 (.slice OA k co) k ((Cn.pad t k).map (Value.int .i64)) 3] W) _ ⟨t.length, OA, co, by omega, by omega, rfl, rfl, rfl, rfl, by rw [Cn.pad_self (Nat.le_refl _)]; exact H⟩ ?_
  clear H
  rintro z f W ⟨k, OA, co, hk1, hk2, rfl, f0, f3, f4, H⟩
  obtain ⟨f, rfl⟩ := live3 f0 f3 f4
  clear f0 f3 f4
  have hpl := Cn.pad_len t k
  by_cases hk : k ≤ a
  ·refine k_seq ?_
   refine k_sg ?_
   refine s_run rfl rfl (rms rfl) ?_
   refine s_run rfl rfl (r_len rfl Try.underlying25) ?_
   refine s_run rfl rfl (rms rfl) ?_
   refine s_run rfl rfl (rmi rfl) ?_
   refine s_run rfl rfl (r_ix1o (i := i) rfl rfl (by omega) (by omega) Try.underlying25 sz3) ?_
   refine s_run rfl rfl (r_lr H rfl hc (by simp) ag3) ?_
   refine s_run rfl rfl (r_leqT rfl rfl (by omega)) ?_
   refine k_nc ?_
   refine k_t rfl ?_
   refine k_skip ?_
   refine c_norm ?_
   refine k_b ?_
   refine k_rg ?_
   refine s_run rfl rfl (rms rfl) ?_
   refine s_app1 (enc := (Value.int .i64)) H 0 rfl rfl rfl rfl rfl rfl rfl (by omega) Try.underlying25 inf3 rfl ?_
   intro _ An cn _ H'; simp only [List.set_cons_zero, List.set_cons_succ, List.take_succ_cons, List.take_zero, List.drop_succ_cons, List.drop_zero, List.cons_append, List.nil_append, List.append_nil, List.length_cons, List.length_nil, Nat.reduceAdd] at H'; clear H; have H := H'; clear H'
   refine s_run rfl rfl (ras rfl) ?_
   refine k_nil ?_
   refine b_norm ?_
   refine c_round ?_
   rw [Cn.pad_next hk1] at H
   refine ⟨_, _, ?_, rfl, k + 1, An, cn, by omega, by omega, rfl, rfl, rfl, rfl, H⟩
   omega
  ·have hkm : k = max t.length (a + 1) := by omega
   have hag : a < k := by omega
   obtain ⟨q, rfl⟩ := H.own_some 0 rfl (by omega)
   have hge := Cn.pad_at hag hk1
   obtain ⟨e1, e2⟩ := Cn.pad_end hkm
   generalize hvv : t.getD a 0 = v at *
   refine k_seq ?_
   refine k_sg ?_
   refine s_run rfl rfl (rms rfl) ?_
   refine s_run rfl rfl (r_len rfl Try.underlying25) ?_
   refine s_run rfl rfl (rms rfl) ?_
   refine s_run rfl rfl (rmi rfl) ?_
   refine s_run rfl rfl (r_ix1o (i := i) rfl rfl (by omega) (by omega) Try.underlying25 sz3) ?_
   refine s_run rfl rfl (r_lr H rfl hc (by simp) ag3) ?_
   refine s_run rfl rfl (r_leqF rfl rfl (by omega)) ?_
   refine k_nc ?_
   refine k_f rfl ?_
   refine k_exit ?_
   refine c_exit ?_
   refine c_exit ?_
   refine b_hit ?_
   refine c_norm ?_
   refine k_rg ?_
   refine s_run rfl rfl (rms rfl) ?_
   refine s_run rfl rfl (rms rfl) ?_
   refine s_run rfl rfl (rmi rfl) ?_
   refine s_run rfl rfl (r_ix1o (i := i) rfl rfl (by omega) (by omega) Try.underlying25 sz3) ?_
   refine s_run rfl rfl (r_lr H rfl hc (by simp) ag3) ?_
   refine s_run rfl rfl (r_ix1 (i := a) rfl rfl (by omega) (by omega) Try.underlying25 sz3) ?_
   refine s_run rfl rfl (r_ow H 0 rfl rfl hge ag3) ?_
   refine s_run rfl rfl (r_add rfl rfl (wI (by omega))) ?_
   refine s_run rfl rfl (r_ix1 (i := a) rfl rfl (by omega) (by omega) Try.underlying25 sz3) ?_
   refine s_so (enc := Value.int .i64) H 0 rfl rfl rfl rfl rfl (by omega) rfl sz3 ?_
   clear H; intro _ H; simp only [jA, jB, jC, jD, jE, jF, jG, jH, jI, jJ, jK, Nat.reduceAdd] at H
   refine k_nil ?_
   refine b_norm ?_
   refine c_norm ?_
   refine k_rg ?_
   refine s_run rfl rfl (rmi rfl) ?_
   refine s_run rfl rfl (r_add rfl rfl (wI (by omega))) ?_
   refine s_run rfl rfl (rai rfl) ?_
   refine k_nil ?_
   refine c_round ?_
   rw [← e1] at H
   rw [← e2] at H ⊢
   rw [← hsn] at H ⊢
   refine ⟨_, _, ?_, rfl, i + 1, some ⟨q, 0, none⟩, co, by omega, rfl, rfl, rfl, rfl, H⟩
   omega
 ·obtain rfl : i = n := by omega
  rw [show l.take i = l by rw [← hl]; exact List.take_length] at H ⊢
  refine k_seq ?_
  refine k_sg ?_
  refine s_run rfl rfl (rmi rfl) ?_
  refine s_run rfl rfl (rms rfl) ?_
  refine s_run rfl rfl (r_len rfl Try.underlying25) ?_
  refine s_run rfl rfl (r_lssF rfl rfl (by omega)) ?_
  refine k_nc ?_
  refine k_f rfl ?_
  refine k_exit ?_
  refine c_exit ?_
  refine c_exit ?_
  refine b_hit ?_
  refine c_norm ?_
  refine k_sg ?_
  refine s_run rfl rfl (rms rfl) ?_
  refine s_run rfl rfl (ras rfl) ?_
  refine k_nc ?_
  refine k_ret ?_
  refine fin1r (v := .slice _ _ _) rfl rfl ?_
  exact ⟨OA, co, rfl, H⟩
end Go.Proofs.Ytlakbclnilakbaa
end

section
namespace Go.Proofs.Ytlakbclnilakbaa.Bt
open Go

/-! powers, masks -/
theorem pow_int (k : Nat) : ((2 ^ k : Nat) : Int) = (2 : Int) ^ k := by simp
/-- so many ones at the right -/
def maskN (k : Int) : Nat := 2 ^ (min k.toNat 64) - 1
/-! a number by its bits -/
def ofBits (f : Nat → Bool) : Nat → Nat
 | 0 => 0
 | m + 1 => ofBits f m + (if f m then 2 ^ m else 0)
theorem high_bit (x i : Nat) (h : x < 18446744073709551616) (hi : 64 ≤ i) : x.testBit i = false :=
 Nat.testBit_lt_two_pow (Nat.lt_of_lt_of_le h (by have : (2 : Nat) ^ 64 ≤ 2 ^ i := Nat.pow_le_pow_right (by decide) hi; simpa using this))

/-! fields -/
def getN (x : Nat) (a : Int) (k : Int) : Nat := if 0 ≤ a ∧ a < 64 then (x >>> a.toNat) &&& maskN k else 0
def get (x a k : Int) : Int := (getN x.toNat a k : Nat)
def putN (x : Nat) (a k : Int) (n : Nat) : Nat :=
 if 0 ≤ a ∧ a < 64 then ofBits (fun i => if a.toNat ≤ i ∧ i < a.toNat + k.toNat then n.testBit (i - a.toNat) else x.testBit i) 64 else x
def put (x a k n : Int) : Int := (putN x.toNat a k n.toNat : Nat)
/-! the reference's functions: plain -/
def bit (x i : Int) : Bool := x.toNat.testBit i.toNat
theorem bit_code (X j : Nat) : (((X / 2 ^ j : Nat) : Int) % 2 == 1) = X.testBit j := by
 rw [Nat.testBit_eq_decide_div_mod_eq, Bool.eq_iff_iff]
 simp only [beq_iff_eq, decide_eq_true_eq]
 omega
def hf (X j : Nat) : Int := ((X / 2 ^ j : Nat) : Int)
theorem hf_nonneg (X j : Nat) : 0 ≤ hf X j := Int.natCast_nonneg _
theorem hf_le (X j : Nat) (h : X ≤ 18446744073709551615) : hf X j ≤ 18446744073709551615 := by
 have : X / 2 ^ j ≤ X := Nat.div_le_self _ _
 unfold hf; omega
theorem hf_zero (X : Nat) : hf X 0 = X := by simp [hf]
theorem hf_bit (X : Nat) (i : Int) (j : Nat) (h : i.toNat = j) : (hf X j % 2 == 1) = bit X i := by
 unfold hf bit; rw [h]; simpa using bit_code X j
theorem hf_succ (X j : Nat) : hf X j / 2 = hf X (j + 1) := by
 unfold hf; rw [Nat.pow_succ, ← Nat.div_div_eq_div_mul]; omega
end Go.Proofs.Ytlakbclnilakbaa.Bt
end

section
namespace Go.Proofs.Ytlakbclnilakbaa
open Go.RowKit
set_option maxHeartbeats 400000
theorem rBit_any (x i : Int) (w : World) (x1 : 0 ≤ x) (x2 : x ≤ 18446744073709551615) (h2 : i ≤ 9223372036854775807) :
  Calls Try.prog 70 #[.int .u64 x, .int .i64 i] w fun e w' => e = .returned (.bool (Bt.bit x i)) ∧ w = w' := by
 obtain ⟨X, rfl⟩ := Int.eq_ofNat_of_zero_le x1
 go_enter Try.func70, Try.ntmps70
 go_wp2_with fail
 go_loop [0, 5] (fun x t => ∃ j : Nat, j ≤ i.toNat ∧ t = .int .i64 j ∧ x = .int .u64 (Bt.hf X j)) (fun _ t => i.toNat - (intOf t).toNat)
 case atStart => exact ⟨0, by omega, rfl, by rw [Bt.hf_zero]⟩
 case round =>
  obtain ⟨j, hj, rfl, rfl⟩ := hrel
  have p1 := Bt.hf_nonneg X j
  have p2 := Bt.hf_le X j (by omega)
  by_cases hlt : (j : Int) < i
  ·go_wp2
   go_round
   case rel => exact ⟨j + 1, by omega, by go_num, by rw [Bt.hf_succ]⟩
   case measure => simp [intOf]; omega
  ·go_wp2
   go_ret
   exact ⟨ret_bool (Bt.hf_bit X i j (by omega)), rfl⟩
end Go.Proofs.Ytlakbclnilakbaa
end

section
namespace Go.Proofs.Ytlakbclnilakbaa
open Go.RowKit
set_option maxHeartbeats 400000
end Go.Proofs.Ytlakbclnilakbaa
end

section
namespace Go.Proofs.Ytlakbclnilakbaa.Bt
open Go

/-! ## ones -/
def pop (x : Nat) : Nat → Nat
 | 0 => 0
 | m + 1 => x % 2 + pop (x / 2) m
def count (x : Int) : Int := (pop x.toNat 64 : Nat)
theorem f1 : ∀ b < 2, ∀ l < 128, (128 * b + l) &&& 85 = l &&& 85 := by decide +kernel
theorem f2 : ∀ b < 4, ∀ l < 64, (64 * b + l) &&& 51 = l &&& 51 := by decide +kernel
theorem f3 : ∀ b < 5, ∀ l < 73, (16 * b + l) &&& 15 = l &&& 15 := by decide +kernel
end Go.Proofs.Ytlakbclnilakbaa.Bt
end

section
namespace Go.Proofs.Ytlakbclnilakbaa.Bt
open Go Go.RowKit
end Go.Proofs.Ytlakbclnilakbaa.Bt
end

section
namespace Go.Proofs.Ytlakbclnilakbaa.Bt
open Go Go.RowKit
/-! ## the greatest one -/
def hb (x : Nat) : Nat := if x = 0 then 0 else Nat.log2 x + 1
def highest (x : Int) : Int := (hb x.toNat : Int) - 1
theorem hb_spec (x : Nat) : x < 2 ^ hb x ∧ (0 < hb x → 2 ^ (hb x - 1) ≤ x) := by
 unfold hb
 split
 ·subst_vars; simp
 ·rename_i h
  exact ⟨Nat.lt_log2_self, fun _ => by simpa using Nat.log2_self_le h⟩
theorem hb_unique (x k : Nat) (h1 : x < 2 ^ k) (h2 : 0 < k → 2 ^ (k - 1) ≤ x) : hb x = k := by
 obtain ⟨s1, s2⟩ := hb_spec x
 rcases Nat.lt_trichotomy (hb x) k with h | h | h
 ·have a := h2 (by omega)
  have b : (2 : Nat) ^ hb x ≤ 2 ^ (k - 1) := Nat.pow_le_pow_right (by decide) (by omega)
  omega
 ·exact h
 ·have a := s2 (by omega)
  have b : (2 : Nat) ^ k ≤ 2 ^ (hb x - 1) := Nat.pow_le_pow_right (by decide) (by omega)
  omega
theorem hb_shift (x s : Nat) (h : x / 2 ^ s ≠ 0) : hb x = hb (x / 2 ^ s) + s := by
 obtain ⟨s1, s2⟩ := hb_spec (x / 2 ^ s)
 have hp := Nat.two_pow_pos s
 have hpos : 0 < hb (x / 2 ^ s) := by
  rcases Nat.eq_zero_or_pos (hb (x / 2 ^ s)) with h0 | h0
  ·rw [h0, Nat.pow_zero] at s1; exact absurd (Nat.lt_one_iff.1 s1) h
  ·exact h0
 have a := s2 hpos
 apply hb_unique
 ·rw [Nat.pow_add]
  exact (Nat.div_lt_iff_lt_mul hp).1 s1
 ·intro _
  rw [show hb (x / 2 ^ s) + s - 1 = (hb (x / 2 ^ s) - 1) + s from by omega, Nat.pow_add]
  exact (Nat.le_div_iff_mul_le hp).1 a
theorem hb_le (x m : Nat) (h : x < 2 ^ m) : hb x ≤ m := by
 rcases Nat.lt_or_ge m (hb x) with h2 | h2
 ·have a := (hb_spec x).2 (by omega)
  have b : (2 : Nat) ^ m ≤ 2 ^ (hb x - 1) := Nat.pow_le_pow_right (by decide) (by omega)
  omega
 ·exact h2
theorem hb_small (x : Nat) (h : x < 2) : hb x = x := by
 rcases x with _ | _ | x
 ·rfl
 ·decide
 ·omega
theorem hb_bit (x i : Nat) (h : x.testBit i = true) (h2 : ∀ j, i < j → x.testBit j = false) : hb x = i + 1 := by
 apply hb_unique
 ·exact Nat.lt_pow_two_of_testBit x (fun j hj => h2 j (by omega))
 ·intro _; simpa using Nat.ge_two_pow_of_testBit h
theorem highest_bd (x : Int) (h2 : x ≤ 18446744073709551615) : -1 ≤ highest x ∧ highest x ≤ 63 := by
 have := hb_le x.toNat 64 (by simp; omega)
 unfold highest; omega
/-! ## turning -/
def rs (r : Nat) : Nat := r * 2 % 18446744073709551616 + r / 9223372036854775808
/-! ## pieces -/
def up (n size : Int) : Int := if n ≤ 0 ∨ size ≤ 0 then 0 else (n - 1) / size + 1
def noneAbove (x : Int) (j : Int) : Prop := ∀ i : Nat, j < i → x.toNat.testBit i = false
theorem noneAbove_start (x : Int) (h : x ≤ 18446744073709551615) : noneAbove x 63 := fun i hi => high_bit x.toNat i (by omega) (by omega)
theorem noneAbove_pred (x j : Int) (h0 : 0 ≤ j) (h : noneAbove x j) (hb : bit x j = false) : noneAbove x (j - 1) := fun i hi => by
 rcases Int.lt_or_le j i with h2 | h2
 ·exact h i h2
 ·obtain rfl : j = (i : Int) := by omega
  simpa [bit] using hb
theorem highest_at (x j : Int) (h0 : 0 ≤ j) (h : noneAbove x j) (hb2 : bit x j = true) : highest x = j := by
 unfold highest
 rw [hb_bit x.toNat j.toNat hb2 (fun i hi => h i (by omega))]
 omega
theorem highest_none (x j : Int) (hj : j ≤ -1) (h : noneAbove x j) : highest x = -1 := by
 have : x.toNat = 0 := by
  apply Nat.eq_of_testBit_eq
  intro i
  rw [Nat.zero_testBit]; exact h i (by omega)
 unfold highest; rw [this]; rfl
/-- where the code's search by halves stands: what is left, what was added, the next step -/
def HiAt (x y m s : Int) : Prop := 0 ≤ y ∧ m + hb y.toNat = highest x ∧ -1 ≤ m ∧ m ≤ 64 ∧
 ((s = 32 ∧ y < 18446744073709551616) ∨ (s = 16 ∧ y < 4294967296) ∨ (s = 8 ∧ y < 65536) ∨ (s = 4 ∧ y < 256) ∨ (s = 2 ∧ y < 16) ∨ (s = 1 ∧ y < 4) ∨ (s = 0 ∧ y < 2))
theorem HiAt_start (x : Int) (h1 : 0 ≤ x) (h2 : x ≤ 18446744073709551615) : HiAt x x (-1) 32 := ⟨h1, by unfold highest; omega, by omega, by omega, .inl ⟨rfl, by omega⟩⟩
theorem HiAt_cases {x y m s : Int} (h : HiAt x y m s) : s = 32 ∨ s = 16 ∨ s = 8 ∨ s = 4 ∨ s = 2 ∨ s = 1 ∨ s = 0 := by
 obtain ⟨_, _, _, _, h⟩ := h
 omega
theorem HiAt_bd {x y m s : Int} (h : HiAt x y m s) : 0 ≤ y ∧ y ≤ 18446744073709551615 ∧ -1 ≤ m ∧ m ≤ 64 := by
 obtain ⟨_, _, _, _, h⟩ := h
 omega
theorem HiAt_no {x y m s : Int} (h : HiAt x y m s) (D : Int) (t : Int) (hD : (s = 32 ∧ t = 16 ∧ D = 4294967296) ∨ (s = 16 ∧ t = 8 ∧ D = 65536) ∨ (s = 8 ∧ t = 4 ∧ D = 256) ∨ (s = 4 ∧ t = 2 ∧ D = 16) ∨ (s = 2 ∧ t = 1 ∧ D = 4) ∨ (s = 1 ∧ t = 0 ∧ D = 2))
  (hz : y / D = 0) : HiAt x y m t := by
 obtain ⟨h1, h2, h3, h4, h⟩ := h
 refine ⟨h1, h2, h3, h4, ?_⟩
 rcases hD with ⟨rfl, rfl, rfl⟩ | ⟨rfl, rfl, rfl⟩ | ⟨rfl, rfl, rfl⟩ | ⟨rfl, rfl, rfl⟩ | ⟨rfl, rfl, rfl⟩ | ⟨rfl, rfl, rfl⟩ <;> omega
theorem HiAt_yes {x y m s : Int} (hx : x ≤ 18446744073709551615) (h : HiAt x y m s) (D : Int) (t : Int) (hD : (s = 32 ∧ t = 16 ∧ D = 4294967296) ∨ (s = 16 ∧ t = 8 ∧ D = 65536) ∨ (s = 8 ∧ t = 4 ∧ D = 256) ∨ (s = 4 ∧ t = 2 ∧ D = 16) ∨ (s = 2 ∧ t = 1 ∧ D = 4) ∨ (s = 1 ∧ t = 0 ∧ D = 2))
  (hz : ¬ y / D = 0) : HiAt x (y / D) (m + s) t := by
 obtain ⟨h1, h2, h3, h4, h⟩ := h
 have key : ∀ k : Nat, (2 : Int) ^ k = D → s = k → m + s + hb (y / D).toNat = highest x := fun k hk hs => by
  obtain ⟨Y, rfl⟩ := Int.eq_ofNat_of_zero_le h1
  have e : ((Y : Int) / D) = ((Y / 2 ^ k : Nat) : Int) := by rw [← hk, ← pow_int]; exact (Int.natCast_ediv ..).symm
  rw [e] at hz ⊢
  have := hb_shift Y k (by omega)
  rw [Int.toNat_natCast] at h2 ⊢
  omega
 have hk : m + s + hb (y / D).toNat = highest x := by
  rcases hD with ⟨rfl, rfl, rfl⟩ | ⟨rfl, rfl, rfl⟩ | ⟨rfl, rfl, rfl⟩ | ⟨rfl, rfl, rfl⟩ | ⟨rfl, rfl, rfl⟩ | ⟨rfl, rfl, rfl⟩
  ·exact key 32 (by decide) rfl
  ·exact key 16 (by decide) rfl
  ·exact key 8 (by decide) rfl
  ·exact key 4 (by decide) rfl
  ·exact key 2 (by decide) rfl
  ·exact key 1 (by decide) rfl
 have hbd := highest_bd x hx
 refine ⟨?_, hk, ?_, ?_, ?_⟩ <;> rcases hD with ⟨rfl, rfl, rfl⟩ | ⟨rfl, rfl, rfl⟩ | ⟨rfl, rfl, rfl⟩ | ⟨rfl, rfl, rfl⟩ | ⟨rfl, rfl, rfl⟩ | ⟨rfl, rfl, rfl⟩ <;> omega
theorem HiAt_last {x y m : Int} (h : HiAt x y m 0) : y < 2 := by
 obtain ⟨h1, h2, h3, h4, h⟩ := h
 omega
theorem HiAt_end {x y m : Int} (h : HiAt x y m 0) : m + y = highest x := by
 obtain ⟨h1, h2, h3, h4, h⟩ := h
 rw [hb_small y.toNat (by omega)] at h2
 omega
end Go.Proofs.Ytlakbclnilakbaa.Bt
end

section
namespace Go.Proofs.Ytlakbclnilakbaa
open Go.RowKit
set_option maxHeartbeats 400000
theorem rHighest_any (x : Int) (w : World) (x1 : 0 ≤ x) (x2 : x ≤ 18446744073709551615) :
  Calls Try.prog 39 #[.int .u64 x] w fun e w' => e = .returned (.int .i64 (Bt.highest x)) ∧ w = w' := by
 go_enter Try.func39, Try.ntmps39
 go_wp2_with fail
 go_loop [3] (fun t => ∃ j : Int, -1 ≤ j ∧ j ≤ 63 ∧ t = .int .i64 j ∧ Bt.noneAbove x j) (fun t => (intOf t + 1).toNat)
 case atStart => exact ⟨63, by omega, by omega, rfl, Bt.noneAbove_start x x2⟩
 case round =>
  obtain ⟨j, hj, hj2, rfl, hn⟩ := hrel
  by_cases hlt : 0 ≤ j
  ·cases hbit : Bt.bit x j
   ·go_wp2_with (first | (go_at_call 70; refine (rBit_any _ _ _ (by omega) (by omega) (by omega)).mono ?_; rintro e w' ⟨rfl, rfl⟩))
    go_round
    case rel => exact ⟨j - 1, by omega, by omega, rfl, Bt.noneAbove_pred x j hlt hn hbit⟩
    case measure => simp [intOf]; omega
   ·go_wp2_with (first | (go_at_call 70; refine (rBit_any _ _ _ (by omega) (by omega) (by omega)).mono ?_; rintro e w' ⟨rfl, rfl⟩))
    go_ret
    exact ⟨ret_int (Bt.highest_at x j hlt hn hbit).symm, rfl⟩
  ·go_wp2_with fail
   go_ret
   exact ⟨ret_int (by rw [Bt.highest_none x j (by omega) hn]; omega), rfl⟩
theorem highest_any (x : Int) (w : World) (x1 : 0 ≤ x) (x2 : x ≤ 18446744073709551615) :
  Calls Try.prog 72 #[.int .u64 x] w fun e w' => e = .returned (.int .i64 (Bt.highest x)) ∧ w = w' := by
 have hbd := Bt.highest_bd x x2
 go_enter Try.func72, Try.ntmps72
 go_wp2_with fail
 go_loop [0, 3, 4] (fun x' n t => ∃ (y m s : Int), x' = .int .u64 y ∧ n = .int .i64 m ∧ t = .int .i64 s ∧ Bt.HiAt x y m s) (fun _ _ t => (intOf t).toNat)
 case atStart => exact ⟨x, -1, 32, rfl, rfl, rfl, Bt.HiAt_start x x1 x2⟩
 case round =>
  obtain ⟨y, m, s, rfl, rfl, rfl, hh⟩ := hrel
  have hs := Bt.HiAt_cases hh
  have hy := Bt.HiAt_bd hh
  rcases hs with rfl | rfl | rfl | rfl | rfl | rfl | rfl
  ·by_cases hz : y / 4294967296 = 0
   ·have hn := Bt.HiAt_no hh 4294967296 16 (by omega) hz
    clear hh
    have hz2 : (y / 4294967296 != 0) = false := by simpa using hz
    go_wp2
    go_round
    case rel => exact ⟨_, _, _, rfl, rfl, rfl, hn⟩
    case measure => simp [intOf]
   ·have hn := Bt.HiAt_yes x2 hh 4294967296 16 (by omega) hz
    clear hh
    have hz2 : (y / 4294967296 != 0) = true := by simpa using hz
    clear hz
    go_wp2
    go_round
    case rel => exact ⟨_, _, _, rfl, rfl, rfl, hn⟩
    case measure => simp [intOf]
  ·by_cases hz : y / 65536 = 0
   ·have hn := Bt.HiAt_no hh 65536 8 (by omega) hz
    clear hh
    have hz2 : (y / 65536 != 0) = false := by simpa using hz
    go_wp2
    go_round
    case rel => exact ⟨_, _, _, rfl, rfl, rfl, hn⟩
    case measure => simp [intOf]
   ·have hn := Bt.HiAt_yes x2 hh 65536 8 (by omega) hz
    clear hh
    have hz2 : (y / 65536 != 0) = true := by simpa using hz
    clear hz
    go_wp2
    go_round
    case rel => exact ⟨_, _, _, rfl, rfl, rfl, hn⟩
    case measure => simp [intOf]
  ·by_cases hz : y / 256 = 0
   ·have hn := Bt.HiAt_no hh 256 4 (by omega) hz
    clear hh
    have hz2 : (y / 256 != 0) = false := by simpa using hz
    go_wp2
    go_round
    case rel => exact ⟨_, _, _, rfl, rfl, rfl, hn⟩
    case measure => simp [intOf]
   ·have hn := Bt.HiAt_yes x2 hh 256 4 (by omega) hz
    clear hh
    have hz2 : (y / 256 != 0) = true := by simpa using hz
    clear hz
    go_wp2
    go_round
    case rel => exact ⟨_, _, _, rfl, rfl, rfl, hn⟩
    case measure => simp [intOf]
  ·by_cases hz : y / 16 = 0
   ·have hn := Bt.HiAt_no hh 16 2 (by omega) hz
    clear hh
    have hz2 : (y / 16 != 0) = false := by simpa using hz
    go_wp2
    go_round
    case rel => exact ⟨_, _, _, rfl, rfl, rfl, hn⟩
    case measure => simp [intOf]
   ·have hn := Bt.HiAt_yes x2 hh 16 2 (by omega) hz
    clear hh
    have hz2 : (y / 16 != 0) = true := by simpa using hz
    clear hz
    go_wp2
    go_round
    case rel => exact ⟨_, _, _, rfl, rfl, rfl, hn⟩
    case measure => simp [intOf]
  ·by_cases hz : y / 4 = 0
   ·have hn := Bt.HiAt_no hh 4 1 (by omega) hz
    clear hh
    have hz2 : (y / 4 != 0) = false := by simpa using hz
    go_wp2
    go_round
    case rel => exact ⟨_, _, _, rfl, rfl, rfl, hn⟩
    case measure => simp [intOf]
   ·have hn := Bt.HiAt_yes x2 hh 4 1 (by omega) hz
    clear hh
    have hz2 : (y / 4 != 0) = true := by simpa using hz
    clear hz
    go_wp2
    go_round
    case rel => exact ⟨_, _, _, rfl, rfl, rfl, hn⟩
    case measure => simp [intOf]
  ·by_cases hz : y / 2 = 0
   ·have hn := Bt.HiAt_no hh 2 0 (by omega) hz
    clear hh
    have hz2 : (y / 2 != 0) = false := by simpa using hz
    go_wp2
    go_round
    case rel => exact ⟨_, _, _, rfl, rfl, rfl, hn⟩
    case measure => simp [intOf]
   ·have hn := Bt.HiAt_yes x2 hh 2 0 (by omega) hz
    clear hh
    have hz2 : (y / 2 != 0) = true := by simpa using hz
    clear hz
    go_wp2
    go_round
    case rel => exact ⟨_, _, _, rfl, rfl, rfl, hn⟩
    case measure => simp [intOf]
  ·have hn := Lib.hid (Bt.HiAt_end hh)
   have hy2 := Bt.HiAt_last hh
   clear hh
   go_wp2
   go_ret
   exact ⟨ret_int hn.out, rfl⟩
end Go.Proofs.Ytlakbclnilakbaa
end

section
namespace Go.Proofs.Ytlakbclnilakbaa
open Go.RowKit
set_option maxRecDepth 100000
set_option maxHeartbeats 4000000
theorem cIter_start {α β : Type} (l : List (α × β)) : (l.map fun p => (p, true)).map (fun x : (α × β) × Bool => x.1) = l := by rw [List.map_map]; exact List.map_id' l
theorem cLeft_len {α β : Type} {lb : List ((α × β) × Bool)} {j : Nat} {p : α × β} (h : lb[j]? = some (p, true)) : (mleft lb).length = (mleft (lb.set j (p, false))).length + 1 := by
 have := (mleft_set lb j p h).length_eq
 simpa using this
section
variable {p b c : Nat} {A : Option Addr} {nc nb nd : Int} {dead : List Int} {ages : List (Int × Int)} {w : World}
theorem cAges (hE : Ents (cnE p b A c nc nb nd ages dead) w) (hn : ages.length ≤ 100000) (hb : ∀ x ∈ ages, 0 ≤ x.2 ∧ x.2 ≤ 1000) :
  Calls Try.prog 41 [ptrC p].toArray w fun e w' => ∃ A' c', e = .returned (.slice A' (Cn.tbl (ages.map Prod.snd)).length c') ∧ Heap w [] [ownN 1 (.slice A' (Cn.tbl (ages.map Prod.snd)).length c') (Cn.tbl (ages.map Prod.snd)).length ((Cn.tbl (ages.map Prod.snd)).map (Value.int .i64)) 3] w' := by
 obtain ⟨es, clock, M⟩ := hE.map_at 1 rfl
 have HR := Heap.ungrp (Heap.start hE)
 have H := Heap.nil w
 unfold lvE at HR
 generalize ids _ = I at *
 refine k_in (N := 29) Try.func41 rfl rfl rfl ?_
 refine k_sg ?_
 refine s_run rfl rfl (ras rfl) ?_
 refine k_nc ?_
 refine k_sg ?_
 refine s_run rfl rfl (ras rfl) ?_
 refine k_nc ?_
 refine k_seq ?_
 refine k_sg ?_
 refine s_run rfl rfl (rmp rfl) ?_
 refine s_run rfl rfl (r_nc rfl) ?_
 refine s_run rfl rfl (r_fa0 rfl fo125_0) ?_
 refine s_run rfl rfl (r_lo (HR.same H.only) 0 rfl rfl rfl ag123) ?_
 refine s_rmR M H rfl rfl Try.underlying123 ?_
 intro r _ H'; clear H; have H := H'; clear H'
 refine k_nc ?_
 refine k_b ?_
 replace H := H.own_nil 1 3
 refine k_loop (fun z f W => ∃ (lb : List ((Int × Int) × Bool)) (cur : Option (Int × Int)) (OA : Option Addr) (co : Nat) (out : List Int), z = (mleft lb).length ∧ lb.map (·.1) = ages ∧ (out ++ (mleft lb).map Prod.snd).Perm (ages.map Prod.snd) ∧ f 3 = .slice OA (Cn.tbl out).length co ∧ f 10 = ptrC r ∧ Heap w [] [ownN 1 (.slice OA (Cn.tbl out).length co) (Cn.tbl out).length ((Cn.tbl out).map (Value.int .i64)) 3, mri kC (Value.int .i64) es clock b r lb cur] W) _ ⟨ages.map fun p => (p, true), none, none, 0, [], rfl, cIter_start _, by rw [mleft_all]; exact List.Perm.refl _, rfl, rfl, H⟩ ?_
 clear H
 rintro z f W ⟨lb, cur, OA, co, out, rfl, hlb, hpm, f3, f10, H⟩
 obtain ⟨f, rfl⟩ := live2 f3 f10
 clear f3 f10
 have hmem : ∀ x ∈ out, 0 ≤ x ∧ x ≤ 1000 := fun x hx => by
  have h1 : x ∈ ages.map Prod.snd := hpm.subset (List.mem_append_left _ hx)
  obtain ⟨q, hq, rfl⟩ := List.mem_map.1 h1
  exact hb q hq
 have hol : out.length ≤ 100000 := by have := hpm.length_eq; simp at this; omega
 have htl := Cn.tbl_len 1000 out fun x hx => (hmem x hx).2
 by_cases hl : mleft lb = []
 ·refine k_sg ?_
  refine s_nx0R M H 1 (hl) rfl rfl rfl ?_
  refine s_run rfl rfl (r_ext (v := .bool _) rfl rfl) ?_
  refine k_nc ?_
  refine k_seq ?_
  refine k_f rfl ?_
  refine k_exit ?_
  refine c_exit ?_
  refine c_exit ?_
  refine b_hit ?_
  refine c_norm ?_
  refine k_sg ?_
  refine s_run rfl rfl (rms rfl) ?_
  refine s_run rfl rfl (ras rfl) ?_
  refine k_nc ?_
  refine k_ret ?_
  refine fin1r (v := .slice _ _ _) rfl rfl ?_
  rw [hl, List.map_nil, List.append_nil] at hpm
  have e := Cn.tbl_perm hpm
  rw [e] at H
  rw [e]
  exact ⟨OA, co, rfl, (H : Heap w [] ([_] ++ [_]) _).drops⟩
 ·refine k_sg ?_
  refine s_nx1R M H 1 (hl) rfl rfl rfl ?_
  intro j q _ hq gq H'; simp only [List.set_cons_zero, List.set_cons_succ, List.take_succ_cons, List.take_zero, List.drop_succ_cons, List.drop_zero, List.cons_append, List.nil_append, List.append_nil, List.length_cons, List.length_nil, Nat.reduceAdd] at H'; clear H; have H := H'; clear H'
  refine s_run rfl rfl (r_ext (v := .bool _) rfl rfl) ?_
  refine k_nc ?_
  refine k_seq ?_
  refine k_t rfl ?_
  refine k_skip ?_
  refine c_norm ?_
  refine k_b ?_
  refine k_sg ?_
  refine s_run rfl rfl (r_enR M H 1 rfl rfl) ?_
  refine s_run rfl rfl (r_ext (v := .int _ _) rfl rfl) ?_
  refine s_run rfl rfl (rai rfl) ?_
  refine k_nc ?_
  refine k_seq ?_
  refine k_b ?_
  have hfs := mset_fstG hq
  have hml := cLeft_len hq
  have hqa : q ∈ ages := by rw [← hlb]; exact List.mem_map_of_mem (f := fun x : (Int × Int) × Bool => x.1) (List.mem_of_getElem? hq)
  obtain ⟨hx0, hx1⟩ := hb q hqa
  have hp := (mleft_set lb j q hq).map Prod.snd
  have hpm2 : ((out ++ [q.2]) ++ (mleft (lb.set j (q, false))).map Prod.snd).Perm (ages.map Prod.snd) := by
   rw [List.append_assoc]
   exact (List.Perm.append_left out hp.symm).trans hpm
  have hsn := Cn.tbl_snoc out q.2
  have hbd := Cn.tbl_get_bd out q.2.toNat
  obtain ⟨a, ha⟩ := Int.eq_ofNat_of_zero_le hx0
  rw [ha] at hx1 hsn hbd hpm2 ⊢
  rw [Int.toNat_natCast] at hsn hbd
  generalize hlb2 : lb.set j (q, false) = lb2 at *
  generalize hot : out ++ [(a : Int)] = out2 at *
  generalize Cn.tbl out = t at *
  refine k_loop (fun z f W => ∃ (k : Nat) (OA : Option Addr) (co : Nat), t.length ≤ k ∧ k ≤ max t.length (a + 1) ∧ z = a + 1 - k ∧ f 3 = .slice OA k co ∧ f 5 = .int .i64 a ∧ f 10 = ptrC r ∧ Heap w [] [ownN 1 (.slice OA k co) k ((Cn.pad t k).map (Value.int .i64)) 3, mri kC (Value.int .i64) es clock b r lb2 (some q)] W) _ ⟨t.length, OA, co, by omega, by omega, rfl, rfl, rfl, rfl, by rw [Cn.pad_self (Nat.le_refl _)]; exact H⟩ ?_
  clear H
  rintro z f W ⟨k, OA, co, hk1, hk2, rfl, f3, f5, f10, H⟩
  obtain ⟨f, rfl⟩ := live3 f3 f5 f10
  clear f3 f5 f10
  have hpl := Cn.pad_len t k
  by_cases hk : k ≤ a
  ·refine k_seq ?_
   refine k_sg ?_
   refine s_run rfl rfl (rms rfl) ?_
   refine s_run rfl rfl (r_len rfl Try.underlying25) ?_
   refine s_run rfl rfl (rmi rfl) ?_
   refine s_run rfl rfl (r_leqT rfl rfl (by omega)) ?_
   refine k_nc ?_
   refine k_t rfl ?_
   refine k_skip ?_
   refine c_norm ?_
   refine k_b ?_
   refine k_rg ?_
   refine s_run rfl rfl (rms rfl) ?_
   refine s_app1 (enc := (Value.int .i64)) H 0 rfl rfl rfl rfl rfl rfl rfl (by omega) Try.underlying25 inf3 rfl ?_
   intro _ An cn _ H'; simp only [List.set_cons_zero, List.set_cons_succ, List.take_succ_cons, List.take_zero, List.drop_succ_cons, List.drop_zero, List.cons_append, List.nil_append, List.append_nil, List.length_cons, List.length_nil, Nat.reduceAdd] at H'; clear H; have H := H'; clear H'
   refine s_run rfl rfl (ras rfl) ?_
   refine k_nil ?_
   refine b_norm ?_
   refine c_round ?_
   rw [Cn.pad_next hk1] at H
   refine ⟨_, _, ?_, rfl, k + 1, An, cn, by omega, by omega, rfl, rfl, rfl, rfl, H⟩
   omega
  ·have hkm : k = max t.length (a + 1) := by omega
   have hag : a < k := by omega
   obtain ⟨u, rfl⟩ := H.own_some 0 rfl (by omega)
   have hge := Cn.pad_at hag hk1
   obtain ⟨e1, e2⟩ := Cn.pad_end hkm
   generalize hvv : t.getD a 0 = v at *
   refine k_seq ?_
   refine k_sg ?_
   refine s_run rfl rfl (rms rfl) ?_
   refine s_run rfl rfl (r_len rfl Try.underlying25) ?_
   refine s_run rfl rfl (rmi rfl) ?_
   refine s_run rfl rfl (r_leqF rfl rfl (by omega)) ?_
   refine k_nc ?_
   refine k_f rfl ?_
   refine k_exit ?_
   refine c_exit ?_
   refine c_exit ?_
   refine b_hit ?_
   refine c_norm ?_
   refine k_rg ?_
   refine s_run rfl rfl (rms rfl) ?_
   refine s_run rfl rfl (rmi rfl) ?_
   refine s_run rfl rfl (r_ix1 (i := a) rfl rfl (by omega) (by omega) Try.underlying25 sz3) ?_
   refine s_run rfl rfl (r_ow H 0 rfl rfl hge ag3) ?_
   refine s_run rfl rfl (r_add rfl rfl (wI (by omega))) ?_
   refine s_run rfl rfl (r_ix1 (i := a) rfl rfl (by omega) (by omega) Try.underlying25 sz3) ?_
   refine s_so (enc := Value.int .i64) H 0 rfl rfl rfl rfl rfl (by omega) rfl sz3 ?_
   clear H; intro _ H; simp only [jA, jB, jC, jD, jE, jF, jG, jH, jI, jJ, jK, Nat.reduceAdd] at H
   refine k_nil ?_
   refine b_norm ?_
   refine c_round ?_
   rw [← e1] at H
   rw [← e2] at H ⊢
   rw [← hsn] at H ⊢
   refine ⟨_, _, ?_, rfl, lb2, some q, some ⟨u, 0, none⟩, co, out2, rfl, by rw [hfs]; exact hlb, hpm2, rfl, rfl, H⟩
   omega
theorem cClasses (hE : Ents (cnE p b A c nc nb nd ages dead) w) (hn : ages.length ≤ 100000) (hb : ∀ x ∈ ages, 1 ≤ x.2 ∧ x.2 ≤ 1000) :
  Calls Try.prog 43 [ptrC p].toArray w fun e w' => ∃ A' c', e = .returned (.slice A' (Cn.tbl (ages.map fun x => Bt.highest x.2)).length c') ∧ Heap w [] [ownN 1 (.slice A' (Cn.tbl (ages.map fun x => Bt.highest x.2)).length c') (Cn.tbl (ages.map fun x => Bt.highest x.2)).length ((Cn.tbl (ages.map fun x => Bt.highest x.2)).map (Value.int .i64)) 3] w' := by
 obtain ⟨es, clock, M⟩ := hE.map_at 1 rfl
 have HR := Heap.ungrp (Heap.start hE)
 have H := Heap.nil w
 unfold lvE at HR
 generalize ids _ = I at *
 refine k_in (N := 33) Try.func43 rfl rfl rfl ?_
 refine k_sg ?_
 refine s_run rfl rfl (ras rfl) ?_
 refine k_nc ?_
 refine k_sg ?_
 refine s_run rfl rfl (ras rfl) ?_
 refine k_nc ?_
 refine k_seq ?_
 refine k_sg ?_
 refine s_run rfl rfl (rmp rfl) ?_
 refine s_run rfl rfl (r_nc rfl) ?_
 refine s_run rfl rfl (r_fa0 rfl fo125_0) ?_
 refine s_run rfl rfl (r_lo (HR.same H.only) 0 rfl rfl rfl ag123) ?_
 refine s_rmR M H rfl rfl Try.underlying123 ?_
 intro r _ H'; clear H; have H := H'; clear H'
 refine k_nc ?_
 refine k_b ?_
 replace H := H.own_nil 1 3
 refine k_loop (fun z f W => ∃ (lb : List ((Int × Int) × Bool)) (cur : Option (Int × Int)) (OA : Option Addr) (co : Nat) (out : List Int), z = (mleft lb).length ∧ lb.map (·.1) = ages ∧ (out ++ (mleft lb).map fun x => Bt.highest x.2).Perm (ages.map fun x => Bt.highest x.2) ∧ f 3 = .slice OA (Cn.tbl out).length co ∧ f 11 = ptrC r ∧ Heap w [] [ownN 1 (.slice OA (Cn.tbl out).length co) (Cn.tbl out).length ((Cn.tbl out).map (Value.int .i64)) 3, mri kC (Value.int .i64) es clock b r lb cur] W) _ ⟨ages.map fun p => (p, true), none, none, 0, [], rfl, cIter_start _, by rw [mleft_all]; exact List.Perm.refl _, rfl, rfl, H⟩ ?_
 clear H
 rintro z f W ⟨lb, cur, OA, co, out, rfl, hlb, hpm, f3, f10, H⟩
 obtain ⟨f, rfl⟩ := live2 f3 f10
 clear f3 f10
 have hhb : ∀ x ∈ ages, 0 ≤ Bt.highest x.2 ∧ Bt.highest x.2 ≤ 63 := fun x hx => by
  have h1 := hb x hx
  have h2 := Bt.highest_bd x.2 (by omega)
  refine ⟨?_, h2.2⟩
  unfold Bt.highest Bt.hb
  rw [if_neg (by omega)]
  omega
 have hmem : ∀ x ∈ out, 0 ≤ x ∧ x ≤ 63 := fun x hx => by
  have h1 : x ∈ ages.map fun x => Bt.highest x.2 := hpm.subset (List.mem_append_left _ hx)
  obtain ⟨q, hq, rfl⟩ := List.mem_map.1 h1
  exact hhb q hq
 have hol : out.length ≤ 100000 := by have := hpm.length_eq; simp at this; omega
 have htl := Cn.tbl_len 63 out fun x hx => (hmem x hx).2
 by_cases hl : mleft lb = []
 ·refine k_sg ?_
  refine s_nx0R M H 1 (hl) rfl rfl rfl ?_
  refine s_run rfl rfl (r_ext (v := .bool _) rfl rfl) ?_
  refine k_nc ?_
  refine k_seq ?_
  refine k_f rfl ?_
  refine k_exit ?_
  refine c_exit ?_
  refine c_exit ?_
  refine b_hit ?_
  refine c_norm ?_
  refine k_sg ?_
  refine s_run rfl rfl (rms rfl) ?_
  refine s_run rfl rfl (ras rfl) ?_
  refine k_nc ?_
  refine k_ret ?_
  refine fin1r (v := .slice _ _ _) rfl rfl ?_
  rw [hl, List.map_nil, List.append_nil] at hpm
  have e := Cn.tbl_perm hpm
  rw [e] at H
  rw [e]
  exact ⟨OA, co, rfl, (H : Heap w [] ([_] ++ [_]) _).drops⟩
 ·refine k_sg ?_
  refine s_nx1R M H 1 (hl) rfl rfl rfl ?_
  intro j q _ hq gq H'; simp only [List.set_cons_zero, List.set_cons_succ, List.take_succ_cons, List.take_zero, List.drop_succ_cons, List.drop_zero, List.cons_append, List.nil_append, List.append_nil, List.length_cons, List.length_nil, Nat.reduceAdd] at H'; clear H; have H := H'; clear H'
  refine s_run rfl rfl (r_ext (v := .bool _) rfl rfl) ?_
  refine k_nc ?_
  refine k_seq ?_
  refine k_t rfl ?_
  refine k_skip ?_
  refine c_norm ?_
  refine k_b ?_
  refine k_sg ?_
  refine s_run rfl rfl (r_enR M H 1 rfl rfl) ?_
  refine s_run rfl rfl (r_ext (v := .int _ _) rfl rfl) ?_
  refine s_run rfl rfl (rai rfl) ?_
  refine k_nc ?_
  refine k_seq ?_
  have hfs := mset_fstG hq
  have hml := cLeft_len hq
  have hqa : q ∈ ages := by rw [← hlb]; exact List.mem_map_of_mem (f := fun x : (Int × Int) × Bool => x.1) (List.mem_of_getElem? hq)
  obtain ⟨hx0, hx1⟩ := hhb q hqa
  have hq2 := hb q hqa
  have hp := (mleft_set lb j q hq).map fun x => Bt.highest x.2
  have hpm2 : ((out ++ [Bt.highest q.2]) ++ (mleft (lb.set j (q, false))).map fun x => Bt.highest x.2).Perm (ages.map fun x => Bt.highest x.2) := by
   rw [List.append_assoc]
   exact (List.Perm.append_left out hp.symm).trans hpm
  have hsn := Cn.tbl_snoc out (Bt.highest q.2)
  have hbd := Cn.tbl_get_bd out (Bt.highest q.2).toNat
  have hC := fun W => highest_any q.2 W (by omega) (by omega)
  obtain ⟨a, ha⟩ := Int.eq_ofNat_of_zero_le hx0
  rw [ha] at hx1 hsn hbd hpm2 hC
  rw [Int.toNat_natCast] at hsn hbd
  generalize hlb2 : lb.set j (q, false) = lb2 at *
  generalize hot : out ++ [(a : Int)] = out2 at *
  generalize Cn.tbl out = t at *
  generalize hqq : q.2 = q2 at *
  have hwr : IntKind.u64.wrap q2 = q2 := IntWalk.u64_in _ (by omega)
  refine k_rg ?_
  refine s_run rfl rfl (rmi rfl) ?_
  refine s_run rfl rfl (r_cv rfl (by kernel_rfl) Try.underlying78 (wU (by omega))) ?_
  refine s_call rfl (hC _) (ca72 rfl) ?_
  rintro e W1 ⟨rfl, rfl⟩
  refine ⟨_, rfl, ?_⟩
  skip
  refine s_run rfl rfl (rai rfl) ?_
  refine k_nc ?_
  refine k_seq ?_
  refine k_b ?_
  refine k_loop (fun z f W => ∃ (k : Nat) (OA : Option Addr) (co : Nat), t.length ≤ k ∧ k ≤ max t.length (a + 1) ∧ z = a + 1 - k ∧ f 3 = .slice OA k co ∧ f 6 = .int .i64 a ∧ f 11 = ptrC r ∧ Heap w [] [ownN 1 (.slice OA k co) k ((Cn.pad t k).map (Value.int .i64)) 3, mri kC (Value.int .i64) es clock b r lb2 (some q)] W) _ ⟨t.length, OA, co, by omega, by omega, rfl, rfl, rfl, rfl, by rw [Cn.pad_self (Nat.le_refl _)]; exact H⟩ ?_
  clear H
  rintro z f W ⟨k, OA, co, hk1, hk2, rfl, f3, f5, f10, H⟩
  obtain ⟨f, rfl⟩ := live3 f3 f5 f10
  clear f3 f5 f10
  have hpl := Cn.pad_len t k
  by_cases hk : k ≤ a
  ·refine k_seq ?_
   refine k_sg ?_
   refine s_run rfl rfl (rms rfl) ?_
   refine s_run rfl rfl (r_len rfl Try.underlying25) ?_
   refine s_run rfl rfl (rmi rfl) ?_
   refine s_run rfl rfl (r_leqT rfl rfl (by omega)) ?_
   refine k_nc ?_
   refine k_t rfl ?_
   refine k_skip ?_
   refine c_norm ?_
   refine k_b ?_
   refine k_rg ?_
   refine s_run rfl rfl (rms rfl) ?_
   refine s_app1 (enc := (Value.int .i64)) H 0 rfl rfl rfl rfl rfl rfl rfl (by omega) Try.underlying25 inf3 rfl ?_
   intro _ An cn _ H'; simp only [List.set_cons_zero, List.set_cons_succ, List.take_succ_cons, List.take_zero, List.drop_succ_cons, List.drop_zero, List.cons_append, List.nil_append, List.append_nil, List.length_cons, List.length_nil, Nat.reduceAdd] at H'; clear H; have H := H'; clear H'
   refine s_run rfl rfl (ras rfl) ?_
   refine k_nil ?_
   refine b_norm ?_
   refine c_round ?_
   rw [Cn.pad_next hk1] at H
   refine ⟨_, _, ?_, rfl, k + 1, An, cn, by omega, by omega, rfl, rfl, rfl, rfl, H⟩
   omega
  ·have hkm : k = max t.length (a + 1) := by omega
   have hag : a < k := by omega
   obtain ⟨u, rfl⟩ := H.own_some 0 rfl (by omega)
   have hge := Cn.pad_at hag hk1
   obtain ⟨e1, e2⟩ := Cn.pad_end hkm
   generalize hvv : t.getD a 0 = v at *
   refine k_seq ?_
   refine k_sg ?_
   refine s_run rfl rfl (rms rfl) ?_
   refine s_run rfl rfl (r_len rfl Try.underlying25) ?_
   refine s_run rfl rfl (rmi rfl) ?_
   refine s_run rfl rfl (r_leqF rfl rfl (by omega)) ?_
   refine k_nc ?_
   refine k_f rfl ?_
   refine k_exit ?_
   refine c_exit ?_
   refine c_exit ?_
   refine b_hit ?_
   refine c_norm ?_
   refine k_rg ?_
   refine s_run rfl rfl (rms rfl) ?_
   refine s_run rfl rfl (rmi rfl) ?_
   refine s_run rfl rfl (r_ix1 (i := a) rfl rfl (by omega) (by omega) Try.underlying25 sz3) ?_
   refine s_run rfl rfl (r_ow H 0 rfl rfl hge ag3) ?_
   refine s_run rfl rfl (r_add rfl rfl (wI (by omega))) ?_
   refine s_run rfl rfl (r_ix1 (i := a) rfl rfl (by omega) (by omega) Try.underlying25 sz3) ?_
   refine s_so (enc := Value.int .i64) H 0 rfl rfl rfl rfl rfl (by omega) rfl sz3 ?_
   clear H; intro _ H; simp only [jA, jB, jC, jD, jE, jF, jG, jH, jI, jJ, jK, Nat.reduceAdd] at H
   refine k_nil ?_
   refine b_norm ?_
   refine c_round ?_
   rw [← e1] at H
   rw [← e2] at H ⊢
   rw [← hsn] at H ⊢
   refine ⟨_, _, ?_, rfl, lb2, some q, some ⟨u, 0, none⟩, co, out2, rfl, by rw [hfs]; exact hlb, hpm2, rfl, rfl, H⟩
   omega
end
end Go.Proofs.Ytlakbclnilakbaa
end

section
namespace Go.Proofs.Ytlakbclnilakbaa.St
abbrev Q := Int × Int
def le (x y : Q) : Prop := x.2 > y.2 ∨ (x.2 = y.2 ∧ x.1 ≤ y.1)
instance (x y : Q) : Decidable (le x y) := by unfold le; infer_instance
theorem le_trans {x y z : Q} (h1 : le x y) (h2 : le y z) : le x z := by unfold le at *; omega
theorem le_total (x y : Q) : le x y ∨ le y x := by unfold le; omega
theorem le_anti {x y : Q} (h1 : le x y) (h2 : le y x) : x = y := by
 obtain ⟨a, b⟩ := x; obtain ⟨c, d⟩ := y
 unfold le at *
 simp only at h1 h2
 have e1 : a = c := by omega
 have e2 : b = d := by omega
 rw [e1, e2]
def ps (l : List Q) : List Q := l.mergeSort fun x y => decide (le x y)
theorem ps_perm (l : List Q) : (ps l).Perm l := List.mergeSort_perm _ _
theorem ps_len (l : List Q) : (ps l).length = l.length := (ps_perm l).length_eq
theorem ps_sorted (l : List Q) : (ps l).Pairwise le := by
 have h := List.pairwise_mergeSort (le := fun x y : Q => decide (le x y)) (fun a b c h1 h2 => by simp at *; exact le_trans h1 h2) (fun a b => by simp; exact le_total a b) l
 exact h.imp fun h => by simpa using h
theorem uniq : ∀ {a b : List Q}, a.Perm b → a.Pairwise le → b.Pairwise le → a = b
 | [], b, h, _, _ => (List.nil_perm.1 h).symm
 | x :: a, [], h, _, _ => by have := h.length_eq; simp at this
 | x :: a, y :: b, h, ha, hb => by
  obtain ⟨a1, a2⟩ := List.pairwise_cons.1 ha
  obtain ⟨b1, b2⟩ := List.pairwise_cons.1 hb
  have e : x = y := by
   have h1 : x ∈ y :: b := h.mem_iff.1 (by simp)
   have h2 : y ∈ x :: a := h.mem_iff.2 (by simp)
   rcases List.mem_cons.1 h1 with h1 | h1
   ·exact h1
   ·rcases List.mem_cons.1 h2 with h2 | h2
    ·exact h2.symm
    ·exact le_anti (a1 y h2) (b1 x h1)
  subst e
  rw [uniq (List.Perm.cons_inv h) a2 b2]
theorem ps_of {a b : List Q} (h : a.Perm b) (hs : a.Pairwise le) : a = ps b := uniq (h.trans (ps_perm b).symm) hs (ps_sorted b)
theorem ps_eq {a b : List Q} (h : a.Perm b) : ps a = ps b := ps_of ((ps_perm a).trans h) (ps_sorted a)
theorem ps_id {a : List Q} (h : a.Pairwise le) : ps a = a := (ps_of (List.Perm.refl a) h).symm
/-- of alike ones those ahead are the lesser -/
def Cross (X Y : List Q) : Prop := ∀ x ∈ X, ∀ y ∈ Y, x.2 = y.2 → x.1 ≤ y.1
theorem cross_le {X Y : List Q} (h : Cross X Y) {x y : Q} (hx : x ∈ X) (hy : y ∈ Y) (hn : ¬ y.2 > x.2) : le x y := by
 unfold le
 by_cases e : x.2 = y.2
 ·exact .inr ⟨e, h x hx y hy e⟩
 ·exact .inl (by omega)
theorem Cross.sub {X Y X' Y' : List Q} (h : Cross X Y) (hX : ∀ x ∈ X', x ∈ X) (hY : ∀ y ∈ Y', y ∈ Y) : Cross X' Y' := fun x hx y hy => h x (hX x hx) y (hY y hy)
theorem app_sorted {X Y : List Q} (hX : X.Pairwise le) (hY : Y.Pairwise le) (h : ∀ x ∈ X, ∀ y ∈ Y, le x y) : (X ++ Y).Pairwise le := List.pairwise_append.2 ⟨hX, hY, h⟩
theorem getle {X : List Q} (h : X.Pairwise le) {i j : Nat} {x y : Q} (hx : X[i]? = some x) (hy : X[j]? = some y) (hij : i ≤ j) : x.2 ≥ y.2 := by
 by_cases e : i = j
 ·subst e; rw [hx] at hy; injection hy with hy; subst hy; omega
 ·obtain ⟨h1, rfl⟩ := List.getElem?_eq_some_iff.1 hx
  obtain ⟨h2, rfl⟩ := List.getElem?_eq_some_iff.1 hy
  have := List.pairwise_iff_getElem.1 h i j h1 h2 (by omega)
  unfold le at this; omega
/-- one, put into a sorted row: behind those that are elder -/
theorem ins_left {x : Q} {Y1 Y2 : List Q} (hY : (Y1 ++ Y2).Pairwise le) (hc : Cross [x] (Y1 ++ Y2)) (h1 : ∀ y ∈ Y1, y.2 > x.2) (h2 : ∀ y ∈ Y2, ¬ y.2 > x.2) : Y1 ++ [x] ++ Y2 = ps ([x] ++ (Y1 ++ Y2)) := by
 obtain ⟨p1, p2, p3⟩ := List.pairwise_append.1 hY
 refine ps_of ?_ (app_sorted (app_sorted p1 (by simp) fun y hy z hz => ?_) p2 fun y hy z hz => ?_)
 ·exact (List.perm_append_comm.append_right Y2).trans (by rw [List.append_assoc])
 ·rw [List.mem_singleton.1 hz]; exact .inl (h1 y hy)
 ·rcases List.mem_append.1 hy with h | h
  ·exact p3 y h z hz
  ·rw [List.mem_singleton.1 h]
   exact cross_le hc (by simp) (List.mem_append_right _ hz) (h2 z hz)
/-- one, put into a sorted row from behind it -/
theorem ins_right {y : Q} {X1 X2 : List Q} (hX : (X1 ++ X2).Pairwise le) (hc : Cross (X1 ++ X2) [y]) (h1 : ∀ x ∈ X1, ¬ y.2 > x.2) (h2 : ∀ x ∈ X2, y.2 > x.2) : X1 ++ [y] ++ X2 = ps ((X1 ++ X2) ++ [y]) := by
 obtain ⟨p1, p2, p3⟩ := List.pairwise_append.1 hX
 refine ps_of ?_ (app_sorted (app_sorted p1 (by simp) fun x hx z hz => ?_) p2 fun x hx z hz => ?_)
 ·rw [List.append_assoc, List.append_assoc]
  exact List.Perm.append_left _ List.perm_append_comm
 ·rw [List.mem_singleton.1 hz]; exact cross_le hc (List.mem_append_left _ hx) (by simp) (h1 x hx)
 ·rcases List.mem_append.1 hx with h | h
  ·exact p3 x h z hz
  ·rw [List.mem_singleton.1 h]; exact .inl (h2 z hz)
/-- two merges make one -/
theorem merge2 {X1 X2 Y1 Y2 : List Q} (hX : (X1 ++ X2).Pairwise le) (hY : (Y1 ++ Y2).Pairwise le) (h12 : ∀ x ∈ X1, ∀ y ∈ Y2, le x y) (h21 : ∀ y ∈ Y1, ∀ x ∈ X2, le y x) : ps (X1 ++ Y1) ++ ps (X2 ++ Y2) = ps ((X1 ++ X2) ++ (Y1 ++ Y2)) := by
 obtain ⟨_, _, x3⟩ := List.pairwise_append.1 hX
 obtain ⟨_, _, y3⟩ := List.pairwise_append.1 hY
 refine ps_of ?_ (app_sorted (ps_sorted _) (ps_sorted _) fun x hx y hy => ?_)
 ·refine ((ps_perm _).append (ps_perm _)).trans ?_
  rw [List.append_assoc, List.append_assoc]
  refine List.Perm.append_left _ ?_
  rw [← List.append_assoc, ← List.append_assoc]
  exact List.perm_append_comm.append_right _
 ·have hx2 := (ps_perm _).mem_iff.1 hx
  have hy2 := (ps_perm _).mem_iff.1 hy
  rcases List.mem_append.1 hx2 with h | h <;> rcases List.mem_append.1 hy2 with h' | h'
  ·exact x3 x h y h'
  ·exact h12 x h y h'
  ·exact h21 x h y h'
  ·exact y3 x h y h'
theorem ps_app (a b : List Q) : ps (ps a ++ ps b) = ps (a ++ b) := ps_eq ((ps_perm a).append (ps_perm b))
end Go.Proofs.Ytlakbclnilakbaa.St
end

section
namespace Go.Proofs.Ytlakbclnilakbaa
open Go.RowKit
set_option maxRecDepth 100000
set_option maxHeartbeats 4000000
open St (Q)
def pc (l : List Q) : List Value := l.flatMap fun q => [.int .i64 q.1, .int .i64 q.2]
theorem pc_append (a b : List Q) : pc (a ++ b) = pc a ++ pc b := by simp [pc]
theorem pc_len : ∀ l : List Q, (pc l).length = l.length * 2
 | [] => rfl
 | q :: l => by
  have := pc_len l
  show ([Value.int .i64 q.1, .int .i64 q.2] ++ pc l).length = _
  rw [List.length_append, this]; simp; omega
theorem pc_split {l : List Q} {i : Nat} {q : Q} (h : l[i]? = some q) : l = l.take i ++ [q] ++ l.drop (i + 1) := by
 obtain ⟨h1, h2⟩ := List.getElem?_eq_some_iff.1 h
 rw [← h2, List.append_assoc, List.singleton_append, ← List.drop_eq_getElem_cons h1, List.take_append_drop]
theorem pc_part {l : List Q} {rest : List Value} {i : Nat} {q : Q} (h : l[i]? = some q) : ((pc l ++ rest).drop (i * 2)).take 2 = [.int .i64 q.1, .int .i64 q.2] := by
 have h1 := (List.getElem?_eq_some_iff.1 h).1
 have hl : (pc (l.take i)).length = i * 2 := by rw [pc_len, List.length_take]; omega
 have e : pc l ++ rest = pc (l.take i) ++ ([.int .i64 q.1, .int .i64 q.2] ++ (pc (l.drop (i + 1)) ++ rest)) := by
  conv => lhs; rw [pc_split h]
  rw [pc_append, pc_append]; simp [pc]
 rw [e, List.drop_left' hl]; rfl
theorem pc_put {l : List Q} {rest : List Value} {i : Nat} (a : Q) (hi : i < l.length) : (pc l ++ rest).take (i * 2) ++ [.int .i64 a.1, .int .i64 a.2] ++ (pc l ++ rest).drop (i * 2 + 2) = pc (l.set i a) ++ rest := by
 obtain ⟨q, h⟩ : ∃ q, l[i]? = some q := ⟨_, List.getElem?_eq_getElem hi⟩
 have hl : (pc (l.take i)).length = i * 2 := by rw [pc_len, List.length_take]; omega
 have e : pc l ++ rest = pc (l.take i) ++ ([.int .i64 q.1, .int .i64 q.2] ++ (pc (l.drop (i + 1)) ++ rest)) := by
  conv => lhs; rw [pc_split h]
  rw [pc_append, pc_append]; simp [pc]
 have e2 : l.set i a = l.take i ++ [a] ++ l.drop (i + 1) := by rw [List.set_eq_take_append_cons_drop, if_pos hi]; simp
 rw [e, List.take_left' hl, ← List.drop_drop, List.drop_left' hl, e2, pc_append, pc_append]
 show pc (l.take i) ++ [.int .i64 a.1, .int .i64 a.2] ++ (pc (l.drop (i + 1)) ++ rest) = _
 simp [pc]
def prow (p : Nat) (l : List Q) (rest : List Value) (T : TypeId) : Ent := blk p (pc l ++ rest) T
section
variable {P : Program} {ops : Array Oper} {rest' : List Oper} {n : Sz} {f : Nat → Value} {W w0 : World} {F : List Nat} {L : List Ent} {Q' : Exit → Act → World → Prop} {dst : Option Tmp} {ty : TypeId} {pos : String} {af : Array Edge} {g : Option (Nat × Bool)} {x y : Operand} {t : TypeId} {k k2 : IntKind} {a b c : Int}
theorem r_shrS {s : Nat} (hx : ev n f x = .int k a) (hy : ev n f y = .int k2 b) (hb : b = (s : Int)) (hs : s ≤ k.bits) (hr : a.fdiv (2 ^ s) = c) {t2 : TypeId} : (execOp (ev n f) ⟨dst, .binOp .shr t x y t2, ty, pos, af, g⟩).run P W = .ok (.value (.int k c)) W := by
 subst hb
 have h1 : min s k.bits = s := Nat.min_eq_left hs
 have h2 : ¬ (s : Int) < 0 := by omega
 simp [execOp, hx, hy, eqGuard, binOp, Op.shift, h1, h2, hr]
theorem r_lP {p i : Nat} {l : List Q} {rs : List Value} {T : TypeId} {q : Q} (H : Heap w0 F L W) (j : Nat) (hx : ev n f x = .pointer (some ⟨p, i * 2, none⟩)) (hj : L[j]? = some (prow p l rs T)) (hq : l[i]? = some q) (hagg : ∀ W, (isAgg t).run P W = .ok true W) (hsz : ∀ W, (Go.sizeOf t).run P W = .ok 2 W) :
  (execOp (ev n f) ⟨dst, .load t x, ty, pos, af, g⟩).run P W = .ok (.value (.agg [.int .i64 q.1, .int .i64 q.2].toArray)) W :=
 r_lp H j hx hj (pc_part hq) rfl hagg hsz
theorem s_sP {p i : Nat} {l : List Q} {rs : List Value} {T : TypeId} {q : Q} (H : Heap w0 F L W) (j : Nat) (hw : Region.wanted ⟨none, .store t x y, ty, pos, af, g⟩ (yl n f ops) = true) (hx : ev n f x = .pointer (some ⟨p, i * 2, none⟩)) (hy : ev n f y = .agg [.int .i64 q.1, .int .i64 q.2].toArray) (hj : L[j]? = some (prow p l rs T)) (hi : i < l.length) (hs : ∀ W, (Go.sizeOf t).run P W = .ok 2 W)
  (h : ∀ W', Heap w0 F (L.set j (prow p (l.set i q) rs T)) W' → SL P ops Q' rest' n f W') : SL P ops Q' (⟨none, .store t x y, ty, pos, af, g⟩ :: rest') n f W := by
 refine s_sa (vs := [.int .i64 q.1, .int .i64 q.2]) H j hw hx hy hj rfl rfl (Nat.ble_eq_true_of_le (by rw [List.length_append, pc_len]; simp; omega)) hs fun W' H' => h W' ?_
 have e : [Value.int .i64 q.1, .int .i64 q.2].length = 2 := rfl
 rw [e, pc_put q hi] at H'
 exact H'
end
/-- i swaps of neighbours by places -/
def sw (l : List Q) (a b : Nat) : Nat → List Q
 | 0 => l
 | i + 1 => ((sw l a b i).set (a + i) ((sw l a b i).getD (b + i) (0, 0))).set (b + i) ((sw l a b i).getD (a + i) (0, 0))
theorem sw_len (l : List Q) (a b : Nat) : ∀ i, (sw l a b i).length = l.length
 | 0 => rfl
 | i + 1 => by rw [sw, List.length_set, List.length_set, sw_len l a b i]
theorem sw_get (l : List Q) (a b : Nat) : ∀ i, a + i ≤ b → b + i ≤ l.length → ∀ k, (sw l a b i)[k]? = if a ≤ k ∧ k < a + i then l[k - a + b]? else if b ≤ k ∧ k < b + i then l[k - b + a]? else l[k]?
 | 0, h1, h2, k => by rw [if_neg (by omega), if_neg (by omega)]; rfl
 | i + 1, h1, h2, k => by
  have ih := sw_get l a b i (by omega) (by omega)
  have hlen := sw_len l a b i
  have eb : (sw l a b i).getD (b + i) (0, 0) = l.getD (b + i) (0, 0) := by
   rw [List.getD_eq_getElem?_getD, ih, if_neg (by omega), if_neg (by omega), List.getD_eq_getElem?_getD]
  have ea : (sw l a b i).getD (a + i) (0, 0) = l.getD (a + i) (0, 0) := by
   rw [List.getD_eq_getElem?_getD, ih, if_neg (by omega), if_neg (by omega), List.getD_eq_getElem?_getD]
  rw [sw, eb, ea, List.getElem?_set, List.getElem?_set, List.length_set, hlen]
  by_cases e1 : b + i = k
  ·subst e1
   rw [if_pos rfl, if_pos (by omega), if_neg (by omega), if_pos (by omega)]
   rw [show b + i - b + a = a + i by omega, List.getD_eq_getElem?_getD, List.getElem?_eq_getElem (by omega)]; rfl
  ·rw [if_neg e1]
   by_cases e2 : a + i = k
   ·subst e2
    rw [if_pos rfl, if_pos (by omega), if_pos (by omega)]
    rw [show a + i - a + b = b + i by omega, List.getD_eq_getElem?_getD, List.getElem?_eq_getElem (by omega)]; rfl
   ·rw [if_neg e2, ih]
    have p1 : (a ≤ k ∧ k < a + (i + 1)) ↔ (a ≤ k ∧ k < a + i) := by omega
    have p2 : (b ≤ k ∧ k < b + (i + 1)) ↔ (b ≤ k ∧ k < b + i) := by omega
    simp only [p1, p2]
section
variable {α : Type} {A V B U C : List α} {k : Nat}
theorem g5_1 (h : k < A.length) : (A ++ V ++ B ++ U ++ C)[k]? = A[k]? := by
 rw [List.getElem?_append_left (by simp only [List.length_append]; omega), List.getElem?_append_left (by simp only [List.length_append]; omega), List.getElem?_append_left (by simp only [List.length_append]; omega), List.getElem?_append_left h]
theorem g5_2 (h : A.length ≤ k) (h2 : k < A.length + V.length) : (A ++ V ++ B ++ U ++ C)[k]? = V[k - A.length]? := by
 rw [List.getElem?_append_left (by simp only [List.length_append]; omega), List.getElem?_append_left (by simp only [List.length_append]; omega), List.getElem?_append_left (by simp only [List.length_append]; omega), List.getElem?_append_right h]
theorem g5_3 (h : A.length + V.length ≤ k) (h2 : k < A.length + V.length + B.length) : (A ++ V ++ B ++ U ++ C)[k]? = B[k - (A.length + V.length)]? := by
 rw [List.getElem?_append_left (by simp only [List.length_append]; omega), List.getElem?_append_left (by simp only [List.length_append]; omega), List.getElem?_append_right (by simp only [List.length_append]; omega), List.length_append]
theorem g5_4 (h : A.length + V.length + B.length ≤ k) (h2 : k < A.length + V.length + B.length + U.length) : (A ++ V ++ B ++ U ++ C)[k]? = U[k - (A.length + V.length + B.length)]? := by
 rw [List.getElem?_append_left (by simp only [List.length_append]; omega), List.getElem?_append_right (by simp only [List.length_append]; omega), List.length_append, List.length_append]
theorem g5_5 (h : A.length + V.length + B.length + U.length ≤ k) : (A ++ V ++ B ++ U ++ C)[k]? = C[k - (A.length + V.length + B.length + U.length)]? := by
 rw [List.getElem?_append_right (by simp only [List.length_append]; omega), List.length_append, List.length_append, List.length_append]
end
theorem sw_all (A U B V C : List Q) (h : U.length = V.length) : sw (A ++ U ++ B ++ V ++ C) A.length (A.length + U.length + B.length) U.length = A ++ V ++ B ++ U ++ C := by
 apply List.ext_getElem?
 intro k
 rw [sw_get _ _ _ _ (by omega) (by simp only [List.length_append]; omega)]
 rcases Nat.lt_or_ge k A.length with c1 | c1
 ·rw [if_neg (by omega), if_neg (by omega), g5_1 c1, g5_1 c1]
 rcases Nat.lt_or_ge k (A.length + U.length) with c2 | c2
 ·rw [if_pos ⟨c1, c2⟩, g5_4 (by omega) (by omega), g5_2 c1 (by omega)]
  congr 1; omega
 rcases Nat.lt_or_ge k (A.length + U.length + B.length) with c3 | c3
 ·rw [if_neg (by omega), if_neg (by omega), g5_3 c2 c3, g5_3 (by omega) (by omega)]
  congr 1; omega
 rcases Nat.lt_or_ge k (A.length + U.length + B.length + U.length) with c4 | c4
 ·rw [if_neg (by omega), if_pos ⟨c3, c4⟩, g5_2 (by omega) (by omega), g5_4 (by omega) (by omega)]
  congr 1; omega
 ·rw [if_neg (by omega), if_neg (by omega), g5_5 (by omega), g5_5 (by omega)]
  congr 1; omega
theorem zSwap (p c n : Nat) (rs : List Value) (a b m : Nat) (l : List Q) (fv : Value) (w : World) (hE : Ents [prow p l rs 132] w) (hl : l.length = n) (hn : n ≤ 1000000) (h1 : a + m ≤ b) (h2 : b + m ≤ n) :
  Calls Try.prog 169 [.slice (some ⟨p, 0, none⟩) n c, .int .i64 a, .int .i64 b, .int .i64 m, .func (.func 96) #[] #[]].toArray w fun e w' => e = .returned (.tuple #[]) ∧ Heap w (ids [prow p l rs 132]) [prow p (sw l a b m) rs 132] w' := by
 have H := Heap.start hE
 generalize ids [prow p l rs 132] = I at *
 refine k_in (N := 38) Try.func169 rfl rfl rfl ?_
 refine k_sg ?_
 refine s_run rfl rfl (rai rfl) ?_
 refine k_nc ?_
 refine k_b ?_
 refine k_loop (fun z f W => ∃ (i : Nat), i ≤ m ∧ z = m - i ∧ f 0 = .slice (some ⟨p, 0, none⟩) n c ∧ f 1 = .int .i64 a ∧ f 2 = .int .i64 b ∧ f 3 = .int .i64 m ∧ f 10 = .int .i64 i ∧ Heap w I [prow p (sw l a b i) rs 132] W) m ⟨0, by omega, rfl, rfl, rfl, rfl, rfl, rfl, H⟩ ?_
 clear H
 rintro z f W ⟨i, hi, rfl, f0, f1, f2, f3, f10, H⟩
 obtain ⟨f, rfl⟩ := live5 f0 f1 f2 f3 f10
 clear f0 f1 f2 f3 f10
 have hsl := sw_len l a b i
 by_cases hlt : i < m
 ·obtain ⟨x, hx⟩ : ∃ x, (sw l a b i)[a + i]? = some x := ⟨_, List.getElem?_eq_getElem (by omega)⟩
  obtain ⟨y, hy⟩ : ∃ x, (sw l a b i)[b + i]? = some x := ⟨_, List.getElem?_eq_getElem (by omega)⟩
  have hst : ((sw l a b i).set (a + i) y).set (b + i) x = sw l a b (i + 1) := by
   rw [sw, List.getD_eq_getElem?_getD, List.getD_eq_getElem?_getD, hx, hy]; rfl
  refine k_seq ?_
  refine k_sg ?_
  refine s_run rfl rfl (rmi rfl) ?_
  refine s_run rfl rfl (rmi rfl) ?_
  refine s_run rfl rfl (r_lssT rfl rfl (by omega)) ?_
  refine k_nc ?_
  refine k_t rfl ?_
  refine k_skip ?_
  refine c_norm ?_
  refine k_seq ?_
  refine k_b ?_
  refine k_trF mixed ?_; have H' := H.drew; clear H; have H := H'; clear H'
  refine tqh 0 rfl rfl rfl (fun _ hS => r_mv (v := .slice _ _ _) rfl) trivial ?_
  refine tqh 1 rfl rfl rfl (fun _ hS => r_mv (v := .int _ _) rfl) trivial ?_
  refine tqh 2 rfl rfl rfl (fun _ hS => r_mv (v := .int _ _) rfl) trivial ?_
  refine tqh 3 rfl rfl rfl (fun _ hS => r_add rfl rfl (wI (by omega))) trivial ?_
  refine tqh 4 rfl rfl rfl (fun _ hS => r_mv (v := .slice _ _ _) rfl) trivial ?_
  refine tqh 5 rfl rfl rfl (fun _ hS => r_mv (v := .int _ _) rfl) trivial ?_
  refine tqh 6 rfl rfl rfl (fun _ hS => r_mv (v := .int _ _) rfl) trivial ?_
  refine tqh 7 rfl rfl rfl (fun _ hS => r_add rfl rfl (wI (by omega))) trivial ?_
  refine tqh 8 rfl rfl rfl (fun _ hS => r_mv (v := .slice _ _ _) rfl) trivial ?_
  refine tqh 9 rfl rfl rfl (fun _ hS => r_mv (v := .int _ _) rfl) trivial ?_
  refine tqh 10 rfl rfl rfl (fun _ hS => r_mv (v := .int _ _) rfl) trivial ?_
  refine tqh 11 rfl rfl rfl (fun _ hS => r_add rfl rfl (wI (by omega))) trivial ?_
  refine tqh 12 rfl rfl rfl (fun _ hS => r_ix0 (i := (b + i)) rfl rfl (by omega) (by omega) Try.underlying129 sz132) trivial ?_
  refine tqh 14 rfl rfl rfl (fun _ hS => r_mv (v := .slice _ _ _) rfl) trivial ?_
  refine tqh 15 rfl rfl rfl (fun _ hS => r_mv (v := .int _ _) rfl) trivial ?_
  refine tqh 16 rfl rfl rfl (fun _ hS => r_mv (v := .int _ _) rfl) trivial ?_
  refine tqh 17 rfl rfl rfl (fun _ hS => r_add rfl rfl (wI (by omega))) trivial ?_
  refine tqh 18 rfl rfl rfl (fun _ hS => r_ix0 (i := (a + i)) rfl rfl (by omega) (by omega) Try.underlying129 sz132) trivial ?_
  refine t_up2 13 19 (by kernel_rfl) ?_ ?_
  ·refine up_mk rfl ?_
   refine s_run rfl rfl (r_lP H 0 rfl rfl hy ag132 sz132) ?_
   refine k_nil ?_
   refine t_on trivial ?_
   refine t_up1 19 (by kernel_rfl) ?_
   refine up_mk rfl ?_
   refine s_run rfl rfl (r_lP H 0 rfl rfl hx ag132 sz132) ?_
   refine k_nil ?_
   refine t_on trivial ?_
   refine tqh 20 rfl rfl rfl (fun _ hS => r_ix0 (i := (a + i)) rfl rfl (by omega) (by omega) Try.underlying129 sz132) trivial ?_
   refine t_up1 21 (by kernel_rfl) ?_
   refine up_mk rfl ?_
   refine s_sP (q := y) H 0 rfl rfl rfl rfl (by omega) sz132 ?_
   clear H; intro _ H; simp only [jA, jB, jC, jD, jE, jF, jG, jH, jI, jJ, jK, Nat.reduceAdd] at H
   refine k_nil ?_
   refine t_on trivial ?_
   refine tqh 22 rfl rfl rfl (fun _ hS => r_ix0 (i := (b + i)) rfl rfl (by omega) (by omega) Try.underlying129 sz132) trivial ?_
   refine t_up1 23 (by kernel_rfl) ?_
   refine up_mk rfl ?_
   refine s_sP (q := x) H 0 rfl rfl rfl rfl (by rw [List.length_set]; omega) sz132 ?_
   clear H; intro _ H; simp only [jA, jB, jC, jD, jE, jF, jG, jH, jI, jJ, jK, Nat.reduceAdd] at H
   refine k_nil ?_
   refine t_on trivial ?_
   refine t_done (by kernel_rfl) ?_
   refine b_norm ?_
   refine c_norm ?_
   refine k_rg ?_
   refine s_run rfl rfl (rmi rfl) ?_
   refine s_run rfl rfl (r_add rfl rfl (wI (by omega))) ?_
   refine s_run rfl rfl (rai rfl) ?_
   refine k_nil ?_
   refine c_round ?_
   exact ⟨_, _, by omega, rfl, i + 1, by omega, rfl, rfl, rfl, rfl, rfl, rfl, by rw [← hst]; exact H⟩
  ·refine up_mk rfl ?_
   refine s_run rfl rfl (r_lP H 0 rfl rfl hx ag132 sz132) ?_
   refine k_nil ?_
   refine t_on trivial ?_
   refine t_up1 13 (by kernel_rfl) ?_
   refine up_mk rfl ?_
   refine s_run rfl rfl (r_lP H 0 rfl rfl hy ag132 sz132) ?_
   refine k_nil ?_
   refine t_on trivial ?_
   refine tqh 20 rfl rfl rfl (fun _ hS => r_ix0 (i := (a + i)) rfl rfl (by omega) (by omega) Try.underlying129 sz132) trivial ?_
   refine t_up1 21 (by kernel_rfl) ?_
   refine up_mk rfl ?_
   refine s_sP (q := y) H 0 rfl rfl rfl rfl (by omega) sz132 ?_
   clear H; intro _ H; simp only [jA, jB, jC, jD, jE, jF, jG, jH, jI, jJ, jK, Nat.reduceAdd] at H
   refine k_nil ?_
   refine t_on trivial ?_
   refine tqh 22 rfl rfl rfl (fun _ hS => r_ix0 (i := (b + i)) rfl rfl (by omega) (by omega) Try.underlying129 sz132) trivial ?_
   refine t_up1 23 (by kernel_rfl) ?_
   refine up_mk rfl ?_
   refine s_sP (q := x) H 0 rfl rfl rfl rfl (by rw [List.length_set]; omega) sz132 ?_
   clear H; intro _ H; simp only [jA, jB, jC, jD, jE, jF, jG, jH, jI, jJ, jK, Nat.reduceAdd] at H
   refine k_nil ?_
   refine t_on trivial ?_
   refine t_done (by kernel_rfl) ?_
   refine b_norm ?_
   refine c_norm ?_
   refine k_rg ?_
   refine s_run rfl rfl (rmi rfl) ?_
   refine s_run rfl rfl (r_add rfl rfl (wI (by omega))) ?_
   refine s_run rfl rfl (rai rfl) ?_
   refine k_nil ?_
   refine c_round ?_
   exact ⟨_, _, by omega, rfl, i + 1, by omega, rfl, rfl, rfl, rfl, rfl, rfl, by rw [← hst]; exact H⟩
 ·obtain rfl : i = m := by omega
  refine k_seq ?_
  refine k_sg ?_
  refine s_run rfl rfl (rmi rfl) ?_
  refine s_run rfl rfl (rmi rfl) ?_
  refine s_run rfl rfl (r_lssF rfl rfl (by omega)) ?_
  refine k_nc ?_
  refine k_f rfl ?_
  refine k_exit ?_
  refine c_exit ?_
  refine c_exit ?_
  refine b_hit ?_
  refine fin0  rfl ?_
  exact ⟨rfl, H⟩
end Go.Proofs.Ytlakbclnilakbaa
end

section
namespace Go.Proofs.Ytlakbclnilakbaa
open Go.RowKit
set_option maxRecDepth 100000
set_option maxHeartbeats 4000000
open St (Q)
theorem Heap.oneP {w0 W : World} {F : List Nat} {L : List Ent} {E : Ent} (H : Heap w0 F L W) (k : Nat) (hk : L[k]? = some E) : Ents [E] W := Heap.part (A := [E]) (H.pick k hk)
theorem Heap.atP {w0 W W' : World} {F : List Nat} {L : List Ent} (H : Heap w0 F L W) (k : Nat) {E E' : Ent} (hk : L[k]? = some E) (h' : Heap W (ids [E]) [E'] W') : Heap w0 F (L.set k E') W' := H.at k hk h' (fun i hi => by simpa [ids] using hi)
theorem wIe {a c : Int} (h : a = c) (hb : -9223372036854775808 ≤ c ∧ c ≤ 9223372036854775807) : IntKind.i64.wrap a = c := by subst h; exact wI hb
abbrev cmpF : Value := .func (.func 96) #[] #[]
theorem zRot (p c n : Nat) (rs : List Value) (A U V C : List Q) (w : World) (hE : Ents [prow p (A ++ U ++ V ++ C) rs 132] w) (hl : (A ++ U ++ V ++ C).length = n) (hn : n ≤ 1000000) (hu : 0 < U.length) (hv : 0 < V.length) :
  Calls Try.prog 164 [.slice (some ⟨p, 0, none⟩) n c, .int .i64 A.length, .int .i64 (A.length + U.length : Nat), .int .i64 (A.length + U.length + V.length : Nat), cmpF].toArray w fun e w' => e = .returned (.tuple #[]) ∧ Heap w (ids [prow p (A ++ U ++ V ++ C) rs 132]) [prow p (A ++ V ++ U ++ C) rs 132] w' := by
 have H := Heap.start hE
 generalize ids [prow p (A ++ U ++ V ++ C) rs 132] = I at *
 obtain ⟨m, hm⟩ : ∃ m, A.length + U.length = m := ⟨_, rfl⟩
 obtain ⟨tg, htg⟩ : ∃ tg, A ++ V ++ U ++ C = tg := ⟨_, rfl⟩
 have hln := hl
 simp only [List.length_append] at hln
 rw [hm, htg]
 refine k_in (N := 58) Try.func164 rfl rfl rfl ?_
 refine k_sg ?_
 refine s_run rfl rfl (rmi rfl) ?_
 refine s_run rfl rfl (rmi rfl) ?_
 refine s_run rfl rfl (r_sub (c := (U.length : Int)) rfl rfl (wIe (by omega) (by omega))) ?_
 refine s_run rfl rfl (rai rfl) ?_
 refine k_nc ?_
 refine k_sg ?_
 refine s_run rfl rfl (rmi rfl) ?_
 refine s_run rfl rfl (rmi rfl) ?_
 refine s_run rfl rfl (r_sub (c := (V.length : Int)) rfl rfl (wIe (by omega) (by omega))) ?_
 refine s_run rfl rfl (rai rfl) ?_
 refine k_nc ?_
 refine k_seq ?_
 refine k_b ?_
 refine k_loop (fun z f W => ∃ (X U V Y : List Q), z = U.length + V.length ∧ 0 < U.length ∧ 0 < V.length ∧ X.length + U.length = m ∧ X ++ V ++ U ++ Y = tg ∧ (X ++ U ++ V ++ Y).length = n ∧ f 0 = .slice (some ⟨p, 0, none⟩) n c ∧ f 2 = .int .i64 m ∧ f 4 = cmpF ∧ f 10 = .int .i64 U.length ∧ f 11 = .int .i64 V.length ∧ Heap w I [prow p (X ++ U ++ V ++ Y) rs 132] W) (U.length + V.length) ⟨A, U, V, C, rfl, hu, hv, hm, htg, hl, rfl, rfl, rfl, rfl, rfl, H⟩ ?_
 clear H htg hm hl hu hv hln hE A U V C
 rintro z f W ⟨X, U, V, Y, rfl, hu, hv, hm, htg, hl, f0, f2, f4, f10, f11, H⟩
 obtain ⟨f, rfl⟩ := live5 f0 f2 f4 f10 f11
 clear f0 f2 f4 f10 f11
 have hln := hl
 simp only [List.length_append] at hln
 rcases Nat.lt_trichotomy U.length V.length with h | h | h
 ·obtain ⟨V1, V2, rfl, h2⟩ : ∃ V1 V2, V = V1 ++ V2 ∧ V2.length = U.length := ⟨V.take (V.length - U.length), V.drop (V.length - U.length), (List.take_append_drop _ _).symm, by rw [List.length_drop]; omega⟩
  have hvl : (V1 ++ V2).length = V1.length + V2.length := List.length_append
  rw [List.length_append] at h hln hv
  have hsw := sw_all X U V1 V2 Y h2.symm
  have e1 : X ++ U ++ (V1 ++ V2) ++ Y = X ++ U ++ V1 ++ V2 ++ Y := by simp
  rw [e1] at hl H
  have hS := fun {W : World} hE => zSwap p c n rs X.length (X.length + U.length + V1.length) U.length (X ++ U ++ V1 ++ V2 ++ Y) cmpF W hE hl hn (by omega) (by omega)
  rw [hsw] at hS
  refine k_seq ?_
  refine k_sg ?_
  refine s_run rfl rfl (rmi rfl) ?_
  refine s_run rfl rfl (rmi rfl) ?_
  refine s_run rfl rfl (r_neqT rfl rfl (by omega)) ?_
  refine k_nc ?_
  refine k_t rfl ?_
  refine k_skip ?_
  refine c_norm ?_
  refine k_b ?_
  refine k_sg ?_
  refine s_run rfl rfl (rmi rfl) ?_
  refine s_run rfl rfl (rmi rfl) ?_
  refine s_run rfl rfl (r_gtrF rfl rfl (by omega)) ?_
  refine k_nc ?_
  refine k_f rfl ?_
  refine k_sg ?_
  refine s_run rfl rfl (rms rfl) ?_
  refine s_run rfl rfl (rmi rfl) ?_
  refine s_run rfl rfl (rmi rfl) ?_
  refine s_run rfl rfl (r_sub (c := (X.length : Int)) rfl rfl (wIe (by omega) (by omega))) ?_
  refine s_run rfl rfl (rmi rfl) ?_
  refine s_run rfl rfl (rmi rfl) ?_
  refine s_run rfl rfl (r_add rfl rfl (wI (by omega))) ?_
  refine s_run rfl rfl (rmi rfl) ?_
  refine s_run rfl rfl (r_sub (c := (X.length + U.length + V1.length : Nat)) rfl rfl (wIe (by omega) (by omega))) ?_
  refine s_run rfl rfl (rmi rfl) ?_
  refine s_run rfl rfl (r_mv (v := .func _ _ _) rfl) ?_
  refine s_call rfl (hS (H.oneP 0 rfl)) (ca169 rfl) ?_
  rintro e W1 ⟨rfl, H'⟩
  refine ⟨_, rfl, ?_⟩
  have H := H.atP 0 rfl H'; clear H'; simp only [List.set_cons_zero] at H
  refine k_nc ?_
  refine k_rg ?_
  refine s_run rfl rfl (rmi rfl) ?_
  refine s_run rfl rfl (rmi rfl) ?_
  refine s_run rfl rfl (r_sub (c := (V1.length : Int)) rfl rfl (wIe (by omega) (by omega))) ?_
  refine s_run rfl rfl (rai rfl) ?_
  refine k_nil ?_
  refine b_norm ?_
  refine c_round ?_
  have e2 : X ++ V2 ++ V1 ++ U ++ Y = X ++ V2 ++ V1 ++ (U ++ Y) := by simp
  rw [e2] at H
  exact ⟨_, _, by rw [List.length_append]; omega, rfl, X, V2, V1, U ++ Y, rfl, by omega, by omega, by omega, by rw [← htg]; simp, by simp only [List.length_append]; omega, rfl, rfl, rfl, by rw [h2]; rfl, rfl, H⟩
 ·have hsw := sw_all X U [] V Y h
  have e1 : X ++ U ++ [] ++ V ++ Y = X ++ U ++ V ++ Y := by simp
  have e3 : X ++ V ++ [] ++ U ++ Y = tg := by rw [← htg]; simp
  rw [e1, e3] at hsw
  have hS := fun {W : World} hE => zSwap p c n rs X.length (X.length + U.length + ([] : List Q).length) U.length (X ++ U ++ V ++ Y) cmpF W hE hl hn (by simp) (by simp; omega)
  rw [hsw, List.length_nil, Nat.add_zero, hm] at hS
  refine k_seq ?_
  refine k_sg ?_
  refine s_run rfl rfl (rmi rfl) ?_
  refine s_run rfl rfl (rmi rfl) ?_
  refine s_run rfl rfl (r_neqF rfl rfl (by omega)) ?_
  refine k_nc ?_
  refine k_f rfl ?_
  refine k_exit ?_
  refine c_exit ?_
  refine c_exit ?_
  refine b_hit ?_
  refine c_norm ?_
  refine k_rg ?_
  refine s_run rfl rfl (rms rfl) ?_
  refine s_run rfl rfl (rmi rfl) ?_
  refine s_run rfl rfl (rmi rfl) ?_
  refine s_run rfl rfl (r_sub (c := (X.length : Int)) rfl rfl (wIe (by omega) (by omega))) ?_
  refine s_run rfl rfl (rmi rfl) ?_
  refine s_run rfl rfl (rmi rfl) ?_
  refine s_run rfl rfl (r_mv (v := .func _ _ _) rfl) ?_
  refine s_call rfl (hS (H.oneP 0 rfl)) (ca169 rfl) ?_
  rintro e W1 ⟨rfl, H'⟩
  refine ⟨_, rfl, ?_⟩
  have H := H.atP 0 rfl H'; clear H'; simp only [List.set_cons_zero] at H
  refine k_nil ?_
  refine fin0  rfl ?_
  exact ⟨rfl, H⟩
 ·obtain ⟨U1, U2, rfl, h2⟩ : ∃ U1 U2, U = U1 ++ U2 ∧ U1.length = V.length := ⟨U.take V.length, U.drop V.length, (List.take_append_drop _ _).symm, by rw [List.length_take]; omega⟩
  have hvl : (U1 ++ U2).length = U1.length + U2.length := List.length_append
  rw [List.length_append] at h hln hu hm
  have hsw := sw_all X U1 U2 V Y h2
  have e1 : X ++ (U1 ++ U2) ++ V ++ Y = X ++ U1 ++ U2 ++ V ++ Y := by simp
  rw [e1] at hl H
  have hS := fun {W : World} hE => zSwap p c n rs X.length (X.length + U1.length + U2.length) U1.length (X ++ U1 ++ U2 ++ V ++ Y) cmpF W hE hl hn (by omega) (by omega)
  rw [hsw, show X.length + U1.length + U2.length = m by omega, h2] at hS
  refine k_seq ?_
  refine k_sg ?_
  refine s_run rfl rfl (rmi rfl) ?_
  refine s_run rfl rfl (rmi rfl) ?_
  refine s_run rfl rfl (r_neqT rfl rfl (by omega)) ?_
  refine k_nc ?_
  refine k_t rfl ?_
  refine k_skip ?_
  refine c_norm ?_
  refine k_b ?_
  refine k_sg ?_
  refine s_run rfl rfl (rmi rfl) ?_
  refine s_run rfl rfl (rmi rfl) ?_
  refine s_run rfl rfl (r_gtrT rfl rfl (by omega)) ?_
  refine k_nc ?_
  refine k_t rfl ?_
  refine k_sg ?_
  refine s_run rfl rfl (rms rfl) ?_
  refine s_run rfl rfl (rmi rfl) ?_
  refine s_run rfl rfl (rmi rfl) ?_
  refine s_run rfl rfl (r_sub (c := (X.length : Int)) rfl rfl (wIe (by omega) (by omega))) ?_
  refine s_run rfl rfl (rmi rfl) ?_
  refine s_run rfl rfl (rmi rfl) ?_
  refine s_run rfl rfl (r_mv (v := .func _ _ _) rfl) ?_
  refine s_call rfl (hS (H.oneP 0 rfl)) (ca169 rfl) ?_
  rintro e W1 ⟨rfl, H'⟩
  refine ⟨_, rfl, ?_⟩
  have H := H.atP 0 rfl H'; clear H'; simp only [List.set_cons_zero] at H
  refine k_nc ?_
  refine k_rg ?_
  refine s_run rfl rfl (rmi rfl) ?_
  refine s_run rfl rfl (rmi rfl) ?_
  refine s_run rfl rfl (r_sub (c := (U2.length : Int)) rfl rfl (wIe (by omega) (by omega))) ?_
  refine s_run rfl rfl (rai rfl) ?_
  refine k_nil ?_
  refine b_norm ?_
  refine c_round ?_
  exact ⟨_, _, by rw [List.length_append]; omega, rfl, X ++ V, U2, U1, Y, rfl, by omega, by omega, by rw [List.length_append]; omega, by rw [← htg]; simp, by simp only [List.length_append]; omega, rfl, rfl, rfl, rfl, by rw [h2]; rfl, H⟩
end Go.Proofs.Ytlakbclnilakbaa
end

section
namespace Go.Proofs.Ytlakbclnilakbaa
open Go.RowKit
set_option maxRecDepth 100000
set_option maxHeartbeats 4000000
open St (Q)
def Bd (l : List Q) : Prop := ∀ q ∈ l, 0 ≤ q.2 ∧ q.2 ≤ 1099511627776
theorem zCmp (x y : Q) (w : World) (hx : 0 ≤ x.2 ∧ x.2 ≤ 1099511627776) (hy : 0 ≤ y.2 ∧ y.2 ≤ 1099511627776) :
  Calls Try.prog 96 [.agg [.int .i64 x.1, .int .i64 x.2].toArray, .agg [.int .i64 y.1, .int .i64 y.2].toArray].toArray w fun e w' => e = .returned (.int .i64 (y.2 - x.2)) ∧ Only [] w w' := by
 have H := Heap.nil w
 refine k_in (N := 10) Try.func96 rfl rfl rfl ?_
 refine k_sg ?_
 refine s_box H rfl rfl ?_
 intro p2 _ H'; clear H; have H := H'; clear H'
 refine s_box H rfl rfl ?_
 intro p3 _ H'; clear H; have H := H'; clear H'
 refine s_run rfl rfl (rai rfl) ?_
 refine k_nc ?_
 refine k_sg ?_
 refine s_run rfl rfl (r_fa0 rfl fo132_1) ?_
 refine s_run rfl rfl (r_lo H 0 rfl rfl rfl ag3) ?_
 refine s_run rfl rfl (r_fa0 rfl fo132_1) ?_
 refine s_run rfl rfl (r_lo H 1 rfl rfl rfl ag3) ?_
 refine s_run rfl rfl (r_sub rfl rfl (wI (by omega))) ?_
 refine s_run rfl rfl (rai rfl) ?_
 refine k_nc ?_
 refine k_ret ?_
 refine fin1r (v := .int _ _) rfl rfl ?_
 exact ⟨rfl, H.only⟩
theorem live7S {f : Nat → Value} {k1 k2 k3 k4 k5 k6 k7 : Nat} {v1 v2 v3 v4 v5 v6 v7 : Value} (h1 : f k1 = v1) (h2 : f k2 = v2) (h3 : f k3 = v3) (h4 : f k4 = v4) (h5 : f k5 = v5) (h6 : f k6 = v6) (h7 : f k7 = v7) : ∃ g, f = upd (upd (upd (upd (upd (upd (upd g k1 v1) k2 v2) k3 v3) k4 v4) k5 v5) k6 v6) k7 v7 := ⟨f, by rw [upd_same h1, upd_same h2, upd_same h3, upd_same h4, upd_same h5, upd_same h6, upd_same h7]⟩
theorem mid_at {P R : List Q} {x : Q} : (P ++ [x] ++ R)[P.length]? = some x := by
 rw [List.append_assoc, List.getElem?_append_right (Nat.le_refl _), Nat.sub_self]; rfl
theorem mid_swap {P R : List Q} {x y : Q} : ((P ++ [y] ++ [x] ++ R).set (P.length + 1) y).set P.length x = P ++ [x] ++ ([y] ++ R) := by
 have e1 : P ++ [y] ++ [x] ++ R = P ++ (y :: x :: R) := by simp
 rw [e1, List.set_append_right _ _ (by omega), show P.length + 1 - P.length = 1 by omega, List.set_append_right _ _ (by omega), Nat.sub_self]
 simp
theorem snoc_of {l : List Q} (h : l ≠ []) : ∃ l' y, l = l' ++ [y] := by
 obtain ⟨l', y, e⟩ := List.eq_nil_or_concat l |>.resolve_left h
 exact ⟨l', y, by rw [e, List.concat_eq_append]⟩
theorem zIns (p c n : Nat) (rs : List Value) (A X Z : List Q) (w : World) (hE : Ents [prow p (A ++ X ++ Z) rs 132] w) (hl : (A ++ X ++ Z).length = n) (hn : n ≤ 1000000) (hc : X.Pairwise fun x y => x.2 = y.2 → x.1 ≤ y.1) (hb : Bd X) :
  Calls Try.prog 148 [.slice (some ⟨p, 0, none⟩) n c, .int .i64 A.length, .int .i64 (A.length + X.length : Nat), cmpF].toArray w fun e w' => e = .returned (.tuple #[]) ∧ Heap w (ids [prow p (A ++ X ++ Z) rs 132]) [prow p (A ++ St.ps X ++ Z) rs 132] w' := by
 have H := Heap.start hE
 generalize ids [prow p (A ++ X ++ Z) rs 132] = I at *
 have hln := hl
 simp only [List.length_append] at hln
 have h1 : St.ps (X.take 1) = X.take 1 := St.ps_id (by cases X with
  | nil => simp
  | cons a l => simp)
 have e0 : A ++ X ++ Z = A ++ St.ps (X.take 1) ++ X.drop 1 ++ Z := by rw [h1, List.append_assoc A (X.take 1), List.take_append_drop]
 rw [e0] at H
 refine k_in (N := 53) Try.func148 rfl rfl rfl ?_
 refine k_sg ?_
 refine s_run rfl rfl (rmi rfl) ?_
 refine s_run rfl rfl (r_add rfl rfl (wI (by omega))) ?_
 refine s_run rfl rfl (rai rfl) ?_
 refine k_nc ?_
 refine k_b ?_
 refine k_loop (fun z f W => ∃ (k : Nat), 1 ≤ k ∧ k ≤ X.length + 1 ∧ z = X.length + 1 - k ∧ f 0 = .slice (some ⟨p, 0, none⟩) n c ∧ f 1 = .int .i64 A.length ∧ f 2 = .int .i64 (A.length + X.length : Nat) ∧ f 3 = cmpF ∧ f 8 = .int .i64 (A.length + k : Nat) ∧ Heap w I [prow p (A ++ St.ps (X.take k) ++ X.drop k ++ Z) rs 132] W) X.length ⟨1, by omega, by omega, by omega, rfl, rfl, rfl, rfl, rfl, H⟩ ?_
 clear H
 rintro z f W ⟨k, hk1, hk, rfl, f0, f1, f2, f3, f8, H⟩
 obtain ⟨f, rfl⟩ := live5 f0 f1 f2 f3 f8
 clear f0 f1 f2 f3 f8
 by_cases hlt : k < X.length
 ·obtain ⟨x, hx⟩ : ∃ x, X[k]? = some x := ⟨_, List.getElem?_eq_getElem hlt⟩
  have hxb := hb x (List.mem_of_getElem? hx)
  have hdr : X.drop k = [x] ++ X.drop (k + 1) := by
   obtain ⟨h2, h3⟩ := List.getElem?_eq_some_iff.1 hx
   rw [List.drop_eq_getElem_cons h2, h3]; rfl
  have hkl : (St.ps (X.take k)).length = k := by rw [St.ps_len, List.length_take]; omega
  have hpb : Bd (St.ps (X.take k)) := fun q hq => hb q (List.mem_of_mem_take ((St.ps_perm _).mem_iff.1 hq))
  have hcr : St.Cross (St.ps (X.take k)) [x] := fun u hu v hv => by
   rw [List.mem_singleton.1 hv]
   have hu2 := (St.ps_perm _).mem_iff.1 hu
   obtain ⟨i, hi, hi2⟩ := List.mem_iff_getElem.1 hu2
   rw [List.length_take] at hi
   obtain ⟨h2, h3⟩ := List.getElem?_eq_some_iff.1 hx
   have h4 : u = X[i]'(by omega) := by rw [← hi2, List.getElem_take]
   rw [h4, ← h3]
   exact List.pairwise_iff_getElem.1 hc i k (by omega) h2 (by omega)
  have hps : St.ps (St.ps (X.take k) ++ [x]) = St.ps (X.take (k + 1)) := by
   refine St.ps_eq ?_
   rw [← tk_snoc hx]
   exact (St.ps_perm _).append_right _
  have hsr := St.ps_sorted (X.take k)
  generalize hSS : St.ps (X.take k) = SS at *
  rw [hdr] at H
  have e1 : A ++ SS ++ ([x] ++ X.drop (k + 1)) ++ Z = A ++ SS ++ [x] ++ ([] ++ (X.drop (k + 1) ++ Z)) := by simp
  rw [e1] at H
  refine k_seq ?_
  refine k_sg ?_
  refine s_run rfl rfl (rmi rfl) ?_
  refine s_run rfl rfl (rmi rfl) ?_
  refine s_run rfl rfl (r_lssT rfl rfl (by omega)) ?_
  refine k_nc ?_
  refine k_t rfl ?_
  refine k_skip ?_
  refine c_norm ?_
  refine k_seq ?_
  refine k_b ?_
  refine k_sg ?_
  refine s_run rfl rfl (rmi rfl) ?_
  refine s_run rfl rfl (rai rfl) ?_
  refine k_nc ?_
  refine k_b ?_
  refine k_loop (fun z f W => ∃ (S1 S2 : List Q), S1 ++ S2 = SS ∧ z = S1.length ∧ (∀ y ∈ S2, x.2 > y.2) ∧ f 0 = .slice (some ⟨p, 0, none⟩) n c ∧ f 1 = .int .i64 A.length ∧ f 2 = .int .i64 (A.length + X.length : Nat) ∧ f 3 = cmpF ∧ f 8 = .int .i64 (A.length + k : Nat) ∧ f 9 = .int .i64 (A.length + S1.length : Nat) ∧ Heap w I [prow p (A ++ S1 ++ [x] ++ (S2 ++ (X.drop (k + 1) ++ Z))) rs 132] W) SS.length ⟨SS, [], by simp, rfl, by simp, rfl, rfl, rfl, rfl, rfl, by rw [hkl]; rfl, H⟩ ?_
  clear H
  rintro z f W ⟨S1, S2, hS, rfl, hgt, f0, f1, f2, f3, f8, f9, H⟩
  obtain ⟨f, rfl⟩ := live6 f0 f1 f2 f3 f8 f9
  clear f0 f1 f2 f3 f8 f9
  have hfin : ∀ {W2}, (∀ y ∈ S1, ¬ x.2 > y.2) → Heap w I [prow p (A ++ S1 ++ [x] ++ (S2 ++ (X.drop (k + 1) ++ Z))) rs 132] W2 → Heap w I [prow p (A ++ St.ps (X.take (k + 1)) ++ X.drop (k + 1) ++ Z) rs 132] W2 := fun {W2} hno H => by
   have e2 := St.ins_right (y := x) (X1 := S1) (X2 := S2) (by rw [hS]; exact hsr) (by rw [hS]; exact hcr) hno hgt
   rw [hS, hps] at e2
   rw [← e2]
   have e3 : A ++ (S1 ++ [x] ++ S2) ++ X.drop (k + 1) ++ Z = A ++ S1 ++ [x] ++ (S2 ++ (X.drop (k + 1) ++ Z)) := by simp
   rw [e3]; exact H
  by_cases h0 : S1 = []
  ·subst h0
   have hz0 : ([] : List Q).length = 0 := rfl
   refine k_seq ?_
   refine k_seq ?_
   refine k_q mixed (by kernel_rfl) H ?_
   refine q_run rfl rfl (fun _ H => r_mv (v := .int _ _) rfl) ?_
   refine q_run rfl rfl (fun _ H => r_mv (v := .int _ _) rfl) ?_
   refine q_run rfl rfl (fun _ H => r_gtrF rfl rfl (by omega)) ?_
   refine q_run rfl rfl (fun _ H => r_mv (v := .bool _) rfl) ?_
   refine q_off rfl (g_off 21 (by kernel_rfl) rfl rfl) ?_
   refine q_off rfl (g_off 21 (by kernel_rfl) rfl rfl) ?_
   refine q_off rfl (g_off 21 (by kernel_rfl) rfl rfl) ?_
   refine q_off rfl (g_off 21 (by kernel_rfl) rfl rfl) ?_
   refine q_off rfl (g_off 21 (by kernel_rfl) rfl rfl) ?_
   refine q_off rfl (g_off 21 (by kernel_rfl) rfl rfl) ?_
   refine q_off rfl (g_off 21 (by kernel_rfl) rfl rfl) ?_
   refine q_off rfl (g_off 21 (by kernel_rfl) rfl rfl) ?_
   refine q_off rfl (g_off 21 (by kernel_rfl) rfl rfl) ?_
   refine q_off rfl (g_off 21 (by kernel_rfl) rfl rfl) ?_
   refine q_off rfl (g_off 21 (by kernel_rfl) rfl rfl) ?_
   refine q_off rfl (g_off 21 (by kernel_rfl) rfl rfl) ?_
   refine q_run rfl rfl (fun _ H => r_pkF (v := .bool _) rfl rfl) ?_
   refine q_nil ?_
   intro _ H'; clear H; have H := H'; clear H'
   refine c_norm ?_
   refine k_f rfl ?_
   refine k_exit ?_
   refine c_exit ?_
   refine c_exit ?_
   refine b_hit ?_
   refine b_norm ?_
   refine c_norm ?_
   refine k_rg ?_
   refine s_run rfl rfl (rmi rfl) ?_
   refine s_run rfl rfl (r_add rfl rfl (wI (by omega))) ?_
   refine s_run rfl rfl (rai rfl) ?_
   refine k_nil ?_
   refine c_round ?_
   exact ⟨_, _, by omega, rfl, k + 1, by omega, by omega, rfl, rfl, rfl, rfl, rfl, rfl, hfin (by simp) H⟩
  ·obtain ⟨S1', y, rfl⟩ := snoc_of h0
   have hyb := hpb y (by rw [← hS]; simp)
   have hl1 : (S1' ++ [y]).length = S1'.length + 1 := by simp
   have hl2 : (A ++ (S1' ++ [y])).length = A.length + (S1' ++ [y]).length := by simp
   have hl3 : (A ++ S1').length = A.length + S1'.length := by simp
   have hax : (A ++ (S1' ++ [y]) ++ [x] ++ (S2 ++ (X.drop (k + 1) ++ Z)))[A.length + (S1' ++ [y]).length]? = some x := by rw [← hl2]; exact mid_at
   have e4 : A ++ (S1' ++ [y]) ++ [x] ++ (S2 ++ (X.drop (k + 1) ++ Z)) = A ++ S1' ++ [y] ++ [x] ++ (S2 ++ (X.drop (k + 1) ++ Z)) := by simp
   have hay : (A ++ (S1' ++ [y]) ++ [x] ++ (S2 ++ (X.drop (k + 1) ++ Z)))[A.length + S1'.length]? = some y := by
    have e5 : A ++ (S1' ++ [y]) ++ [x] ++ (S2 ++ (X.drop (k + 1) ++ Z)) = A ++ S1' ++ [y] ++ ([x] ++ (S2 ++ (X.drop (k + 1) ++ Z))) := by simp
    rw [e5, ← hl3]; exact mid_at
   have hC := fun (W : World) => zCmp x y W hxb hyb
   have hll : A.length + (S1' ++ [y]).length < n := by
    have h2 := congrArg List.length hS
    rw [List.length_append] at h2
    have h3 : SS.length = k := hkl
    omega
   by_cases hgt2 : x.2 > y.2
   ·refine k_seq ?_
    refine k_seq ?_
    refine k_cut (fun f W => f 0 = .slice (some ⟨p, 0, none⟩) n c ∧ f 1 = .int .i64 A.length ∧ f 2 = .int .i64 (A.length + X.length : Nat) ∧ f 3 = cmpF ∧ f 8 = .int .i64 (A.length + k : Nat) ∧ f 9 = .int .i64 (A.length + (S1' ++ [y]).length : Nat) ∧ f 34 = .bool true ∧ Heap w I [prow p (A ++ (S1' ++ [y]) ++ [x] ++ (S2 ++ (X.drop (k + 1) ++ Z))) rs 132] W) ?_ ?_
    ·refine k_trF mixed ?_; have H' := H.drew; clear H; have H := H'; clear H'
     refine tqn 0 rfl rfl rfl (fun _ hS => r_mv (v := .int _ _) rfl) trivial ?_
     refine tqn 1 rfl rfl rfl (fun _ hS => r_mv (v := .int _ _) rfl) trivial ?_
     refine tqn 2 rfl rfl rfl (fun _ hS => r_gtrT rfl rfl (by omega)) trivial ?_
     refine tqn 3 rfl rfl rfl (fun _ hS => r_mv (v := .bool _) rfl) trivial ?_
     refine tqn 4 rfl rfl (g_on 21 (by kernel_rfl) rfl) (fun _ hS => r_mv (v := .func _ _ _) rfl) trivial ?_
     refine tqn 5 rfl rfl (g_on 21 (by kernel_rfl) rfl) (fun _ hS => r_mv (v := .slice _ _ _) rfl) trivial ?_
     refine tqn 6 rfl rfl (g_on 21 (by kernel_rfl) rfl) (fun _ hS => r_mv (v := .int _ _) rfl) trivial ?_
     refine tqn 7 rfl rfl (g_on 21 (by kernel_rfl) rfl) (fun _ hS => r_ix0 (i := (A.length + (S1' ++ [y]).length)) rfl rfl (by omega) (by omega) Try.underlying129 sz132) trivial ?_
     refine tqn 9 rfl rfl (g_on 21 (by kernel_rfl) rfl) (fun _ hS => r_mv (v := .slice _ _ _) rfl) trivial ?_
     refine tqn 10 rfl rfl (g_on 21 (by kernel_rfl) rfl) (fun _ hS => r_mv (v := .int _ _) rfl) trivial ?_
     refine tqn 11 rfl rfl (g_on 21 (by kernel_rfl) rfl) (fun _ hS => r_sub rfl rfl (wI (by omega))) trivial ?_
     refine tqn 12 rfl rfl (g_on 21 (by kernel_rfl) rfl) (fun _ hS => r_ix0 (i := (A.length + S1'.length)) rfl rfl (by omega) (by omega) Try.underlying129 sz132) trivial ?_
     refine t_up2 8 13 (by kernel_rfl) ?_ ?_
     ·refine up_mk rfl ?_
      refine s_run rfl (g_on 21 (by kernel_rfl) rfl) (r_lP H 0 rfl rfl hax ag132 sz132) ?_
      refine k_nil ?_
      refine t_on trivial ?_
      refine t_up1 13 (by kernel_rfl) ?_
      refine up_mk rfl ?_
      refine s_run rfl (g_on 21 (by kernel_rfl) rfl) (r_lP H 0 rfl rfl hay ag132 sz132) ?_
      refine k_nil ?_
      refine t_on trivial ?_
      refine t_up1 14 (by kernel_rfl) ?_
      refine up_mk rfl ?_
      refine s_callV (g_on 21 (by kernel_rfl) rfl) rfl rfl Try.func96 (by kernel_rfl) (by kernel_rfl) (hC _) ?_
      rintro e W1 ⟨rfl, H'⟩
      refine ⟨_, rfl, ?_⟩
      have H := H.same H'; clear H'
      refine k_nil ?_
      refine t_on trivial ?_
      refine tqn 15 rfl rfl (g_on 21 (by kernel_rfl) rfl) (fun _ hS => r_lssT rfl rfl (by omega)) trivial ?_
      refine tqn 16 rfl rfl rfl (fun _ hS => r_pkT (v := .bool _) rfl rfl) trivial ?_
      refine t_done (by kernel_rfl) ?_
      refine k_met ?_
      exact ⟨rfl, rfl, rfl, rfl, rfl, rfl, rfl, H⟩
     ·refine up_mk rfl ?_
      refine s_run rfl (g_on 21 (by kernel_rfl) rfl) (r_lP H 0 rfl rfl hay ag132 sz132) ?_
      refine k_nil ?_
      refine t_on trivial ?_
      refine t_up1 8 (by kernel_rfl) ?_
      refine up_mk rfl ?_
      refine s_run rfl (g_on 21 (by kernel_rfl) rfl) (r_lP H 0 rfl rfl hax ag132 sz132) ?_
      refine k_nil ?_
      refine t_on trivial ?_
      refine t_up1 14 (by kernel_rfl) ?_
      refine up_mk rfl ?_
      refine s_callV (g_on 21 (by kernel_rfl) rfl) rfl rfl Try.func96 (by kernel_rfl) (by kernel_rfl) (hC _) ?_
      rintro e W1 ⟨rfl, H'⟩
      refine ⟨_, rfl, ?_⟩
      have H := H.same H'; clear H'
      refine k_nil ?_
      refine t_on trivial ?_
      refine tqn 15 rfl rfl (g_on 21 (by kernel_rfl) rfl) (fun _ hS => r_lssT rfl rfl (by omega)) trivial ?_
      refine tqn 16 rfl rfl rfl (fun _ hS => r_pkT (v := .bool _) rfl rfl) trivial ?_
      refine t_done (by kernel_rfl) ?_
      refine k_met ?_
      exact ⟨rfl, rfl, rfl, rfl, rfl, rfl, rfl, H⟩
    clear H
    rintro f W ⟨f0, f1, f2, f3, f8, f9, f34, H⟩
    obtain ⟨f, rfl⟩ := live7S f0 f1 f2 f3 f8 f9 f34
    clear f0 f1 f2 f3 f8 f9 f34
    have hst : ((A ++ (S1' ++ [y]) ++ [x] ++ (S2 ++ (X.drop (k + 1) ++ Z))).set (A.length + (S1' ++ [y]).length) y).set (A.length + S1'.length) x = A ++ S1' ++ [x] ++ ([y] ++ S2 ++ (X.drop (k + 1) ++ Z)) := by
     have := mid_swap (P := A ++ S1') (R := S2 ++ (X.drop (k + 1) ++ Z)) (x := x) (y := y)
     rw [e4, hl1, show A.length + (S1'.length + 1) = (A ++ S1').length + 1 by rw [hl3]; omega, ← hl3, this]; simp
    have hlen2 : (A ++ (S1' ++ [y]) ++ [x] ++ (S2 ++ (X.drop (k + 1) ++ Z))).length > A.length + (S1' ++ [y]).length := by simp only [List.length_append, List.length_cons, List.length_nil]; omega
    refine c_norm ?_
    refine k_t rfl ?_
    refine k_skip ?_
    refine c_norm ?_
    refine k_seq ?_
    refine k_b ?_
    refine k_trF mixed ?_; have H' := H.drew; clear H; have H := H'; clear H'
    refine tqh 0 rfl rfl rfl (fun _ hS => r_mv (v := .slice _ _ _) rfl) trivial ?_
    refine tqh 1 rfl rfl rfl (fun _ hS => r_mv (v := .int _ _) rfl) trivial ?_
    refine tqh 2 rfl rfl rfl (fun _ hS => r_mv (v := .slice _ _ _) rfl) trivial ?_
    refine tqh 3 rfl rfl rfl (fun _ hS => r_mv (v := .int _ _) rfl) trivial ?_
    refine tqh 4 rfl rfl rfl (fun _ hS => r_sub rfl rfl (wI (by omega))) trivial ?_
    refine tqh 5 rfl rfl rfl (fun _ hS => r_mv (v := .slice _ _ _) rfl) trivial ?_
    refine tqh 6 rfl rfl rfl (fun _ hS => r_mv (v := .int _ _) rfl) trivial ?_
    refine tqh 7 rfl rfl rfl (fun _ hS => r_sub rfl rfl (wI (by omega))) trivial ?_
    refine tqh 8 rfl rfl rfl (fun _ hS => r_ix0 (i := (A.length + S1'.length)) rfl rfl (by omega) (by omega) Try.underlying129 sz132) trivial ?_
    refine tqh 10 rfl rfl rfl (fun _ hS => r_mv (v := .slice _ _ _) rfl) trivial ?_
    refine tqh 11 rfl rfl rfl (fun _ hS => r_mv (v := .int _ _) rfl) trivial ?_
    refine tqh 12 rfl rfl rfl (fun _ hS => r_ix0 (i := (A.length + (S1' ++ [y]).length)) rfl rfl (by omega) (by omega) Try.underlying129 sz132) trivial ?_
    refine t_up2 9 13 (by kernel_rfl) ?_ ?_
    ·refine up_mk rfl ?_
     refine s_run rfl rfl (r_lP H 0 rfl rfl hay ag132 sz132) ?_
     refine k_nil ?_
     refine t_on trivial ?_
     refine t_up1 13 (by kernel_rfl) ?_
     refine up_mk rfl ?_
     refine s_run rfl rfl (r_lP H 0 rfl rfl hax ag132 sz132) ?_
     refine k_nil ?_
     refine t_on trivial ?_
     refine tqh 14 rfl rfl rfl (fun _ hS => r_ix0 (i := (A.length + (S1' ++ [y]).length)) rfl rfl (by omega) (by omega) Try.underlying129 sz132) trivial ?_
     refine t_up1 15 (by kernel_rfl) ?_
     refine up_mk rfl ?_
     refine s_sP (q := y) H 0 rfl rfl rfl rfl hlen2 sz132 ?_
     clear H; intro _ H; simp only [jA, jB, jC, jD, jE, jF, jG, jH, jI, jJ, jK, Nat.reduceAdd] at H
     refine k_nil ?_
     refine t_on trivial ?_
     refine tqh 16 rfl rfl rfl (fun _ hS => r_ix0 (i := (A.length + S1'.length)) rfl rfl (by omega) (by omega) Try.underlying129 sz132) trivial ?_
     refine t_up1 17 (by kernel_rfl) ?_
     refine up_mk rfl ?_
     refine s_sP (q := x) H 0 rfl rfl rfl rfl (by rw [List.length_set]; omega) sz132 ?_
     clear H; intro _ H; simp only [jA, jB, jC, jD, jE, jF, jG, jH, jI, jJ, jK, Nat.reduceAdd] at H
     refine k_nil ?_
     refine t_on trivial ?_
     refine t_done (by kernel_rfl) ?_
     refine b_norm ?_
     refine c_norm ?_
     refine k_rg ?_
     refine s_run rfl rfl (rmi rfl) ?_
     refine s_run rfl rfl (r_sub (c := (A.length + S1'.length : Nat)) rfl rfl (wIe (by omega) (by omega))) ?_
     refine s_run rfl rfl (rai rfl) ?_
     refine k_nil ?_
     refine c_round ?_
     rw [hst] at H; exact ⟨S1'.length, _, by omega, rfl, S1', [y] ++ S2, by rw [← hS]; simp, rfl, (fun u hu => by rcases List.mem_append.1 hu with h | h; (rw [List.mem_singleton.1 h]; exact hgt2); exact hgt u h), rfl, rfl, rfl, rfl, rfl, rfl, H⟩
    ·refine up_mk rfl ?_
     refine s_run rfl rfl (r_lP H 0 rfl rfl hax ag132 sz132) ?_
     refine k_nil ?_
     refine t_on trivial ?_
     refine t_up1 9 (by kernel_rfl) ?_
     refine up_mk rfl ?_
     refine s_run rfl rfl (r_lP H 0 rfl rfl hay ag132 sz132) ?_
     refine k_nil ?_
     refine t_on trivial ?_
     refine tqh 14 rfl rfl rfl (fun _ hS => r_ix0 (i := (A.length + (S1' ++ [y]).length)) rfl rfl (by omega) (by omega) Try.underlying129 sz132) trivial ?_
     refine t_up1 15 (by kernel_rfl) ?_
     refine up_mk rfl ?_
     refine s_sP (q := y) H 0 rfl rfl rfl rfl hlen2 sz132 ?_
     clear H; intro _ H; simp only [jA, jB, jC, jD, jE, jF, jG, jH, jI, jJ, jK, Nat.reduceAdd] at H
     refine k_nil ?_
     refine t_on trivial ?_
     refine tqh 16 rfl rfl rfl (fun _ hS => r_ix0 (i := (A.length + S1'.length)) rfl rfl (by omega) (by omega) Try.underlying129 sz132) trivial ?_
     refine t_up1 17 (by kernel_rfl) ?_
     refine up_mk rfl ?_
     refine s_sP (q := x) H 0 rfl rfl rfl rfl (by rw [List.length_set]; omega) sz132 ?_
     clear H; intro _ H; simp only [jA, jB, jC, jD, jE, jF, jG, jH, jI, jJ, jK, Nat.reduceAdd] at H
     refine k_nil ?_
     refine t_on trivial ?_
     refine t_done (by kernel_rfl) ?_
     refine b_norm ?_
     refine c_norm ?_
     refine k_rg ?_
     refine s_run rfl rfl (rmi rfl) ?_
     refine s_run rfl rfl (r_sub (c := (A.length + S1'.length : Nat)) rfl rfl (wIe (by omega) (by omega))) ?_
     refine s_run rfl rfl (rai rfl) ?_
     refine k_nil ?_
     refine c_round ?_
     rw [hst] at H; exact ⟨S1'.length, _, by omega, rfl, S1', [y] ++ S2, by rw [← hS]; simp, rfl, (fun u hu => by rcases List.mem_append.1 hu with h | h; (rw [List.mem_singleton.1 h]; exact hgt2); exact hgt u h), rfl, rfl, rfl, rfl, rfl, rfl, H⟩
   ·refine k_seq ?_
    refine k_seq ?_
    refine k_cut (fun f W => f 0 = .slice (some ⟨p, 0, none⟩) n c ∧ f 1 = .int .i64 A.length ∧ f 2 = .int .i64 (A.length + X.length : Nat) ∧ f 3 = cmpF ∧ f 8 = .int .i64 (A.length + k : Nat) ∧ f 34 = .bool false ∧ Heap w I [prow p (A ++ (S1' ++ [y]) ++ [x] ++ (S2 ++ (X.drop (k + 1) ++ Z))) rs 132] W) ?_ ?_
    ·refine k_trF mixed ?_; have H' := H.drew; clear H; have H := H'; clear H'
     refine tqn 0 rfl rfl rfl (fun _ hS => r_mv (v := .int _ _) rfl) trivial ?_
     refine tqn 1 rfl rfl rfl (fun _ hS => r_mv (v := .int _ _) rfl) trivial ?_
     refine tqn 2 rfl rfl rfl (fun _ hS => r_gtrT rfl rfl (by omega)) trivial ?_
     refine tqn 3 rfl rfl rfl (fun _ hS => r_mv (v := .bool _) rfl) trivial ?_
     refine tqn 4 rfl rfl (g_on 21 (by kernel_rfl) rfl) (fun _ hS => r_mv (v := .func _ _ _) rfl) trivial ?_
     refine tqn 5 rfl rfl (g_on 21 (by kernel_rfl) rfl) (fun _ hS => r_mv (v := .slice _ _ _) rfl) trivial ?_
     refine tqn 6 rfl rfl (g_on 21 (by kernel_rfl) rfl) (fun _ hS => r_mv (v := .int _ _) rfl) trivial ?_
     refine tqn 7 rfl rfl (g_on 21 (by kernel_rfl) rfl) (fun _ hS => r_ix0 (i := (A.length + (S1' ++ [y]).length)) rfl rfl (by omega) (by omega) Try.underlying129 sz132) trivial ?_
     refine tqn 9 rfl rfl (g_on 21 (by kernel_rfl) rfl) (fun _ hS => r_mv (v := .slice _ _ _) rfl) trivial ?_
     refine tqn 10 rfl rfl (g_on 21 (by kernel_rfl) rfl) (fun _ hS => r_mv (v := .int _ _) rfl) trivial ?_
     refine tqn 11 rfl rfl (g_on 21 (by kernel_rfl) rfl) (fun _ hS => r_sub rfl rfl (wI (by omega))) trivial ?_
     refine tqn 12 rfl rfl (g_on 21 (by kernel_rfl) rfl) (fun _ hS => r_ix0 (i := (A.length + S1'.length)) rfl rfl (by omega) (by omega) Try.underlying129 sz132) trivial ?_
     refine t_up2 8 13 (by kernel_rfl) ?_ ?_
     ·refine up_mk rfl ?_
      refine s_run rfl (g_on 21 (by kernel_rfl) rfl) (r_lP H 0 rfl rfl hax ag132 sz132) ?_
      refine k_nil ?_
      refine t_on trivial ?_
      refine t_up1 13 (by kernel_rfl) ?_
      refine up_mk rfl ?_
      refine s_run rfl (g_on 21 (by kernel_rfl) rfl) (r_lP H 0 rfl rfl hay ag132 sz132) ?_
      refine k_nil ?_
      refine t_on trivial ?_
      refine t_up1 14 (by kernel_rfl) ?_
      refine up_mk rfl ?_
      refine s_callV (g_on 21 (by kernel_rfl) rfl) rfl rfl Try.func96 (by kernel_rfl) (by kernel_rfl) (hC _) ?_
      rintro e W1 ⟨rfl, H'⟩
      refine ⟨_, rfl, ?_⟩
      have H := H.same H'; clear H'
      refine k_nil ?_
      refine t_on trivial ?_
      refine tqn 15 rfl rfl (g_on 21 (by kernel_rfl) rfl) (fun _ hS => r_lssF rfl rfl (by omega)) trivial ?_
      refine tqn 16 rfl rfl rfl (fun _ hS => r_pkT (v := .bool _) rfl rfl) trivial ?_
      refine t_done (by kernel_rfl) ?_
      refine k_met ?_
      exact ⟨rfl, rfl, rfl, rfl, rfl, rfl, H⟩
     ·refine up_mk rfl ?_
      refine s_run rfl (g_on 21 (by kernel_rfl) rfl) (r_lP H 0 rfl rfl hay ag132 sz132) ?_
      refine k_nil ?_
      refine t_on trivial ?_
      refine t_up1 8 (by kernel_rfl) ?_
      refine up_mk rfl ?_
      refine s_run rfl (g_on 21 (by kernel_rfl) rfl) (r_lP H 0 rfl rfl hax ag132 sz132) ?_
      refine k_nil ?_
      refine t_on trivial ?_
      refine t_up1 14 (by kernel_rfl) ?_
      refine up_mk rfl ?_
      refine s_callV (g_on 21 (by kernel_rfl) rfl) rfl rfl Try.func96 (by kernel_rfl) (by kernel_rfl) (hC _) ?_
      rintro e W1 ⟨rfl, H'⟩
      refine ⟨_, rfl, ?_⟩
      have H := H.same H'; clear H'
      refine k_nil ?_
      refine t_on trivial ?_
      refine tqn 15 rfl rfl (g_on 21 (by kernel_rfl) rfl) (fun _ hS => r_lssF rfl rfl (by omega)) trivial ?_
      refine tqn 16 rfl rfl rfl (fun _ hS => r_pkT (v := .bool _) rfl rfl) trivial ?_
      refine t_done (by kernel_rfl) ?_
      refine k_met ?_
      exact ⟨rfl, rfl, rfl, rfl, rfl, rfl, H⟩
    clear H
    rintro f W ⟨f0, f1, f2, f3, f8, f34, H⟩
    obtain ⟨f, rfl⟩ := live6 f0 f1 f2 f3 f8 f34
    clear f0 f1 f2 f3 f8 f34
    have hno : ∀ u ∈ S1' ++ [y], ¬ x.2 > u.2 := fun u hu => by
     rcases List.mem_append.1 hu with h | h
     ·have hs2 : (S1' ++ [y] ++ S2).Pairwise St.le := by rw [hS]; exact hsr
      obtain ⟨h3, _, _⟩ := List.pairwise_append.1 hs2
      obtain ⟨_, _, h5⟩ := List.pairwise_append.1 h3
      have := h5 u h y (by simp)
      unfold St.le at this; omega
     ·rw [List.mem_singleton.1 h]; exact hgt2
    refine c_norm ?_
    refine k_f rfl ?_
    refine k_exit ?_
    refine c_exit ?_
    refine c_exit ?_
    refine b_hit ?_
    refine b_norm ?_
    refine c_norm ?_
    refine k_rg ?_
    refine s_run rfl rfl (rmi rfl) ?_
    refine s_run rfl rfl (r_add rfl rfl (wI (by omega))) ?_
    refine s_run rfl rfl (rai rfl) ?_
    refine k_nil ?_
    refine c_round ?_
    exact ⟨_, _, by omega, rfl, k + 1, by omega, by omega, rfl, rfl, rfl, rfl, rfl, rfl, hfin hno H⟩
 ·refine k_seq ?_
  refine k_sg ?_
  refine s_run rfl rfl (rmi rfl) ?_
  refine s_run rfl rfl (rmi rfl) ?_
  refine s_run rfl rfl (r_lssF rfl rfl (by omega)) ?_
  refine k_nc ?_
  refine k_f rfl ?_
  refine k_exit ?_
  refine c_exit ?_
  refine c_exit ?_
  refine b_hit ?_
  refine fin0  rfl ?_
  have e6 : A ++ St.ps (X.take k) ++ X.drop k ++ Z = A ++ St.ps X ++ Z := by rw [List.take_of_length_le (by omega), List.drop_of_length_le (by omega)]; simp
  rw [e6] at H
  exact ⟨rfl, H⟩
end Go.Proofs.Ytlakbclnilakbaa
end
