/- Memory as a list of entries, each with the blocks it lies in. -/
import Derived.Test.YtmekhdclnhhhbaaSp
import Derived.Test.YtmekhdclnhhhbaaOwn
namespace Go.Proofs.Ytmekhdclnhhhbaa
set_option linter.unusedSimpArgs false
set_option linter.unusedVariables false
open Go.RowKit
/-- what is known of some blocks -/
structure Ent where
  ids : List Nat
  ok : World → Prop
  lt : ∀ W, ok W → ∀ i ∈ ids, i < W.heap.size
  loc : ∀ W W' : World, (∀ i ∈ ids, W'.heap[i]? = W.heap[i]?) → ok W → ok W'
def ids (L : List Ent) : List Nat := L.flatMap Ent.ids
theorem ids_append (A B : List Ent) : ids (A ++ B) = ids A ++ ids B := by simp [ids]
theorem ids_cons (E : Ent) (B : List Ent) : ids (E :: B) = E.ids ++ ids B := by simp [ids]
theorem mem_ids {L : List Ent} {i : Nat} : i ∈ ids L ↔ ∃ E ∈ L, i ∈ E.ids := by simp [ids, List.mem_flatMap]
/-- only the blocks of F, and new ones, may have changed -/
structure Only (F : List Nat) (w w' : World) : Prop where
  os : w'.os = w.os
  tape : w'.tape = w.tape
  output : w'.output = w.output
  size : w.heap.size ≤ w'.heap.size
  block : ∀ k, k < w.heap.size → k ∉ F → w'.heap[k]? = w.heap[k]?
theorem Only.refl (F : List Nat) (w : World) : Only F w w := ⟨rfl, rfl, rfl, Nat.le_refl _, fun _ _ _ => rfl⟩
theorem Only.trans {F : List Nat} {a b c : World} (h : Only F a b) (k : Only F b c) : Only F a c :=
  ⟨k.os.trans h.os, k.tape.trans h.tape, k.output.trans h.output, Nat.le_trans h.size k.size, fun i hi hf => (k.block i (Nat.lt_of_lt_of_le hi h.size) hf).trans (h.block i hi hf)⟩
theorem Only.mono {F F' : List Nat} {a b : World} (h : Only F a b) (hs : ∀ i ∈ F, i ∈ F') : Only F' a b :=
  ⟨h.os, h.tape, h.output, h.size, fun k hk hf => h.block k hk fun hm => hf (hs k hm)⟩
theorem Only.of_below {w w' : World} (h : Below w.heap.size w w') (F : List Nat) : Only F w w' := ⟨h.os, h.tape, h.output, h.size, fun k hk _ => h.block k hk⟩
theorem Only.below {w w' : World} (h : Only [] w w') : Below w.heap.size w w' := ⟨h.os, h.tape, h.output, h.size, fun k hk => h.block k hk (by simp)⟩
def Ents (A : List Ent) (W : World) : Prop := (∀ E ∈ A, E.ok W) ∧ (ids A).Nodup
structure Heap (w0 : World) (F : List Nat) (L : List Ent) (W : World) : Prop where
  ok : ∀ E ∈ L, E.ok W
  nd : (ids L).Nodup
  own : ∀ i ∈ ids L, i ∈ F ∨ w0.heap.size ≤ i
  only : Only F w0 W
theorem Heap.ents {w0 W : World} {F : List Nat} {L : List Ent} (h : Heap w0 F L W) : Ents L W := ⟨h.ok, h.nd⟩
theorem Heap.start {L : List Ent} {w : World} (h : Ents L w) : Heap w (ids L) L w := ⟨h.1, h.2, fun _ hi => .inl hi, Only.refl _ _⟩
theorem Heap.nil (w : World) : Heap w [] [] w := ⟨by simp, by simp [ids], by simp [ids], Only.refl _ _⟩
theorem Heap.idlt {w0 W : World} {F : List Nat} {L : List Ent} (h : Heap w0 F L W) : ∀ i ∈ ids L, i < W.heap.size := by
  intro i hi
  obtain ⟨E, hE, hm⟩ := mem_ids.1 hi
  exact E.lt W (h.ok E hE) i hm
theorem Ents.part {A L : List Ent} {W : World} (h : Ents (A ++ L) W) : Ents A W :=
  ⟨fun E hE => h.1 E (List.mem_append_left _ hE), by have := h.2; rw [ids_append] at this; exact (List.nodup_append.1 this).1⟩
theorem Heap.part {w0 W : World} {F : List Nat} {A L : List Ent} (h : Heap w0 F (A ++ L) W) : Ents A W := h.ents.part
/-- a piece of the memory, and what is known of it, is replaced -/
theorem Heap.step {w0 W W' : World} {F F' : List Nat} {A A' L : List Ent} (h : Heap w0 F (A ++ L) W) (h' : Heap W F' A' W') (hF : ∀ i ∈ F', i ∈ ids A) : Heap w0 F (A' ++ L) W' := by
  have hlt := h.idlt
  have hnd := h.nd
  rw [ids_append] at hnd hlt
  obtain ⟨nA, nL, dis⟩ := List.nodup_append.1 hnd
  have hA : ∀ i ∈ ids L, i ∉ F' := fun i hi hf => dis i (hF i hf) i hi rfl
  refine ⟨fun E hE => ?_, ?_, fun i hi => ?_, ?_⟩
  · rcases List.mem_append.1 hE with h1 | h1
    · exact h'.ok E h1
    · refine E.loc W W' (fun i hi => ?_) (h.ok E (List.mem_append_right _ h1))
      have hm : i ∈ ids L := mem_ids.2 ⟨E, h1, hi⟩
      exact h'.only.block i (hlt i (List.mem_append_right _ hm)) (hA i hm)
  · rw [ids_append]
    refine List.nodup_append.2 ⟨h'.nd, nL, fun a ha b hb hab => ?_⟩
    subst hab
    rcases h'.own a ha with h1 | h1
    · exact hA a hb h1
    · have := hlt a (List.mem_append_right _ hb); omega
  · rw [ids_append] at hi
    rcases List.mem_append.1 hi with h1 | h1
    · rcases h'.own i h1 with h2 | h2
      · exact h.own i (by rw [ids_append]; exact List.mem_append_left _ (hF i h2))
      · exact .inr (Nat.le_trans h.only.size h2)
    · exact h.own i (by rw [ids_append]; exact List.mem_append_right _ h1)
  · refine ⟨h'.only.os.trans h.only.os, h'.only.tape.trans h.only.tape, h'.only.output.trans h.only.output, Nat.le_trans h.only.size h'.only.size, fun k hk hf => ?_⟩
    rw [h'.only.block k (Nat.lt_of_lt_of_le hk h.only.size) ?_]
    · exact h.only.block k hk hf
    · intro hm
      rcases h.own k (by rw [ids_append]; exact List.mem_append_left _ (hF k hm)) with h1 | h1
      · exact hf h1
      · omega
theorem perm_ids {L L' : List Ent} (h : L.Perm L') : (ids L).Perm (ids L') := by
  induction h with
  | nil => exact .refl _
  | cons x _ ih => rw [ids_cons, ids_cons]; exact ih.append_left _
  | swap x y l =>
    rw [ids_cons, ids_cons, ids_cons, ids_cons, ← List.append_assoc, ← List.append_assoc]
    exact List.perm_append_comm.append_right _
  | trans _ _ a b => exact a.trans b
theorem Heap.perm {w0 W : World} {F : List Nat} {L L' : List Ent} (h : Heap w0 F L W) (hp : L.Perm L') : Heap w0 F L' W :=
  ⟨fun E hE => h.ok E (hp.mem_iff.2 hE), (perm_ids hp).nodup_iff.1 h.nd, fun i hi => h.own i ((perm_ids hp).mem_iff.2 hi), h.only⟩
theorem pick_perm {α : Type _} : ∀ (L : List α) (k : Nat) (h : k < L.length), L.Perm (L[k] :: L.eraseIdx k)
  | a :: l, 0, _ => .refl _
  | a :: l, k + 1, h => by
    have := pick_perm l k (by simpa using h)
    exact (this.cons a).trans (.swap _ _ _)
/-- the k-th entry to the head -/
theorem Heap.pick {w0 W : World} {F : List Nat} {L : List Ent} (h : Heap w0 F L W) (k : Nat) {E : Ent} (hk : L[k]? = some E) : Heap w0 F (E :: L.eraseIdx k) W := by
  refine h.perm ?_
  obtain ⟨hlt, rfl⟩ := List.getElem?_eq_some_iff.1 hk
  exact pick_perm L k hlt
/-- the k-th entry is put back where it was -/
theorem Heap.back {w0 W : World} {F : List Nat} {L : List Ent} {E : Ent} (k : Nat) (h : Heap w0 F (E :: L.eraseIdx k) W) (hk : k < L.length) : Heap w0 F (L.set k E) W := by
  refine h.perm ?_
  have : (L.set k E).eraseIdx k = L.eraseIdx k := by
    apply List.ext_getElem?
    intro i
    simp only [List.getElem?_eraseIdx, List.getElem?_set]
    split
    · rw [if_neg (by omega)]
    · rw [if_neg (by omega)]
  rw [← this]
  have h2 := pick_perm (L.set k E) k (by simpa using hk)
  rw [List.getElem_set_self] at h2
  exact h2.symm
theorem Heap.drop {w0 W : World} {F : List Nat} {E : Ent} {L : List Ent} (h : Heap w0 F (E :: L) W) : Heap w0 F L W := by
  have hnd := h.nd
  rw [ids_cons] at hnd
  exact ⟨fun X hX => h.ok X (List.mem_cons_of_mem _ hX), (List.nodup_append.1 hnd).2.1, fun i hi => h.own i (by rw [ids_cons]; exact List.mem_append_right _ hi), h.only⟩
theorem Heap.drops {w0 W : World} {F : List Nat} {A L : List Ent} (h : Heap w0 F (A ++ L) W) : Heap w0 F A W := by
  have hnd := h.nd
  rw [ids_append] at hnd
  exact ⟨fun X hX => h.ok X (List.mem_append_left _ hX), (List.nodup_append.1 hnd).1, fun i hi => h.own i (by rw [ids_append]; exact List.mem_append_left _ hi), h.only⟩
theorem Heap.clear {w0 W : World} {F : List Nat} {L : List Ent} (h : Heap w0 F L W) : Heap w0 F [] W := ⟨by simp, by simp [ids], by simp [ids], h.only⟩
theorem Heap.below {w0 W : World} {L : List Ent} (h : Heap w0 [] L W) : Below w0.heap.size w0 W := h.only.below
/-- the k-th entry is replaced, by what changes its blocks alone -/
theorem Heap.at {w0 W W' : World} {F F' : List Nat} {L : List Ent} (h : Heap w0 F L W) (k : Nat) {E E' : Ent} (hk : L[k]? = some E) (h' : Heap W F' [E'] W') (hF : ∀ i ∈ F', i ∈ E.ids) : Heap w0 F (L.set k E') W' := by
  obtain ⟨hlt, _⟩ := List.getElem?_eq_some_iff.1 hk
  have h1 : Heap w0 F ([E] ++ L.eraseIdx k) W := h.pick k hk
  exact (h1.step h' (by simpa [ids] using hF)).back k hlt
theorem Heap.whole {w0 W W' : World} {F : List Nat} {A A' : List Ent} (h : Heap w0 F A W) (h' : Heap W (ids A) A' W') : Heap w0 F A' W' := by
  have := Heap.step (L := []) (by simpa using h) h' (fun _ hi => hi)
  simpa using this
/-- a call that makes memory alone -/
theorem Heap.more {w0 W W' : World} {F : List Nat} {A L : List Ent} (h : Heap w0 F L W) (h' : Heap W [] A W') : Heap w0 F (A ++ L) W' := Heap.step (A := []) (by simpa using h) h' (by simp)
theorem Heap.same {w0 W W' : World} {F : List Nat} {L : List Ent} (h : Heap w0 F L W) (h' : Only [] W W') : Heap w0 F L W' := h.more (A := []) ⟨by simp, by simp [ids], by simp [ids], h'⟩
theorem Heap.drew {w0 W : World} {F : List Nat} {L : List Ent} (h : Heap w0 F L W) : Heap w0 F L W.drew := h.same ⟨rfl, rfl, rfl, Nat.le_refl _, fun _ _ _ => rfl⟩
/-! entries -/
theorem arr_lt {α : Type} {a : Array α} {i : Nat} {x : α} (h : a[i]? = some x) : i < a.size := (Array.getElem?_eq_some_iff.1 h).1
/-- a block known whole -/
def blk (b : Nat) (cs : List Value) (T : TypeId) : Ent :=
  ⟨[b], fun W => W.heap[b]? = some (.cells cs.toArray T (0, 0)), fun W h i hi => by rw [List.mem_singleton.1 hi]; exact arr_lt h, fun W W' h hk => by rw [h b (by simp)]; exact hk⟩
/-- a row at the head of block b, xs in its first cells (nothing is said of an empty one) -/
def vec {α : Type} (enc : α → Value) (b : Nat) (xs : List α) (T : TypeId) : Ent :=
  ⟨if xs.length = 0 then [] else [b], fun W => xs.length ≠ 0 → ∃ rest : List Value, W.heap[b]? = some (.cells (xs.map enc ++ rest).toArray T (0, 0)), by
    intro W h i hi
    by_cases h0 : xs.length = 0
    · rw [if_pos h0] at hi; simp at hi
    · rw [if_neg h0] at hi
      obtain ⟨r, hr⟩ := h h0
      rw [List.mem_singleton.1 hi]; exact arr_lt hr, by
    intro W W' h hk h0
    rw [h b (by rw [if_neg h0]; simp)]; exact hk h0⟩
/-- a row of the call's own, that may be appended to -/
def own (v : Value) (xs : List Value) (T : TypeId) : Ent :=
  ⟨v.ownBlock.toList, fun W => W.ownsRow 0 T 1 v xs.length xs, by
    intro W h i hi
    exact (h.lt i (by simpa using hi)).2, by
    intro W W' h hk
    refine ⟨hk.1, ?_⟩
    rcases hk.2 with h1 | ⟨g, cap, cur, rfl, hg, hh, r⟩
    · exact .inl h1
    · refine .inr ⟨g, cap, cur, rfl, hg, ?_, r⟩
      rw [h g (by simp [Value.ownBlock])]; exact hh⟩
theorem Heap.blk_get {w0 W : World} {F : List Nat} {L : List Ent} (h : Heap w0 F L W) (j : Nat) {b : Nat} {cs : List Value} {T : TypeId} (hj : L[j]? = some (blk b cs T)) : W.heap[b]? = some (.cells cs.toArray T (0, 0)) :=
  h.ok _ (List.mem_of_getElem? hj)
theorem Heap.vec_get {α : Type} {enc : α → Value} {w0 W : World} {F : List Nat} {L : List Ent} (h : Heap w0 F L W) (j : Nat) {b : Nat} {xs : List α} {T : TypeId} (hj : L[j]? = some (vec enc b xs T)) (h0 : xs.length ≠ 0) :
    ∃ rest : List Value, W.heap[b]? = some (.cells (xs.map enc ++ rest).toArray T (0, 0)) := h.ok _ (List.mem_of_getElem? hj) h0
theorem vec_cell {α : Type} {enc : α → Value} {W : World} {b : Nat} {xs : List α} {T : TypeId} {rest : List Value} (h : W.heap[b]? = some (.cells (xs.map enc ++ rest).toArray T (0, 0))) {i : Nat} {x : α} (hx : xs[i]? = some x) : W.cell? ⟨b, i, none⟩ = some (enc x) := by
  rw [Joins.cell_of_block h]
  have hi : i < xs.length := (List.getElem?_eq_some_iff.1 hx).1
  simp only [List.getElem?_toArray]
  rw [List.getElem?_append_left (by simpa using hi), List.getElem?_map, hx]; rfl
theorem heap_set {W : World} {b i : Nat} {cs : List Value} {T : TypeId} {u : Value} (h : W.heap[b]? = some (.cells cs.toArray T (0, 0))) : (W.setCell ⟨b, i, none⟩ u).heap[b]? = some (.cells (cs.set i u).toArray T (0, 0)) := by
  have := heap_setCell_same W b i cs.toArray T u h
  rw [this]; simp
theorem only_set (W : World) (b i : Nat) (u : Value) : Only [b] W (W.setCell ⟨b, i, none⟩ u) :=
  ⟨rfl, rfl, rfl, by simp [World.setCell], fun k hk hf => Below.heap_setCell _ _ _ _ (by intro e; exact hf (by simp [e]))⟩
theorem Heap.blk_set {w0 W : World} {F : List Nat} {L : List Ent} (h : Heap w0 F L W) (j : Nat) {b i : Nat} {cs : List Value} {T : TypeId} {u : Value} (hj : L[j]? = some (blk b cs T)) : Heap w0 F (L.set j (blk b (cs.set i u) T)) (W.setCell ⟨b, i, none⟩ u) := by
  refine h.at j hj (F' := [b]) ⟨?_, by simp [ids, blk], by simp [ids, blk], only_set W b i u⟩ (by simp [blk])
  intro E hE
  rw [List.mem_singleton.1 hE]
  exact heap_set (h.blk_get j hj)
theorem Heap.vec_set {α : Type} {enc : α → Value} {w0 W : World} {F : List Nat} {L : List Ent} (h : Heap w0 F L W) (j : Nat) {b i : Nat} {xs : List α} {T : TypeId} {x : α} (hj : L[j]? = some (vec enc b xs T)) (hi : i < xs.length) : Heap w0 F (L.set j (vec enc b (xs.set i x) T)) (W.setCell ⟨b, i, none⟩ (enc x)) := by
  have h0 : xs.length ≠ 0 := by omega
  refine h.at j hj (F' := [b]) ⟨?_, by simp [ids, vec, h0], by simp [ids, vec, h0], only_set W b i _⟩ (by simp [vec, h0])
  intro E hE
  rw [List.mem_singleton.1 hE]
  intro _
  obtain ⟨rest, hr⟩ := h.vec_get j hj h0
  refine ⟨rest, ?_⟩
  rw [heap_set hr]
  congr 2
  rw [List.set_append_left _ _ (by simpa using hi)]
  simp
/-- a new block -/
theorem Heap.alloc {w0 W : World} {F : List Nat} {L : List Ent} (h : Heap w0 F L W) (cs : List Value) (T : TypeId) : Heap w0 F (blk W.heap.size cs T :: L) (W.alloc (.cells cs.toArray T)) := by
  refine h.more (A := [blk W.heap.size cs T]) ⟨?_, by simp [ids, blk], by simp [ids, blk], ?_⟩
  · intro E hE
    rw [List.mem_singleton.1 hE]
    exact heap_alloc_new W _
  · exact Only.of_below ((Below.refl _ _).alloc (Nat.le_refl _) _) _
theorem blk_vec {α : Type} (enc : α → Value) (b : Nat) (xs : List α) (rest : List Value) (T : TypeId) {w0 W : World} {F : List Nat} {L : List Ent} {cs : List Value} (h : Heap w0 F (blk b cs T :: L) W) (hc : cs = xs.map enc ++ rest) : Heap w0 F (vec enc b xs T :: L) W := by
  subst hc
  refine Heap.step (A := [blk b (xs.map enc ++ rest) T]) h (A' := [vec enc b xs T]) (F' := [b]) ⟨?_, ?_, ?_, Only.refl _ _⟩ (by simp [ids, blk])
  · intro E hE
    rw [List.mem_singleton.1 hE]
    exact fun _ => ⟨rest, h.ok (blk b (xs.map enc ++ rest) T) (by simp)⟩
  · simp [ids, vec]; split <;> simp
  · intro i hi; simp [ids, vec] at hi; left; simp [hi.2]
end Go.Proofs.Ytmekhdclnhhhbaa
