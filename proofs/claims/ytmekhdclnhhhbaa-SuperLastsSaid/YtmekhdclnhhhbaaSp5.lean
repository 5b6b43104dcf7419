/- Rows that grow, copies, new blocks; a region whose orders are walked one by one. -/
import Derived.Test.YtmekhdclnhhhbaaSp4
import Derived.ArgAppend
import Derived.Deep.RegionHeld
namespace Go.Proofs.Ytmekhdclnhhhbaa
set_option linter.unusedSimpArgs false
set_option linter.unusedVariables false
open Go.RowKit
structure Inf (P : Program) (e : TypeId) (z : Value) (size bytes : Nat) : Prop where
  ex : ∃ i, P.info? e = some i ∧ i.zero = some z ∧ i.size = size ∧ i.bytes = bytes
theorem inf_of {P : Program} {e : TypeId} {z : Value} {size bytes : Nat} (h : (P.info? e).map (fun i => (i.zero, i.size, i.bytes)) = some (some z, size, bytes)) : Inf P e z size bytes := by
  cases hi : P.info? e with
  | none => rw [hi] at h; simp at h
  | some i => rw [hi] at h; simp at h; exact ⟨i, hi, h.1, h.2.1, h.2.2⟩
section
variable {P : Program} {W w0 : World} {F : List Nat} {L : List Ent}
theorem app_run (t ty e : TypeId) {z : Value} {size bytes : Nat} (ht : P.underlying t = some (.slice e)) (hi : Inf P e z size bytes) (hzs : z.cells.size = size) (hsz : 0 < size)
    (v : Value) (n : Nat) (xs : List Value) (hown : W.ownsRow 0 e size v n xs) (a : Addr) (m c : Nat) (news : List Value) (hl : news.length = m * size) (hnews : ∀ j u, news[j]? = some u → W.cell? (a.add j) = some u) (h1 : ∀ u ∈ news, u.oneCell' = true)
    (h63 : n + m ≤ maxLen) (hbytes : (n + m) * bytes ≤ 140737488355328) :
    ∃ v' W', (Builtin.append_ #[t, t] ty #[v, .slice (some a) m c]).run P W = .ok v' W' ∧ W'.ownsRow 0 e size v' (n + m) (xs ++ news) ∧ W.grownBy W' v.ownBlock ∧ (∀ k, v'.ownBlock = some k → v.ownBlock = some k ∨ W.heap.size ≤ k) := by
  obtain ⟨i, hi, hz, hs, hb⟩ := hi.ex
  obtain ⟨v', W', hr, h2, h3, _⟩ := run_append_own (P := P) W 0 t ty e i z size bytes ht hi hz hs hb hzs hsz v n xs hown a m c news hl hnews h1 h63 hbytes (Nat.zero_le _)
  refine ⟨v', W', hr, h2, h3, ?_⟩
  rcases hown.2 with ⟨rfl, rfl⟩ | ⟨g, cap, cur, rfl, _, hg, hnc, hcm, hcs, htake⟩
  · obtain rfl : xs = [] := List.eq_nil_of_length_eq_zero (by simpa using hown.1)
    obtain ⟨v2, W2, hr2, h22, _, _⟩ := run_append_own (P := P) W W.heap.size t ty e i z size bytes ht hi hz hs hb hzs hsz (.slice none 0 0) 0 [] (World.ownsRow_nil W _ e size) a m c news hl hnews h1 h63 hbytes (Nat.le_refl _)
    rw [hr] at hr2
    injection hr2 with e1 e2
    subst e1; subst e2
    exact fun k hk => .inr (h22.lt k hk).1
  · by_cases hroom : n + m ≤ cap
    · have hfit : n * i.size + news.length ≤ cur.size := by rw [hl, hcs, hs, ← Nat.add_mul]; exact Nat.mul_le_mul_right _ hroom
      have hr2 := run_append_room (P := P) W t ty e i ht hi g n cap cur hg a m c news (by rw [hs]; exact hl) hnews h1 hroom hfit
      rw [hr] at hr2
      injection hr2 with e1 e2
      subst e1
      exact fun k hk => .inl hk
    · obtain ⟨v2, W2, hr2, h22, _⟩ := run_append_arg_grows (P := P) W t ty e i z size bytes ht hi hz hs hb hzs hsz ⟨g, 0, none⟩ n cap xs hown.1 (hown.cells (g := g) rfl) a m c news hl hnews (by omega) h63 hbytes
      rw [hr] at hr2
      injection hr2 with e1 e2
      subst e1; subst e2
      exact fun k hk => .inr (h22.lt k hk).1
/-- rows of cells of a size -/
def ownN (size : Nat) (v : Value) (n : Nat) (xs : List Value) (T : TypeId) : Ent :=
  ⟨v.ownBlock.toList, fun W => W.ownsRow 0 T size v n xs, by
    intro W h i hi
    exact (h.lt i (by simpa using hi)).2, by
    intro W W' h hk
    refine ⟨hk.1, ?_⟩
    rcases hk.2 with h1 | ⟨g, cap, cur, rfl, hg, hh, r⟩
    · exact .inl h1
    · refine .inr ⟨g, cap, cur, rfl, hg, ?_, r⟩
      rw [h g (by simp [Value.ownBlock])]; exact hh⟩
theorem nodup_opt (o : Option Nat) : (o.toList).Nodup := by cases o <;> simp
theorem Heap.app {size n m : Nat} {v v' : Value} {xs news : List Value} {T : TypeId} {W' : World} (H : Heap w0 F L W) (j : Nat) (hj : L[j]? = some (ownN size v n xs T)) (h1 : W'.ownsRow 0 T size v' (n + m) (xs ++ news)) (h2 : W.grownBy W' v.ownBlock)
    (h3 : ∀ k, v'.ownBlock = some k → v.ownBlock = some k ∨ W.heap.size ≤ k) : Heap w0 F (L.set j (ownN size v' (n + m) (xs ++ news) T)) W' := by
  refine H.at j hj (F' := v.ownBlock.toList) ⟨?_, ?_, ?_, ?_⟩ (fun i hi => hi)
  · intro E hE; rw [List.mem_singleton.1 hE]; exact h1
  · simp only [ids, ownN, List.flatMap_cons, List.flatMap_nil, List.append_nil]; exact nodup_opt _
  · intro i hi
    simp only [ids, ownN, List.flatMap_cons, List.flatMap_nil, List.append_nil, Option.mem_toList] at hi
    rcases h3 i hi with h | h
    · left; simpa using h
    · exact .inr h
  · exact ⟨h2.os, h2.tape, h2.output, h2.size, fun k hk hf => h2.block k hk (by intro e; apply hf; rw [← e]; simp)⟩
theorem Heap.own_get {size n : Nat} {v : Value} {xs : List Value} {T : TypeId} (H : Heap w0 F L W) (j : Nat) (hj : L[j]? = some (ownN size v n xs T)) : W.ownsRow 0 T size v n xs := H.ok _ (List.mem_of_getElem? hj)
/-- nil is a row of nothing -/
theorem Heap.own_nil (H : Heap w0 F L W) (size : Nat) (T : TypeId) : Heap w0 F (ownN size (.slice none 0 0) 0 [] T :: L) W := by
  refine Heap.more (A := [ownN size (.slice none 0 0) 0 [] T]) H ⟨?_, by simp [ids, ownN, Value.ownBlock], by simp [ids, ownN, Value.ownBlock], Only.refl _ _⟩
  intro E hE; rw [List.mem_singleton.1 hE]; exact World.ownsRow_nil W 0 T size
/-- what a row that grew reads as -/
theorem own_vec {α : Type} {enc : α → Value} {v : Value} {n : Nat} {xs : List α} {T : TypeId} (H : Heap w0 F (ownN 1 v n (xs.map enc) T :: L) W) (hn : 0 < n) :
    ∃ b c, v = .slice (some ⟨b, 0, none⟩) n c ∧ n ≤ c ∧ c ≤ maxLen ∧ Heap w0 F (vec enc b xs T :: L) W := by
  have ho := H.own_get 0 rfl
  rcases ho.2 with ⟨_, h0⟩ | ⟨g, cap, cur, rfl, _, hg, hnc, hcm, hcs, ht⟩
  · omega
  · refine ⟨g, cap, rfl, hnc, hcm, ?_⟩
    have hlen : xs.length = n := by have := ho.1; simpa using this
    refine Heap.step (A := [ownN 1 (.slice (some ⟨g, 0, none⟩) n cap) n (xs.map enc) T]) (A' := [vec enc g xs T]) (F' := [g]) H ⟨?_, ?_, ?_, Only.refl _ _⟩ (by simp [ids, ownN, Value.ownBlock])
    · intro E hE
      rw [List.mem_singleton.1 hE]
      intro _
      refine ⟨cur.toList.drop n, ?_⟩
      rw [hg]
      congr 2
      rw [← ht]
      simp
    · simp [ids, vec]; split <;> simp
    · intro i hi; simp [ids, vec] at hi; left; simp [hi.2]
theorem madeCells_one (z : Value) (n : Nat) (h1 : z.cells = #[z]) : madeCells z.cells n = (List.replicate n z).toArray := by
  apply Array.ext_getElem?
  intro i
  simp only [madeCells, h1, Array.getElem?_map, Array.getElem?_range, List.getElem?_toArray, List.getElem?_replicate]
  by_cases hi : i < n
  · simp [hi, Nat.mod_one]
  · simp [hi]
theorem Heap.made {α : Type} {enc : α → Value} (H : Heap w0 F L W) (n : Nat) (z : α) (T : TypeId) : Heap w0 F (vec enc W.heap.size (List.replicate n z) T :: L) (W.alloc (.cells (List.replicate n (enc z)).toArray T)) :=
  blk_vec enc _ _ [] T (H.alloc (List.replicate n (enc z)) T) (by simp)
theorem Heap.vec_cp {α : Type} {enc : α → Value} (H : Heap w0 F L W) (j : Nat) {b o : Nat} {xs ys : List α} {T : TypeId} (hj : L[j]? = some (vec enc b xs T)) (h0 : xs.length ≠ 0) (hfit : o + ys.length ≤ xs.length) {rest : List Value} (hr : W.heap[b]? = some (.cells (xs.map enc ++ rest).toArray T (0, 0))) :
    Heap w0 F (L.set j (vec enc b (xs.take o ++ (ys ++ xs.drop (o + ys.length))) T)) (W.setRow b (((xs.map enc ++ rest).take o ++ ys.map enc ++ (xs.map enc ++ rest).drop (o + (ys.map enc).length)).toArray)) := by
  have hl : (xs.take o ++ (ys ++ xs.drop (o + ys.length))).length = xs.length := by simp; omega
  refine H.at j hj (F' := [b]) ⟨?_, ?_, ?_, ?_⟩ (by simp [vec, h0])
  · intro E hE
    rw [List.mem_singleton.1 hE]
    intro _
    refine ⟨rest, ?_⟩
    rw [setRow_heap W b _ _ T _ hr]
    congr 2
    simp only [List.map_append, List.map_take, List.map_drop, List.length_map]
    rw [List.take_append_of_le_length (by simp; omega), List.drop_append_of_le_length (by simp; omega)]
    simp [List.append_assoc]
  · simp only [ids, vec, List.flatMap_cons, List.flatMap_nil, List.append_nil]; split <;> simp
  · intro i hi; simp only [ids, vec, List.flatMap_cons, List.flatMap_nil, List.append_nil, hl, h0, if_false] at hi; exact .inl hi
  · exact ⟨rfl, rfl, rfl, by simp [World.setRow], fun k _ hk => setRow_other W b k _ (by intro e; exact hk (by simp [e]))⟩
end
section
variable {P : Program} {ops : Array Oper} {rest : List Oper} {n k k2 : Nat} {f : Nat → Value} {W w0 : World} {F : List Nat} {L : List Ent} {Q : Exit → Act → World → Prop} {ty ty2 : TypeId} {pos pos2 : String} {af af2 : Array Edge} {g : Option (Nat × Bool)} {x y s : Operand} {v u : Value} {t e : TypeId}
/-- make([]T, n) -/
theorem s_mk {α : Type} (enc : α → Value) (z : α) {kl kc : IntKind} {a b : Int} (m : Nat) {bytes : Nat} (H : Heap w0 F L W) (hw : Region.wanted ⟨some k, .makeSlice t x y, ty, pos, af, g⟩ (yl n f ops) = true)
    (hx : ev n f x = .int kl a) (hy : ev n f y = .int kc b) (ha : a = (m : Int)) (hb : b = (m : Int)) (hm : m * bytes ≤ 140737488355328 ∧ m ≤ 9223372036854775807) (ht : P.underlying t = some (.slice e)) (hi : Inf P e (enc z) 1 bytes) (h1 : (enc z).oneCell' = true)
    (h : ∀ p W', Heap w0 F (vec enc p (List.replicate m z) e :: L) W' → SL P ops Q rest n (upd f k (.slice (some ⟨p, 0, none⟩) m m)) W') : SL P ops Q (⟨some k, .makeSlice t x y, ty, pos, af, g⟩ :: rest) n f W := by
  subst ha; subst hb
  obtain ⟨i, hi, hz, hs, hby⟩ := hi.ex
  have hb' : (i.bytes : Int) * (m : Int) ≤ 281474976710656 := by
    have h2 : ((i.bytes * m : Nat) : Int) ≤ 281474976710656 := by rw [hby, Nat.mul_comm]; omega
    rwa [Int.natCast_mul] at h2
  have hr := run_make (P := P) W t e i (enc z) ht hi hz kl kc m m (by omega) (Int.le_refl _) hb' (by omega)
  simp only [Int.toNat_natCast, hs, Nat.mul_one, madeCells_one _ _ (one_cells h1)] at hr
  exact s_run rfl hw (W' := W.alloc (.cells (List.replicate m (enc z)).toArray e)) (by simp only [execOp, hx, hy, Sem.run_bind, hr, Result.andThen_ok]; rfl) (h _ _ (H.made m z e))
/-- &T{..} -/
theorem s_box {cs : List Value} (H : Heap w0 F L W) (hw : Region.wanted ⟨some k, .box t x, ty, pos, af, g⟩ (yl n f ops) = true) (hx : ev n f x = .agg cs.toArray)
    (h : ∀ p W', Heap w0 F (blk p cs t :: L) W' → SL P ops Q rest n (upd f k (.pointer (some ⟨p, 0, none⟩))) W') : SL P ops Q (⟨some k, .box t x, ty, pos, af, g⟩ :: rest) n f W :=
  s_run rfl hw (W' := W.alloc (.cells cs.toArray t)) (by simp only [execOp, hx]; rfl) (h _ _ (H.alloc cs t))
theorem s_box1 (H : Heap w0 F L W) (hw : Region.wanted ⟨some k, .box t x, ty, pos, af, g⟩ (yl n f ops) = true) (hx : ev n f x = u) (h1 : u.oneCell' = true)
    (h : ∀ p W', Heap w0 F (blk p [u] t :: L) W' → SL P ops Q rest n (upd f k (.pointer (some ⟨p, 0, none⟩))) W') : SL P ops Q (⟨some k, .box t x, ty, pos, af, g⟩ :: rest) n f W :=
  s_run rfl hw (W' := W.alloc (.cells [u].toArray t)) (by simp only [execOp, hx, Instr.box, newVar, one_cells h1]; rfl) (h _ _ (H.alloc [u] t))
/-- append(s, y): s the call's own, y one value -/
theorem s_app1 {α : Type} {enc : α → Value} {z0 : Value} {bytes m : Nat} {xs : List α} {z : α} (H : Heap w0 F L W) (j : Nat) (hj : L[j]? = some (ownN 1 v m (xs.map enc) e))
    (hw : Region.wanted ⟨some k, .buildSlice t 1 #[(0, x)], ty, pos, af, g⟩ (yl n f ops) = true) (hx : ev n f x = enc z) (h1 : (enc z).oneCell' = true)
    (hw2 : Region.wanted ⟨some k2, .call ⟨.builtin .append, #[s, .tmp k], #[t, t]⟩, ty2, pos2, af2, g⟩ (yl n (upd f k (.slice (some ⟨W.heap.size, 0, none⟩) 1 1)) ops) = true) (hs : ev n (upd f k (.slice (some ⟨W.heap.size, 0, none⟩) 1 1)) s = v) (hk : Nat.blt k n = true)
    (hm : m + 1 ≤ 100000000000 ∧ (m + 1) * bytes ≤ 140737488355328) (ht : P.underlying t = some (.slice e)) (hi : Inf P e z0 1 bytes) (hz : z0.oneCell' = true)
    (h : ∀ q A c W', Heap w0 F (L.set j (ownN 1 (.slice A (m + 1) c) (m + 1) ((xs ++ [z]).map enc) e)) W' → SL P ops Q rest n (upd (upd f k q) k2 (.slice A (m + 1) c)) W') :
    SL P ops Q (⟨some k, .buildSlice t 1 #[(0, x)], ty, pos, af, g⟩ :: ⟨some k2, .call ⟨.builtin .append, #[s, .tmp k], #[t, t]⟩, ty2, pos2, af2, g⟩ :: rest) n f W := by
  obtain ⟨i, hi0, hz0, hsz, hby⟩ := hi.ex
  have hu := one_cells h1
  have r1 : (Instr.buildSlice t 1 #[(0, enc z)]).run P W = .ok (.slice (some ⟨W.heap.size, 0, none⟩) 1 1) (W.alloc (.cells [enc z].toArray e)) := by
    have hrg : Array.range 1 = #[0] := rfl
    simp [Instr.buildSlice, run_underlying ht, Go.sizeOf, typeInfo, hi0, hsz, zeroValue, hz0, one_cells hz, Instr.fill, hu, newRow, hrg]
  refine s_run rfl hw (W' := W.alloc (.cells [enc z].toArray e)) (v := .slice (some ⟨W.heap.size, 0, none⟩) 1 1) (by simp only [execOp, List.map_toArray, List.map_cons, List.map_nil, hx, Sem.run_bind, r1, Result.andThen_ok]; rfl) ?_
  have H2 := H.alloc [enc z] e
  obtain ⟨v', W2, hr, o1, o2, o3⟩ := app_run (P := P) t ty2 e ht hi (by simp [one_cells hz]) (by omega) v m (xs.map enc) (H2.own_get (j + 1) (by simpa using hj)) ⟨W.heap.size, 0, none⟩ 1 1 [enc z] rfl
    (fun q u hq => by
      rw [add_plain]
      have hc := (Heap.blk_get H2 0 rfl)
      rw [Joins.cell_of_block hc]
      simpa using hq) (by simpa using h1) (by unfold maxLen; omega) hm.2
  have H3 := (H2.app (j + 1) (by simpa using hj) (m := 1) o1 o2 o3)
  rw [List.set_cons_succ] at H3
  obtain ⟨A', c', rfl⟩ : ∃ A c, v' = .slice A (m + 1) c := by
    rcases o1.2 with ⟨rfl, h0⟩ | ⟨g, cap, cur, rfl, _⟩
    · omega
    · exact ⟨_, _, rfl⟩
  have hkk : ev n (upd f k (.slice (some ⟨W.heap.size, 0, none⟩) 1 1)) (.tmp k) = .slice (some ⟨W.heap.size, 0, none⟩) 1 1 := by simp [ev, hk, upd]
  refine s_run rfl hw2 (W' := W2) (v := .slice A' (m + 1) c') (by
    simp only [execOp, resolve, invoke, builtin, List.map_toArray, List.map_cons, List.map_nil, hs, hkk, Sem.run_bind, Sem.run_pure, Result.andThen_ok, hr]) (h _ A' c' W2 ?_)
  have H4 := H3.drop
  rwa [List.map_append]
/-- copy of a piece of a row into a piece of another one -/
theorem s_cp {α : Type} {enc : α → Value} {dst src : Operand} {t1 : TypeId} {p o q r l c1 c2 : Nat} {xs ys : List α} {T T2 : TypeId} (H : Heap w0 F L W) (j i : Nat) (hw : Region.wanted ⟨some k, .call ⟨.builtin .copy, #[dst, src], #[t, t1]⟩, ty, pos, af, g⟩ (yl n f ops) = true)
    (hd : ev n f dst = .slice (some ⟨p, o, none⟩) l c1) (hs : ev n f src = .slice (some ⟨q, r, none⟩) l c2) (hj : L[j]? = some (vec enc p xs T)) (hi : L[i]? = some (vec enc q ys T2)) (h1 : ∀ z, (enc z).oneCell' = true)
    (hfit : o + l ≤ xs.length ∧ r + l ≤ ys.length ∧ 0 < l) (ht : P.underlying t = some (.slice e)) {z0 : Value} {bytes : Nat} (hin : Inf P e z0 1 bytes)
    (h : ∀ W', Heap w0 F (L.set j (vec enc p (xs.take o ++ ((ys.drop r).take l ++ xs.drop (o + l))) T)) W' → SL P ops Q rest n (upd f k (.int .i64 l)) W') : SL P ops Q (⟨some k, .call ⟨.builtin .copy, #[dst, src], #[t, t1]⟩, ty, pos, af, g⟩ :: rest) n f W := by
  obtain ⟨rs, hr⟩ := H.vec_get j hj (by omega)
  obtain ⟨rs2, hr2⟩ := H.vec_get i hi (by omega)
  obtain ⟨ii, hii, _, hsz, _⟩ := hin.ex
  have hlen : ((ys.drop r).take l).length = l := by simp; omega
  have hrun := run_copy_row (P := P) W t t1 ty e p o l c1 ⟨q, r, none⟩ l c2 _ T (((ys.drop r).take l).map enc) ht (by simp [hii, hsz]) hr (by rw [List.length_map, hlen]; simp)
    (fun a u ha => by
      rw [add_plain]
      rw [List.getElem?_map] at ha
      cases hz : ((ys.drop r).take l)[a]? with
      | none => rw [hz] at ha; simp at ha
      | some z =>
        rw [hz] at ha
        have hal : a < l := by have := (List.getElem?_eq_some_iff.1 hz).1; omega
        rw [List.getElem?_take_of_lt hal, List.getElem?_drop] at hz
        rw [vec_cell hr2 hz]; simpa using ha) (by simp only [List.length_map, hlen, List.size_toArray, List.length_append]; omega) (by
      intro u hu
      obtain ⟨z, _, rfl⟩ := List.mem_map.1 hu
      exact h1 z)
  have H2 := H.vec_cp j hj (o := o) (ys := (ys.drop r).take l) (by omega) (by rw [hlen]; omega) hr
  simp only [List.length_map, hlen] at hrun H2
  exact s_run rfl hw (by simp only [execOp, resolve, invoke, builtin, List.map_toArray, List.map_cons, List.map_nil, hd, hs, Sem.run_bind, Sem.run_pure, Result.andThen_ok, hrun]; rfl) (h _ H2)
/-- built values -/
theorem r_bd {parts : Array (Nat × Operand)} {vs : List (Nat × Value)} {cs : List Value} {dst : Option Tmp} (hb : ∀ W, (Instr.build t vs.toArray).run P W = .ok (.agg cs.toArray) W) (hv : parts.toList.map (fun p => (p.1, ev n f p.2)) = vs) :
    (execOp (ev n f) ⟨dst, .build t parts, ty, pos, af, g⟩).run P W = .ok (.value (.agg cs.toArray)) W := by
  subst hv
  have h3 : (parts.map fun p => (p.1, ev n f p.2)) = (parts.toList.map (fun p => (p.1, ev n f p.2))).toArray := by rw [← Array.toList_map]
  have h4 : (parts.map fun | (i, x) => (i, ev n f x)) = (parts.toList.map (fun p => (p.1, ev n f p.2))).toArray := h3
  simp only [execOp, Sem.run_bind]
  rw [h4, hb, Result.andThen_ok]; rfl
end
section
variable {P : Program} {ops : Array Oper} {l : List Oper} {n k id fuel : Nat} {f : Nat → Value} {W : World} {Q : Exit → Act → World → Prop} {v : Value} {o : Oper} {S : World → Prop} {listed : Array Bool}
/-- code whose ends are brought together -/
theorem k_cut {c : Code} (R : (Nat → Value) → World → Prop) (h1 : CW P c (fun e a W => e = .normal ∧ ∃ f', a = Fn n f' ∧ R f' W) n f W) (h2 : ∀ f' W', R f' W' → PQ Q .normal n f' W') : CW P c Q n f W :=
  ⟨Code.wp_mono (by rintro e a W' ⟨rfl, f', rfl, hR⟩; exact (h2 f' W' hR).out) h1.out⟩
theorem k_met {R : (Nat → Value) → World → Prop} (h : R f W) : PQ (fun e a W => e = .normal ∧ ∃ f', a = Fn n f' ∧ R f' W) .normal n f W := ⟨rfl, f, rfl, h⟩
theorem Heap.tree {w0 W : World} {F : List Nat} {L : List Ent} (h : Heap w0 F L W) : Heap W [] [] W.drew := (Heap.nil W).drew
structure TR (P : Program) (ops : Array Oper) (Q : Exit → Act → World → Prop) (S : World → Prop) (fuel : Nat) (listed : Array Bool) (n : Nat) (f : Nat → Value) (W : World) : Prop where
  out : wpAnyH P .any ops Q S fuel listed (Fn n f) W
theorem k_tr (hm : P.follows .mixedOrders = true) (h : TR P l.toArray Q (fun W' => Only [] W W') l.length (Array.replicate l.length false) n f W.drew) : CW P (Code.region id l.toArray true) Q n f W :=
  ⟨wp_region_held hm h.out⟩
/-- the head entry stays -/
theorem k_trK {w0 : World} {F : List Nat} {E : Ent} {L : List Ent} (hm : P.follows .mixedOrders = true) (H : Heap w0 F (E :: L) W) (h : TR P l.toArray Q (fun W' => ∃ L', Heap w0 F (E :: L') W') l.length (Array.replicate l.length false) n f W.drew) : CW P (Code.region id l.toArray true) Q n f W :=
  ⟨wp_region_held hm h.out⟩
theorem k_trF (hm : P.follows .mixedOrders = true) (h : TR P l.toArray Q (fun _ => True) l.length (Array.replicate l.length false) n f W.drew) : CW P (Code.region id l.toArray true) Q n f W :=
  ⟨wp_region_held hm h.out⟩
theorem t_take (i : Nat) (hi : ops[i]? = some o) (hs : Region.noSelect ops = true) (hf : Region.free .any ops listed i = true) (hr : (Region.ready .any ops listed).contains i = true) (hd : o.dst = some k)
    (hQ : ∀ c a w v, Q (.panic c) (a.put o.dst v) w → Q (.panic c) a w) (hw : Region.wanted o (yl n f ops) = true) (hv : ∀ W, S W → (execOp (ev n f) o).run P W = .ok (.value v) W) (hS : S W)
    (h : TR P ops Q S fuel (listed.setIfInBounds i true) n (upd f k v) W) : TR P ops Q S (fuel + 1) listed n f W := by
  have hy : yielded ops (Fn n f).tmps = yl n f ops := funext (yl_eq n f ops)
  refine ⟨wpAnyH_take (v := v) hi hs hf hr (fun c a w => hQ c a w v) (Or.inl ⟨by rw [hy]; exact hw, fun W' hW' => by rw [Fn_eval]; exact hv W' hW'⟩) hS ?_⟩
  rw [hd, Fn_put]; exact h.out
theorem t_off (i : Nat) (hi : ops[i]? = some o) (hs : Region.noSelect ops = true) (hf : Region.free .any ops listed i = true) (hr : (Region.ready .any ops listed).contains i = true) (hd : o.dst = some k)
    (hQ : ∀ c a w v, Q (.panic c) (a.put o.dst v) w → Q (.panic c) a w) (hw : Region.wanted o (yl n f ops) = false) (hS : S W)
    (h : TR P ops Q S fuel (listed.setIfInBounds i true) n (upd f k undef) W) : TR P ops Q S (fuel + 1) listed n f W := by
  have hy : yielded ops (Fn n f).tmps = yl n f ops := funext (yl_eq n f ops)
  refine ⟨wpAnyH_take (v := undef) hi hs hf hr (fun c a w => hQ c a w undef) (Or.inr ⟨by rw [hy]; exact hw, rfl⟩) hS ?_⟩
  rw [hd, Fn_put]; exact h.out
/-- operation i comes up -/
def Up (P : Program) (ops : Array Oper) (Q : Exit → Act → World → Prop) (S : World → Prop) (fuel : Nat) (listed : Array Bool) (n : Nat) (f : Nat → Value) (W : World) (i : Nat) : Prop :=
  wpOp P ops Q i (fun a' w' => S w' ∧ wpAnyH P .any ops Q S fuel (listed.setIfInBounds i true) a' w') (Fn n f) W
theorem up_mk {i : Nat} (hi : ops[i]? = some o) (h : SL P ops (Exit.then (fun a' w' => S w' ∧ wpAnyH P .any ops Q S fuel (listed.setIfInBounds i true) a' w') Q) [o] n f W) : Up P ops Q S fuel listed n f W i := by
  unfold Up wpOp
  rw [hi]
  have h2 := h.out
  unfold wpList at h2
  simp only
  split
  · rename_i hw
    rw [if_pos hw] at h2
    rcases h2 with h2 | h2
    · refine .inl ?_
      unfold Oper.wp at h2 ⊢
      generalize (execOp (Fn n f).eval o).run P W = r at h2 ⊢
      cases r with
      | ok m w' =>
        cases m <;> simp only [Oper.upon] at h2 ⊢ <;> first
          | exact h2
          | exact h2.mono (fun e w'' he => by cases e <;> first | exact he | exact he)
          | exact h2.mono (fun _ _ he => he)
      | halt x w' => cases x <;> simp only [Oper.upon] at h2 ⊢ <;> exact h2
    · exact .inr ⟨h2.1, h2.2⟩
  · rename_i hw
    rw [if_neg hw] at h2
    exact h2
theorem t_up1 (i : Nat) (hr : Region.ready .any ops listed = [i]) (h : Up P ops Q S fuel listed n f W i) : TR P ops Q S (fuel + 1) listed n f W :=
  ⟨wpAnyH_all hr (by simp) (fun j hj => by obtain rfl : j = i := by simpa using hj
                                           exact h)⟩
theorem t_up2 (i i2 : Nat) (hr : Region.ready .any ops listed = [i, i2]) (h : Up P ops Q S fuel listed n f W i) (h2 : Up P ops Q S fuel listed n f W i2) : TR P ops Q S (fuel + 1) listed n f W :=
  ⟨wpAnyH_all hr (by simp) (fun j hj => by
    rcases List.mem_cons.1 hj with rfl | hj
    · exact h
    · obtain rfl : j = i2 := by simpa using hj
      exact h2)⟩
theorem t_up3 (i i2 i3 : Nat) (hr : Region.ready .any ops listed = [i, i2, i3]) (h : Up P ops Q S fuel listed n f W i) (h2 : Up P ops Q S fuel listed n f W i2) (h3 : Up P ops Q S fuel listed n f W i3) : TR P ops Q S (fuel + 1) listed n f W :=
  ⟨wpAnyH_all hr (by simp) (fun j hj => by
    rcases List.mem_cons.1 hj with rfl | hj
    · exact h
    · rcases List.mem_cons.1 hj with rfl | hj
      · exact h2
      · obtain rfl : j = i3 := by simpa using hj
        exact h3)⟩
theorem t_up4 (i i2 i3 i4 : Nat) (hr : Region.ready .any ops listed = [i, i2, i3, i4]) (h : Up P ops Q S fuel listed n f W i) (h2 : Up P ops Q S fuel listed n f W i2) (h3 : Up P ops Q S fuel listed n f W i3) (h4 : Up P ops Q S fuel listed n f W i4) : TR P ops Q S (fuel + 1) listed n f W :=
  ⟨wpAnyH_all hr (by simp) (fun j hj => by
    rcases List.mem_cons.1 hj with rfl | hj
    · exact h
    · rcases List.mem_cons.1 hj with rfl | hj
      · exact h2
      · rcases List.mem_cons.1 hj with rfl | hj
        · exact h3
        · obtain rfl : j = i4 := by simpa using hj
          exact h4)⟩
/-- behind an operation that came up -/
theorem t_on {i : Nat} (hS : S W) (h : TR P ops Q S fuel (listed.setIfInBounds i true) n f W) : PQ (Exit.then (fun a' w' => S w' ∧ wpAnyH P .any ops Q S fuel (listed.setIfInBounds i true) a' w') Q) .normal n f W := ⟨hS, h.out⟩
theorem t_done (hr : Region.ready .any ops listed = []) (h : PQ Q .normal n f W) : TR P ops Q S fuel listed n f W := ⟨wpAnyH_done hr h.out _⟩
end
end Go.Proofs.Ytmekhdclnhhhbaa
