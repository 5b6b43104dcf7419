/- More operations: what is read out of old memory; nil; min and max. -/
import Derived.Test.YtmekhdclnhhhbaaSp5
namespace Go.Proofs.Ytmekhdclnhhhbaa
set_option linter.unusedSimpArgs false
set_option linter.unusedVariables false
open Go.RowKit
/-- rows of one-celled values that are read -/
def Reads {α : Type} (enc : α → Value) (w : World) (b o : Nat) (xs : List α) : Prop := ∀ i z, xs[i]? = some z → w.cell? ⟨b, o + i, none⟩ = some (enc z)
abbrev Cells (w : World) (b o : Nat) (xs : List Int) (k : IntKind) : Prop := Reads (Value.int k) w b o xs
theorem Heap.reads {α : Type} {enc : α → Value} {w0 W : World} {F : List Nat} {L : List Ent} (H : Heap w0 F L W) (j : Nat) {b : Nat} {xs : List α} {T : TypeId} (hj : L[j]? = some (vec enc b xs T)) (o n : Nat) : Reads enc W b o ((xs.drop o).take n) := by
  intro i z hz
  have hi : i < n := by have := (List.getElem?_eq_some_iff.1 hz).1; simp at this; omega
  rw [List.getElem?_take_of_lt hi, List.getElem?_drop] at hz
  have h0 : xs.length ≠ 0 := by have := (List.getElem?_eq_some_iff.1 hz).1; omega
  obtain ⟨rs, hr⟩ := H.vec_get j hj h0
  exact vec_cell hr hz
theorem Heap.reads0 {α : Type} {enc : α → Value} {w0 W : World} {F : List Nat} {L : List Ent} (H : Heap w0 F L W) (j : Nat) {b : Nat} {xs : List α} {T : TypeId} (hj : L[j]? = some (vec enc b xs T)) : Reads enc W b 0 xs := by
  have := H.reads j hj 0 xs.length
  simpa using this
/-- a slice that reads as a list, out of blocks that are not of F; nil, if it is empty -/
def Sees {α : Type} (enc : α → Value) (w : World) (F : List Nat) (A : Option Addr) (xs : List α) : Prop := xs.length ≠ 0 → ∃ b o, A = some ⟨b, o, none⟩ ∧ b ∉ F ∧ Reads enc w b o xs
theorem Sees.nil {α : Type} {enc : α → Value} {w : World} {F : List Nat} {A : Option Addr} : Sees enc w F A ([] : List α) := fun h => absurd rfl h
theorem Reads.later {α : Type} {enc : α → Value} {w W : World} {F : List Nat} {b o : Nat} {xs : List α} (h : Reads enc w b o xs) (hO : Only F w W) (hb : b ∉ F) : Reads enc W b o xs := by
  intro i z hz
  have hc := h i z hz
  rw [World.cell?_of_block (w := w) (hO.block b (cell_lt hc) hb)]; exact hc
theorem Sees.later {α : Type} {enc : α → Value} {w W : World} {F G : List Nat} {A : Option Addr} {xs : List α} (h : Sees enc w F A xs) (hO : Only G w W) (hG : ∀ i ∈ G, i ∈ F) : Sees enc W F A xs := by
  intro h0
  obtain ⟨b, o, e, hb, hr⟩ := h h0
  exact ⟨b, o, e, hb, hr.later hO fun hm => hb (hG b hm)⟩
theorem Sees.mono {α : Type} {enc : α → Value} {w : World} {F G : List Nat} {A : Option Addr} {xs : List α} (h : Sees enc w F A xs) (hG : ∀ i ∈ G, i ∈ F) : Sees enc w G A xs := by
  intro h0
  obtain ⟨b, o, e, hb, hr⟩ := h h0
  exact ⟨b, o, e, fun hm => hb (hG b hm), hr⟩
/-- blocks that are not there yet may be added -/
theorem Sees.news {α : Type} {enc : α → Value} {w : World} {F G : List Nat} {A : Option Addr} {xs : List α} (h : Sees enc w F A xs) (hG : ∀ i ∈ G, i ∈ F ∨ w.heap.size ≤ i) : Sees enc w G A xs := by
  intro h0
  obtain ⟨b, o, e, hb, hr⟩ := h h0
  refine ⟨b, o, e, fun hm => ?_, hr⟩
  rcases hG b hm with h1 | h1
  · exact hb h1
  · have := cell_lt (hr 0 _ (List.getElem?_eq_getElem (by omega)))
    simp at this; omega
theorem own_vec0 {α : Type} {enc : α → Value} {A : Option Addr} {n c : Nat} {xs : List α} {T : TypeId} {w0 W : World} {F : List Nat} {L : List Ent} (H : Heap w0 F (ownN 1 (.slice A n c) n (xs.map enc) T :: L) W) :
    ∃ b, (n ≠ 0 → A = some ⟨b, 0, none⟩) ∧ Heap w0 F (vec enc b xs T :: L) W := by
  have hlen : xs.length = n := by have := (H.own_get 0 rfl).1; simpa using this
  by_cases h0 : 0 < n
  · obtain ⟨b, c2, e1, _, _, H2⟩ := own_vec H h0
    injection e1 with e4
    exact ⟨b, fun _ => e4, H2⟩
  · obtain rfl : n = 0 := by omega
    obtain rfl : xs = [] := List.eq_nil_of_length_eq_zero hlen
    refine ⟨0, fun h => absurd rfl h, ?_⟩
    refine Heap.step (A := [ownN 1 (.slice A 0 c) 0 ([].map enc) T]) (A' := [vec enc 0 [] T]) (F' := []) H ⟨fun E hE => ?_, by simp [ids, vec], by simp [ids, vec], Only.refl _ _⟩ (by simp)
    rw [List.mem_singleton.1 hE]; exact fun h => absurd rfl h
section
variable {P : Program} {n : Nat} {f : Nat → Value} {W : World} {dst : Option Tmp} {ty : TypeId} {pos : String} {af : Array Edge} {g : Option (Nat × Bool)} {x y : Operand} {k : IntKind} {a b : Int} {t t2 e : TypeId}
theorem r_slnil {p : Option Addr} {l c : Nat} (hx : ev n f x = .slice p l c) (hy : ev n f y = .slice none 0 0) (ht : P.underlying t = some (.slice e)) : (execOp (ev n f) ⟨dst, .binOp .eql t x y t2, ty, pos, af, g⟩).run P W = .ok (.value (.bool p.isNone)) W := by
  have h : ∀ d : Nat, (Op.equalIn (d + 1) t (.slice p l c) (.slice none 0 0)).run P W = .ok p.isNone W := fun d => by
    cases p <;> simp [Op.equalIn, run_underlying ht]
  have h2 : (binOp .eql t (.slice p l c) (.slice none 0 0)).run P W = .ok (.bool p.isNone) W := by
    simp only [binOp]
    simp [Op.equal, Op.maxDepth, h 9999]
  have h3 : (eqGuard .eql t x y (.slice p l c) (.slice none 0 0)).run P W = .ok () W := by simp [eqGuard]
  simp only [execOp, hx, hy, Sem.run_bind, h3, h2, Result.andThen_ok]; rfl
theorem r_slnilF {p : Addr} {l c : Nat} (hx : ev n f x = .slice (some p) l c) (hy : ev n f y = .slice none 0 0) (ht : P.underlying t = some (.slice e)) : (execOp (ev n f) ⟨dst, .binOp .eql t x y t2, ty, pos, af, g⟩).run P W = .ok (.value (.bool false)) W := r_slnil hx hy ht
theorem r_slnilT {l c : Nat} (hx : ev n f x = .slice none l c) (hy : ev n f y = .slice none 0 0) (ht : P.underlying t = some (.slice e)) : (execOp (ev n f) ⟨dst, .binOp .eql t x y t2, ty, pos, af, g⟩).run P W = .ok (.value (.bool true)) W := r_slnil hx hy ht
/-- pointers against nil -/
theorem r_ptnil {p : Option Addr} (hx : ev n f x = .pointer p) (hy : ev n f y = .pointer none) {d : TypeId} (ht : P.underlying t = some (.pointer d)) : (execOp (ev n f) ⟨dst, .binOp .eql t x y t2, ty, pos, af, g⟩).run P W = .ok (.value (.bool p.isNone)) W := by
  have h : ∀ d : Nat, (Op.equalIn (d + 1) t (.pointer p) (.pointer none)).run P W = .ok p.isNone W := fun d => by
    cases p <;> simp [Op.equalIn, run_underlying ht]
  have h2 : (binOp .eql t (.pointer p) (.pointer none)).run P W = .ok (.bool p.isNone) W := by
    simp only [binOp]
    simp [Op.equal, Op.maxDepth, h 9999]
  have h3 : (eqGuard .eql t x y (.pointer p) (.pointer none)).run P W = .ok () W := by simp [eqGuard]
  simp only [execOp, hx, hy, Sem.run_bind, h3, h2, Result.andThen_ok]; rfl
theorem r_ptnilF {p : Addr} (hx : ev n f x = .pointer (some p)) (hy : ev n f y = .pointer none) {d : TypeId} (ht : P.underlying t = some (.pointer d)) : (execOp (ev n f) ⟨dst, .binOp .eql t x y t2, ty, pos, af, g⟩).run P W = .ok (.value (.bool false)) W := r_ptnil hx hy ht
theorem r_ptnilT (hx : ev n f x = .pointer none) (hy : ev n f y = .pointer none) {d : TypeId} (ht : P.underlying t = some (.pointer d)) : (execOp (ev n f) ⟨dst, .binOp .eql t x y t2, ty, pos, af, g⟩).run P W = .ok (.value (.bool true)) W := r_ptnil hx hy ht
theorem r_ptnnil {p : Option Addr} (hx : ev n f x = .pointer p) (hy : ev n f y = .pointer none) {d : TypeId} (ht : P.underlying t = some (.pointer d)) : (execOp (ev n f) ⟨dst, .binOp .neq t x y t2, ty, pos, af, g⟩).run P W = .ok (.value (.bool (!p.isNone))) W := by
  have h : ∀ d : Nat, (Op.equalIn (d + 1) t (.pointer p) (.pointer none)).run P W = .ok p.isNone W := fun d => by
    cases p <;> simp [Op.equalIn, run_underlying ht]
  have h2 : (binOp .neq t (.pointer p) (.pointer none)).run P W = .ok (.bool (!p.isNone)) W := by
    simp only [binOp]
    simp [Op.equal, Op.maxDepth, h 9999]
  have h3 : (eqGuard .neq t x y (.pointer p) (.pointer none)).run P W = .ok () W := by simp [eqGuard]
  simp only [execOp, hx, hy, Sem.run_bind, h3, h2, Result.andThen_ok]; rfl
theorem r_ptnnilT {p : Addr} (hx : ev n f x = .pointer (some p)) (hy : ev n f y = .pointer none) {d : TypeId} (ht : P.underlying t = some (.pointer d)) : (execOp (ev n f) ⟨dst, .binOp .neq t x y t2, ty, pos, af, g⟩).run P W = .ok (.value (.bool true)) W := r_ptnnil hx hy ht
end
section
variable {P : Program} {ops : Array Oper} {rest : List Oper} {n k k2 : Nat} {f : Nat → Value} {W w0 : World} {F : List Nat} {L : List Ent} {Q : Exit → Act → World → Prop} {ty ty2 : TypeId} {pos pos2 : String} {af af2 : Array Edge} {g : Option (Nat × Bool)} {x y s : Operand} {v u : Value} {t e : TypeId}
/-- []T{} -/
theorem s_bs0 (size : Nat) (hs0 : 0 < size) {z0 : Value} {bytes : Nat} (H : Heap w0 F L W) (hw : Region.wanted ⟨some k, .buildSlice t 0 #[], ty, pos, af, g⟩ (yl n f ops) = true) (ht : P.underlying t = some (.slice e)) (hi : Inf P e z0 size bytes)
    (h : ∀ p W', Heap w0 F (ownN size (.slice (some ⟨p, 0, none⟩) 0 0) 0 [] e :: L) W' → SL P ops Q rest n (upd f k (.slice (some ⟨p, 0, none⟩) 0 0)) W') : SL P ops Q (⟨some k, .buildSlice t 0 #[], ty, pos, af, g⟩ :: rest) n f W := by
  obtain ⟨i, hi0, hz0, hsz, hby⟩ := hi.ex
  have hrg : Array.range 0 = #[] := rfl
  have r1 : (Instr.buildSlice t 0 #[]).run P W = .ok (.slice (some ⟨W.heap.size, 0, none⟩) 0 0) (W.alloc (.cells #[] e)) := by
    simp [Instr.buildSlice, run_underlying ht, Go.sizeOf, typeInfo, hi0, Instr.fill, newRow, hrg]
  refine s_run rfl hw (W' := W.alloc (.cells #[] e)) (v := .slice (some ⟨W.heap.size, 0, none⟩) 0 0) (by simp only [execOp, List.map_toArray, List.map_nil, Sem.run_bind, r1, Result.andThen_ok]; rfl) (h _ _ ?_)
  refine H.more (A := [ownN size (.slice (some ⟨W.heap.size, 0, none⟩) 0 0) 0 [] e]) ⟨?_, by simp [ids, ownN, Value.ownBlock], by simp [ids, ownN, Value.ownBlock], Only.of_below ((Below.refl _ _).alloc (Nat.le_refl _) _) _⟩
  intro E hE; rw [List.mem_singleton.1 hE]
  exact World.ownsRow_made W #[] 0 (Nat.zero_le _) (by decide) (by simp)
/-- append(s, y...): s the call's own, y is read -/
theorem s_apps {α : Type} {enc : α → Value} {z0 : Value} {bytes m l c : Nat} {A : Option Addr} {xs zs : List α} (H : Heap w0 F L W) (j : Nat) (hj : L[j]? = some (ownN 1 v m (xs.map enc) e))
    (hw : Region.wanted ⟨some k, .call ⟨.builtin .append, #[s, y], #[t, t]⟩, ty, pos, af, g⟩ (yl n f ops) = true) (hs : ev n f s = v) (hy : ev n f y = .slice A l c) (hz : Sees enc w0 F A zs) (hl : zs.length = l) (h1 : ∀ z, (enc z).oneCell' = true)
    (hm : m + l ≤ 100000000000 ∧ (m + l) * bytes ≤ 140737488355328) (ht : P.underlying t = some (.slice e)) (hi : Inf P e z0 1 bytes) (hz0 : z0.oneCell' = true)
    (h : ∀ A' c' W', (v ≠ .slice none 0 0 → ∃ b, A' = some ⟨b, 0, none⟩) → Heap w0 F (L.set j (ownN 1 (.slice A' (m + l) c') (m + l) ((xs ++ zs).map enc) e)) W' → SL P ops Q rest n (upd f k (.slice A' (m + l) c')) W') :
    SL P ops Q (⟨some k, .call ⟨.builtin .append, #[s, y], #[t, t]⟩, ty, pos, af, g⟩ :: rest) n f W := by
  have hown := H.own_get j hj
  obtain ⟨i, hi0, hzz, hsz, hby⟩ := hi.ex
  have key : ∃ v' W', (Builtin.append_ #[t, t] ty #[v, .slice A l c]).run P W = .ok v' W' ∧ W'.ownsRow 0 e 1 v' (m + l) (xs.map enc ++ zs.map enc) ∧ W.grownBy W' v.ownBlock ∧ (∀ k, v'.ownBlock = some k → v.ownBlock = some k ∨ W.heap.size ≤ k) := by
    cases A with
    | some p =>
      by_cases h0 : zs.length = 0
      · obtain rfl : zs = [] := List.eq_nil_of_length_eq_zero h0
        obtain rfl : l = 0 := by simpa using hl.symm
        exact app_run (P := P) t ty e ht hi (by simp [one_cells hz0]) (by omega) v m (xs.map enc) hown p 0 c [] rfl (fun _ _ hq => by simp at hq) (by simp) (by unfold maxLen; omega) hm.2
      · obtain ⟨q, r, e0, hq, hr⟩ := hz h0
        injection e0 with e0
        subst e0
        have hr2 := hr.later H.only hq
        refine app_run (P := P) t ty e ht hi (by simp [one_cells hz0]) (by omega) v m (xs.map enc) hown ⟨q, r, none⟩ l c (zs.map enc) (by simp [hl]) (fun a u ha => ?_) (fun u hu => ?_) (by unfold maxLen; omega) hm.2
        · rw [List.getElem?_map] at ha
          cases hza : zs[a]? with
          | none => rw [hza] at ha; simp at ha
          | some z => rw [hza] at ha; rw [add_plain, hr2 a z hza]; simpa using ha
        · obtain ⟨z, _, rfl⟩ := List.mem_map.1 hu; exact h1 z
    | none =>
      have h0 : zs.length = 0 := by
        rcases Nat.eq_zero_or_pos zs.length with h0 | h0
        · exact h0
        · obtain ⟨q, r, e0, _⟩ := hz (by omega); cases e0
      obtain rfl : zs = [] := List.eq_nil_of_length_eq_zero h0
      obtain rfl : l = 0 := by simpa using hl.symm
      refine ⟨v, W, ?_, by simpa using hown, ⟨rfl, rfl, rfl, Nat.le_refl _, fun _ _ _ => rfl⟩, fun k hk => .inl hk⟩
      rcases hown.2 with ⟨rfl, rfl⟩ | ⟨q, cap, cur, rfl, _, hg, hnc, _⟩
      · simp [Builtin.append_, run_underlying ht, Go.sizeOf, typeInfo, hi0, Builtin.lenOf, Builtin.firstCells]
      · simp [Builtin.append_, run_underlying ht, Go.sizeOf, typeInfo, hi0, Builtin.lenOf, Builtin.firstCells, hnc, storeCells]
  obtain ⟨v', W2, hr, o1, o2, o3⟩ := key
  have H3 := H.app j hj (m := l) o1 o2 o3
  rw [← List.map_append] at H3
  obtain ⟨A', c', rfl, hA'⟩ : ∃ A' c', v' = .slice A' (m + l) c' ∧ (v ≠ .slice none 0 0 → ∃ b, A' = some ⟨b, 0, none⟩) := by
    rcases o1.2 with ⟨rfl, h0⟩ | ⟨q, cap, cur, rfl, _⟩
    · refine ⟨none, 0, by rw [h0], fun hv => ?_⟩
      exfalso
      rcases hown.2 with ⟨h2, _⟩ | ⟨q, cap, cur, rfl, _, hg, hnc, _⟩
      · exact hv h2
      · have h5 : cap < m + l ∨ m + l ≤ cap := by omega
        have hm0 : m = 0 := by omega
        have hl0 : l = 0 := by omega
        subst hm0; subst hl0
        have hr2 : (Builtin.append_ #[t, t] ty #[.slice (some ⟨q, 0, none⟩) 0 cap, .slice A 0 c]).run P W = .ok (.slice (some ⟨q, 0, none⟩) 0 cap) W := by
          have hl2 : ∀ (x : Addr), (loadCells x 0).run P W = .ok #[] W := fun x => by simpa using run_loadCells_list (P := P) W x [] (by simp)
          cases A <;> simp [Builtin.append_, run_underlying ht, Go.sizeOf, typeInfo, hi0, Builtin.lenOf, Builtin.firstCells, storeCells, hl2]
        rw [hr] at hr2
        injection hr2 with e1 e2
        cases e1
    · exact ⟨_, cap, rfl, fun _ => ⟨q, rfl⟩⟩
  exact s_run rfl hw (W' := W2) (by simp only [execOp, resolve, invoke, builtin, List.map_toArray, List.map_cons, List.map_nil, hs, hy, Sem.run_bind, Sem.run_pure, Result.andThen_ok, hr]) (h A' c' W2 hA' H3)
/-- copy(dst, y): y is read, dst has room for all of it -/
theorem s_cpr {α : Type} {enc : α → Value} {dst : Operand} {t1 : TypeId} {p l ld c1 c2 : Nat} {A : Option Addr} {xs zs : List α} {T : TypeId} (H : Heap w0 F L W) (j : Nat) (hw : Region.wanted ⟨some k, .call ⟨.builtin .copy, #[dst, y], #[t, t1]⟩, ty, pos, af, g⟩ (yl n f ops) = true)
    (hd : ev n f dst = .slice (some ⟨p, 0, none⟩) ld c1) (hs : ev n f y = .slice A l c2) (hj : L[j]? = some (vec enc p xs T)) (hz : Sees enc w0 F A zs) (hl : zs.length = l) (h1 : ∀ z, (enc z).oneCell' = true)
    (hfit : l ≤ xs.length ∧ l ≤ ld) (ht : P.underlying t = some (.slice e)) {z0 : Value} {bytes : Nat} (hin : Inf P e z0 1 bytes)
    (h : ∀ W', Heap w0 F (L.set j (vec enc p (zs ++ xs.drop l) T)) W' → SL P ops Q rest n (upd f k (.int .i64 l)) W') : SL P ops Q (⟨some k, .call ⟨.builtin .copy, #[dst, y], #[t, t1]⟩, ty, pos, af, g⟩ :: rest) n f W := by
  obtain ⟨ii, hii, _, hsz, _⟩ := hin.ex
  by_cases h0 : zs.length = 0
  · obtain rfl : zs = [] := List.eq_nil_of_length_eq_zero h0
    obtain rfl : l = 0 := by simpa using hl.symm
    have hrun := run_copy_none (P := P) W t t1 ty e (some ⟨p, 0, none⟩) A ld c1 0 c2 ht (by simp [hii, hsz]) (by simp)
    refine s_run rfl hw (W' := W) (by simp only [execOp, resolve, invoke, builtin, List.map_toArray, List.map_cons, List.map_nil, hd, hs, Sem.run_bind, Sem.run_pure, Result.andThen_ok, hrun]; rfl) (h _ ?_)
    have : L.set j (vec enc p ([] ++ xs.drop 0) T) = L := by
      apply List.ext_getElem?
      intro a
      rw [List.getElem?_set]
      split
      · subst_vars
        split
        · simp [hj]
        · rename_i h2; rw [List.getElem?_eq_none (by omega)]
      · rfl
    rw [this]; exact H
  · obtain ⟨q, r, rfl, hq, hr⟩ := hz h0
    have hr2 := hr.later H.only hq
    obtain ⟨rs, hrs⟩ := H.vec_get j hj (by omega)
    have hrun := run_copy_row (P := P) W t t1 ty e p 0 ld c1 ⟨q, r, none⟩ l c2 _ T (zs.map enc) ht (by simp [hii, hsz]) hrs (by rw [List.length_map, hl]; exact (Nat.min_eq_left hfit.2).symm)
      (fun a u ha => by
        rw [List.getElem?_map] at ha
        cases hza : zs[a]? with
        | none => rw [hza] at ha; simp at ha
        | some z => rw [hza] at ha; rw [add_plain, hr2 a z hza]; simpa using ha) (by simp; omega) (fun u hu => by
        obtain ⟨z, _, rfl⟩ := List.mem_map.1 hu; exact h1 z)
    have H2 := H.vec_cp j hj (o := 0) (ys := zs) (by omega) (by omega) hrs
    simp only [List.length_map, hl, Nat.zero_add, List.take_zero, List.nil_append] at hrun H2
    exact s_run rfl hw (by simp only [execOp, resolve, invoke, builtin, List.map_toArray, List.map_cons, List.map_nil, hd, hs, Sem.run_bind, Sem.run_pure, Result.andThen_ok, hrun]; rfl) (h _ H2)
/-- copy(dst, y): into the middle of a row -/
theorem s_cpo {α : Type} {enc : α → Value} {dst : Operand} {t1 : TypeId} {p o q r l c1 c2 : Nat} {xs zs : List α} {T : TypeId} (H : Heap w0 F L W) (j : Nat) (hw : Region.wanted ⟨some k, .call ⟨.builtin .copy, #[dst, y], #[t, t1]⟩, ty, pos, af, g⟩ (yl n f ops) = true)
    (hd : ev n f dst = .slice (some ⟨p, o, none⟩) l c1) (hs : ev n f y = .slice (some ⟨q, r, none⟩) l c2) (hj : L[j]? = some (vec enc p xs T)) (hr : Reads enc w0 q r zs) (hq : q ∉ F) (hl : zs.length = l) (h1 : ∀ z, (enc z).oneCell' = true)
    (hfit : o + l ≤ xs.length ∧ 0 < l) (ht : P.underlying t = some (.slice e)) {z0 : Value} {bytes : Nat} (hin : Inf P e z0 1 bytes)
    (h : ∀ W', Heap w0 F (L.set j (vec enc p (xs.take o ++ (zs ++ xs.drop (o + l))) T)) W' → SL P ops Q rest n (upd f k (.int .i64 l)) W') : SL P ops Q (⟨some k, .call ⟨.builtin .copy, #[dst, y], #[t, t1]⟩, ty, pos, af, g⟩ :: rest) n f W := by
  obtain ⟨ii, hii, _, hsz, _⟩ := hin.ex
  have hr2 := hr.later H.only hq
  obtain ⟨rs, hrs⟩ := H.vec_get j hj (by omega)
  have hrun := run_copy_row (P := P) W t t1 ty e p o l c1 ⟨q, r, none⟩ l c2 _ T (zs.map enc) ht (by simp [hii, hsz]) hrs (by rw [List.length_map, hl]; simp)
    (fun a u ha => by
      rw [List.getElem?_map] at ha
      cases hza : zs[a]? with
      | none => rw [hza] at ha; simp at ha
      | some z => rw [hza] at ha; rw [add_plain, hr2 a z hza]; simpa using ha) (by simp; omega) (fun u hu => by
      obtain ⟨z, _, rfl⟩ := List.mem_map.1 hu; exact h1 z)
  have H2 := H.vec_cp j hj (o := o) (ys := zs) (by omega) (by omega) hrs
  simp only [List.length_map, hl] at hrun H2
  exact s_run rfl hw (by simp only [execOp, resolve, invoke, builtin, List.map_toArray, List.map_cons, List.map_nil, hd, hs, Sem.run_bind, Sem.run_pure, Result.andThen_ok, hrun]; rfl) (h _ H2)
end
end Go.Proofs.Ytmekhdclnhhhbaa
