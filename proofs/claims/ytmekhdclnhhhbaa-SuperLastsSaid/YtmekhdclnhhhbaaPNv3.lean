/- Plain: what was persisted lasts through every crash. -/
import Derived.Test.YtmekhdclnhhhbaaPNv
namespace Go.Proofs.Ytmekhdclnhhhbaa.Nv
set_option linter.unusedSimpArgs false
set_option linter.unusedVariables false
theorem getD_set {α : Type} (l : List α) (i j : Nat) (v z : α) (hi : i < l.length) : (l.set i v).getD j z = if i = j then v else l.getD j z := by
  simp only [List.getD, List.getElem?_set]
  split
  · subst_vars; simp [hi]
  · rfl
theorem getD_part (c : List Int) (i r : Nat) (hr : r < 8) : (part c i).getD r 0 = c.getD (8 * i + r) 0 := by
  unfold part
  simp only [List.getD]
  rw [List.getElem?_take_of_lt hr, List.getElem?_drop]
theorem getD_setPart (l c : List Int) (i x : Nat) (hl : 8 * i + 8 ≤ l.length) (hc : 8 * i + 8 ≤ c.length) : (setPart l i (part c i)).getD x 0 = if x / 8 = i then c.getD x 0 else l.getD x 0 := by
  have hp : (part c i).length = 8 := length_part hc
  unfold setPart
  by_cases h1 : x < 8 * i
  · rw [if_neg (by omega)]
    simp only [List.getD]
    rw [List.append_assoc, List.getElem?_append_left (by simp; omega), List.getElem?_take_of_lt h1]
  · by_cases h2 : x < 8 * i + 8
    · rw [if_pos (by omega)]
      have := getD_part c i (x - 8 * i) (by omega)
      rw [show 8 * i + (x - 8 * i) = x by omega] at this
      rw [← this]
      simp only [List.getD]
      rw [List.getElem?_append_left (by simp [hp]; omega), List.getElem?_append_right (by simp; omega)]
      simp only [List.length_take]
      rw [show min (8 * i) l.length = 8 * i by omega]
    · rw [if_neg (by omega)]
      simp only [List.getD]
      rw [List.getElem?_append_right (by simp [hp]; omega), List.getElem?_drop]
      simp only [List.length_append, List.length_take, hp]
      rw [show 8 * i + 8 + (x - (min (8 * i) l.length + 8)) = x by omega]
theorem of_same {a b : List Int} {i x : Nat} (h : same (part a i) (part b i) = true) (hx : x / 8 = i) : a.getD x 0 = b.getD x 0 := by
  have h' : part a i = part b i := of_decide_eq_true h
  have : (part a i).getD (x - 8 * i) 0 = (part b i).getD (x - 8 * i) 0 := by rw [h']
  rw [getD_part _ _ _ (by omega), getD_part _ _ _ (by omega), show 8 * i + (x - 8 * i) = x by omega] at this
  exact this
/-- a line that is not dirty lasts as it is; what is pending is dirty -/
structure Inv (d : D) (m : Nat) : Prop where
  ok : Ok d m
  cl : ∀ x, x < 8 * m → d.dirty.getD (x / 8) false = false → d.last.getD x 0 = d.cache.getD x 0
  pd : ∀ i, d.pend.getD i false = true → d.dirty.getD i false = true
theorem Inv.load (ws : List Int) (m : Nat) (h : ws.length = 8 * m) : Inv (load ws m) m :=
  ⟨⟨h, h, by simp [Nv.load, h], by simp [Nv.load], by simp [Nv.load]⟩, fun _ _ _ => rfl, fun i hi => by
    have : (List.replicate m false).getD i false = true := hi
    simp only [List.getD, List.getElem?_replicate] at this
    split at this <;> simp at this⟩
theorem Inv.killed {d : D} {m : Nat} (h : Inv d m) : Inv (killed d) m := ⟨h.ok.killed, h.cl, h.pd⟩
theorem Inv.stepped {d : D} {m : Nat} (h : Inv d m) : Inv (stepped d) m := ⟨h.ok.stepped, h.cl, h.pd⟩
theorem Inv.arm {d : D} {m : Nat} (h : Inv d m) (n : Int) : Inv (arm d n) m := ⟨⟨h.ok.hl, h.ok.hc, h.ok.hf, h.ok.hd, h.ok.hp⟩, h.cl, h.pd⟩
theorem Inv.put {d : D} {m : Nat} (h : Inv d m) {a : Nat} (ha : a < 8 * m) (v : Int) : Inv (put d a v) m := by
  have hd := h.ok.hd
  have hc := h.ok.hc
  refine ⟨h.ok.put a v, fun x hx hdx => ?_, fun i hi => ?_⟩
  · have e : (d.dirty.set (a / 8) true).getD (x / 8) false = false := hdx
    rw [getD_set _ _ _ _ _ (by omega)] at e
    split at e
    · cases e
    · show d.last.getD x 0 = (d.cache.set a v).getD x 0
      rw [getD_set _ _ _ _ _ (by omega), if_neg (by rintro rfl; exact absurd rfl ‹_›)]
      exact h.cl x hx e
  · show (d.dirty.set (a / 8) true).getD i false = true
    rw [getD_set _ _ _ _ _ (by omega)]
    split
    · rfl
    · exact h.pd i hi
theorem Inv.flushed {d : D} {m : Nat} (h : Inv d m) {i : Nat} (hi : i < m) (hd : d.dirty.getD i false = true) : Inv (flushed d i) m := by
  have hp := h.ok.hp
  refine ⟨h.ok.flushed hi, h.cl, fun j hj => ?_⟩
  have e : (d.pend.set i true).getD j false = true := hj
  rw [getD_set _ _ _ _ _ (by omega)] at e
  split at e
  · subst_vars; exact hd
  · exact h.pd j e
theorem Inv.evicted {d : D} {m : Nat} (h : Inv d m) {i : Nat} (hi : i < m) : Inv (evicted d i) m := by
  have hd := h.ok.hd
  have hp := h.ok.hp
  have hl := h.ok.hl
  have hc := h.ok.hc
  refine ⟨h.ok.evicted hi, fun x hx hdx => ?_, fun j hj => ?_⟩
  · show (setPart d.last i (part d.cache i)).getD x 0 = d.cache.getD x 0
    rw [getD_setPart _ _ _ _ (by omega) (by omega)]
    split
    · rfl
    · have e : (d.dirty.set i false).getD (x / 8) false = false := hdx
      rw [getD_set _ _ _ _ _ (by omega), if_neg (by omega)] at e
      exact h.cl x hx e
  · have e : (d.pend.set i false).getD j false = true := hj
    rw [getD_set _ _ _ _ _ (by omega)] at e
    split at e
    · cases e
    · show (d.dirty.set i false).getD j false = true
      rw [getD_set _ _ _ _ _ (by omega), if_neg ‹_›]
      exact h.pd j e
theorem Inv.fenceLine {d : D} {m : Nat} (h : Inv d m) {i : Nat} (hi : i < m) : Inv (fenceLine d i) m := by
  have hd := h.ok.hd
  have hp := h.ok.hp
  have hl := h.ok.hl
  have hf := h.ok.hf
  have ho := h.ok.fenceLine hi
  unfold Nv.fenceLine at ho ⊢
  split
  · rename_i hpi
    rw [if_pos hpi] at ho
    refine ⟨ho, fun x hx hdx => ?_, fun j hj => ?_⟩
    · have e : (d.dirty.set i (!same (part d.fl i) (part d.cache i))).getD (x / 8) false = false := hdx
      show (setPart d.last i (part d.fl i)).getD x 0 = d.cache.getD x 0
      rw [getD_setPart _ _ _ _ (by omega) (by omega)]
      rw [getD_set _ _ _ _ _ (by omega)] at e
      by_cases hxi : x / 8 = i
      · rw [if_pos hxi.symm] at e
        rw [if_pos hxi]
        exact of_same (by simpa using e) hxi
      · rw [if_neg (fun h => hxi h.symm)] at e
        rw [if_neg hxi]
        exact h.cl x hx e
    · have e : (d.pend.set i false).getD j false = true := hj
      rw [getD_set _ _ _ _ _ (by omega)] at e
      split at e
      · cases e
      · show (d.dirty.set i _).getD j false = true
        rw [getD_set _ _ _ _ _ (by omega), if_neg ‹_›]
        exact h.pd j e
  · exact h
theorem Inv.fenceTo {d : D} {m : Nat} (h : Inv d m) : ∀ k, k ≤ m → Inv (fenceTo d k) m
  | 0, _ => h
  | k + 1, hk => (Inv.fenceTo h k (by omega)).fenceLine (by omega)
theorem Inv.store {d : D} {m : Nat} (h : Inv d m) (a v : Int) : Inv (store d m a v).1 m := by
  unfold Nv.store; split
  · split
    · exact h.killed
    · exact h.stepped.put (by omega) _
  · exact h
theorem Inv.flush {d : D} {m : Nat} (h : Inv d m) (l : Int) : Inv (flush d m l).1 m := by
  unfold Nv.flush; split
  · split
    · exact h.killed
    · show Inv (if _ then _ else _) m
      split
      · exact h.stepped.flushed (by omega) ‹_›
      · exact h.stepped
  · exact h
theorem Inv.fence {d : D} {m : Nat} (h : Inv d m) : Inv (fence d m).1 m := by
  unfold Nv.fence; split
  · exact h.killed
  · exact h.stepped.fenceTo m (Nat.le_refl _)
theorem Inv.evict {d : D} {m : Nat} (h : Inv d m) (l : Int) : Inv (evict d m l).1 m := by
  unfold Nv.evict; split
  · split
    · exact h
    · exact h.evicted (by omega)
  · exact h
theorem Inv.flushAll {m : Nat} : ∀ (k i : Nat) (d : D), Inv d m → Inv (flushAll d m i k).1 m
  | 0, _, _, h => h
  | k + 1, i, d, h => by
    unfold Nv.flushAll; split
    · exact Inv.flushAll k _ _ (h.flush _)
    · exact h.flush _
theorem Inv.persist {d : D} {m : Nat} (h : Inv d m) (a n : Int) : Inv (persist d m a n).1 m := by
  unfold Nv.persist; split
  · exact h
  · split
    · exact h.fence
    · split
      · exact (Inv.flushAll _ _ _ h).fence
      · exact Inv.flushAll _ _ _ h
/-- flushed, if dirty -/
def Fd (d : D) (j : Nat) : Prop := d.dirty.getD j false = true → d.pend.getD j false = true ∧ part d.fl j = part d.cache j
theorem part_setPart (l p : List Int) (i : Nat) (hl : 8 * i + 8 ≤ l.length) (hp : p.length = 8) : part (setPart l i p) i = p := by
  unfold part setPart
  rw [List.append_assoc, List.drop_append_of_le_length (by simp; omega), List.drop_of_length_le (by simp; omega), List.nil_append, List.take_append_of_le_length (by omega), List.take_of_length_le (by omega)]
theorem part_setPart_ne (l p : List Int) (i j : Nat) (hl : 8 * i + 8 ≤ l.length) (hp : p.length = 8) (hij : i ≠ j) : part (setPart l i p) j = part l j := by
  unfold part setPart
  apply List.ext_getElem?
  intro r
  by_cases hr : r < 8
  · rw [List.getElem?_take_of_lt hr, List.getElem?_take_of_lt hr, List.getElem?_drop, List.getElem?_drop]
    by_cases h : j < i
    · rw [List.append_assoc, List.getElem?_append_left (by simp; omega), List.getElem?_take_of_lt (by omega)]
    · rw [List.getElem?_append_right (by simp; omega), List.getElem?_drop]
      simp only [List.length_append, List.length_take, hp]
      congr 1; omega
  · rw [List.getElem?_eq_none (by simp; omega), List.getElem?_eq_none (by simp; omega)]
theorem Fd.flush_other {d : D} {m : Nat} (ho : Ok d m) {j : Nat} {l : Int} (hne : l ≠ (j : Int)) (h : Fd d j) : Fd (flush d m l).1 j := by
  have hp := ho.hp
  have hf := ho.hf
  have hc := ho.hc
  unfold Nv.flush; split
  · split
    · exact h
    · show Fd (if _ then _ else _) j
      split
      · intro hdj
        obtain ⟨h1, h2⟩ := h hdj
        refine ⟨?_, ?_⟩
        · show (d.pend.set l.toNat true).getD j false = true
          rw [getD_set _ _ _ _ _ (by omega), if_neg (by omega)]; exact h1
        · show part (setPart d.fl l.toNat (part d.cache l.toNat)) j = part d.cache j
          rw [part_setPart_ne _ _ _ _ (by omega) (length_part (by omega)) (by omega)]; exact h2
      · exact h
  · exact h
theorem Fd.flush_self {d : D} {m : Nat} (ho : Ok d m) {j : Nat} (hz : (flush d m (j : Int)).2 = 0) : Fd (flush d m (j : Int)).1 j := by
  have hp := ho.hp
  have hf := ho.hf
  have hc := ho.hc
  unfold Nv.flush at hz ⊢
  split
  · rename_i hr
    rw [if_pos hr] at hz
    split
    · rw [if_pos ‹_›] at hz; cases hz
    · show Fd (if _ then _ else _) j
      split
      · intro _
        refine ⟨?_, ?_⟩
        · show (d.pend.set (j : Int).toNat true).getD j false = true
          rw [getD_set _ _ _ _ _ (by omega), if_pos (by omega)]
        · show part (setPart d.fl (j : Int).toNat (part d.cache (j : Int).toNat)) j = part d.cache j
          rw [show (j : Int).toNat = j by omega, part_setPart _ _ _ (by omega) (length_part (by omega))]
      · intro hdj; exact absurd hdj ‹_›
  · rw [if_neg ‹_›] at hz; cases hz
theorem Fd.flushAll_other {m : Nat} : ∀ (k i : Nat) (d : D), Ok d m → ∀ j, j < i → Fd d j → Fd (flushAll d m i k).1 j
  | 0, _, _, _, _, _, h => h
  | k + 1, i, d, ho, j, hj, h => by
    unfold Nv.flushAll; split
    · exact Fd.flushAll_other k _ _ (ho.flush _) j (by omega) (h.flush_other ho (by omega))
    · exact h.flush_other ho (by omega)
theorem Fd.flushAll {m : Nat} : ∀ (k i : Nat) (d : D), Ok d m → (flushAll d m i k).2 = 0 → ∀ j, i ≤ j → j < i + k → Fd (flushAll d m i k).1 j
  | 0, _, _, _, _, _, _, _ => by omega
  | k + 1, i, d, ho, hz, j, h1, h2 => by
    unfold Nv.flushAll at hz ⊢
    split
    · rename_i h0
      rw [if_pos h0] at hz
      by_cases hij : j = i
      · subst hij
        exact Fd.flushAll_other k _ _ (ho.flush _) j (by omega) (Fd.flush_self ho h0)
      · exact Fd.flushAll k _ _ (ho.flush _) hz j (by omega) (by omega)
    · rename_i h0
      rw [if_neg h0] at hz
      exact absurd hz h0
theorem fenceLine_dirty_ne {d : D} {m : Nat} (ho : Ok d m) {i j : Nat} (hi : i < m) (hij : i ≠ j) : (fenceLine d i).dirty.getD j false = d.dirty.getD j false := by
  have hd := ho.hd
  unfold Nv.fenceLine; split
  · show (d.dirty.set i _).getD j false = _
    rw [getD_set _ _ _ _ _ (by omega), if_neg hij]
  · rfl
theorem Fd.fenceLine_ne {d : D} {m : Nat} (ho : Ok d m) {i j : Nat} (hi : i < m) (hij : i ≠ j) (h : Fd d j) : Fd (fenceLine d i) j := by
  have hd := ho.hd
  have hp := ho.hp
  unfold Nv.fenceLine; split
  · intro hdj
    have e : (d.dirty.set i (!same (part d.fl i) (part d.cache i))).getD j false = true := hdj
    rw [getD_set _ _ _ _ _ (by omega), if_neg hij] at e
    obtain ⟨h1, h2⟩ := h e
    refine ⟨?_, h2⟩
    show (d.pend.set i false).getD j false = true
    rw [getD_set _ _ _ _ _ (by omega), if_neg hij]; exact h1
  · exact h
theorem fenceLine_clean {d : D} {m : Nat} (hI : Inv d m) {j : Nat} (hj : j < m) (h : Fd d j) : (fenceLine d j).dirty.getD j false = false := by
  have hd := hI.ok.hd
  unfold Nv.fenceLine; split
  · rename_i hpj
    show (d.dirty.set j _).getD j false = _
    rw [getD_set _ _ _ _ _ (by omega), if_pos rfl]
    rw [(h (hI.pd j hpj)).2]; simp [same]
  · rename_i hpj
    cases hdj : d.dirty.getD j false
    · rfl
    · exact absurd (h hdj).1 hpj
theorem fenceTo_dirty {d : D} {m : Nat} (hI : Inv d m) : ∀ (k j : Nat), k ≤ m → j < m → Fd d j → (j < k → (fenceTo d k).dirty.getD j false = false) ∧ (k ≤ j → Fd (fenceTo d k) j)
  | 0, j, _, _, h => ⟨fun h0 => by omega, fun _ => h⟩
  | k + 1, j, hk, hj, h => by
    obtain ⟨h1, h2⟩ := fenceTo_dirty hI k j (by omega) hj h
    have hIk := hI.fenceTo k (by omega)
    refine ⟨fun hjk => ?_, fun hjk => Fd.fenceLine_ne hIk.ok (by omega) (by omega) (h2 (by omega))⟩
    by_cases e : j = k
    · subst e; exact fenceLine_clean hIk (by omega) (h2 (Nat.le_refl _))
    · show (fenceLine (fenceTo d k) k).dirty.getD j false = false
      rw [fenceLine_dirty_ne hIk.ok (by omega) (by omega)]; exact h1 (by omega)
/-- what was persisted is not dirty -/
theorem persist_clean {d : D} {m : Nat} (hI : Inv d m) {a n : Int} (hz : (persist d m a n).2 = 0) : ∀ x : Nat, a ≤ x → (x : Int) < a + n → x < 8 * m ∧ (persist d m a n).1.dirty.getD (x / 8) false = false := by
  intro x hx1 hx2
  unfold Nv.persist at hz ⊢
  split
  · rw [if_pos ‹_›] at hz; cases hz
  · rename_i hr
    rw [if_neg hr] at hz
    split
    · omega
    · rename_i hn
      rw [if_neg hn] at hz
      refine ⟨by omega, ?_⟩
      split
      · rename_i h0
        rw [if_pos h0] at hz
        have hI2 := Inv.flushAll (((a + n - 1) / 8).toNat + 1 - (a / 8).toNat) (a / 8).toNat d hI
        have hF := Fd.flushAll (((a + n - 1) / 8).toNat + 1 - (a / 8).toNat) (a / 8).toNat d hI.ok h0 (x / 8) (by omega) (by omega)
        generalize (Nv.flushAll d m (a / 8).toNat (((a + n - 1) / 8).toNat + 1 - (a / 8).toNat)).1 = d2 at *
        unfold Nv.fence at hz ⊢
        split
        · rw [if_pos ‹_›] at hz; cases hz
        · exact (fenceTo_dirty hI2.stepped m (x / 8) (Nat.le_refl _) (by omega) hF).1 (by omega)
      · rename_i h0
        rw [if_neg h0] at hz; exact absurd hz h0
/-- a crash: a word whose line is not dirty is as it lasts -/
theorem dirtyTo_le (l : List Bool) : ∀ k, (dirtyTo l k).length ≤ k
  | 0 => Nat.le_refl _
  | k + 1 => by
    have := dirtyTo_le l k
    unfold Nv.dirtyTo; split
    · simp; omega
    · omega
theorem crashTo_len {d : D} {m : Nat} (ho : Ok d m) (cs : List Int) : ∀ k, (crashTo d (dirtyTo d.dirty m) cs k).length = 8 * m
  | 0 => ho.hl
  | k + 1 => by
    have ih := crashTo_len ho cs k
    rw [crashTo_succ]
    split
    · rename_i hk
      obtain ⟨i, e, hi, _⟩ := dirtyTo_mem d.dirty m k _ (List.getElem?_eq_getElem hk.1)
      have e2 : ((dirtyTo d.dirty m).getD k 0).toNat = i := by
        simp only [List.getD, List.getElem?_eq_getElem hk.1, Option.getD_some]; omega
      rw [e2]
      unfold Nv.crashOne
      have hf := ho.hf
      have hc := ho.hc
      split
      · split
        · rw [length_setPart (by omega) (length_part (by omega))]; exact ih
        · exact ih
      · split
        · rw [length_setPart (by omega) (length_part (by omega))]; exact ih
        · exact ih
    · exact ih
theorem crashTo_clean {d : D} {m : Nat} (ho : Ok d m) (cs : List Int) (x : Nat) (hx : d.dirty.getD (x / 8) false = false) : ∀ k, (crashTo d (dirtyTo d.dirty m) cs k).getD x 0 = d.last.getD x 0
  | 0 => rfl
  | k + 1 => by
    have ih := crashTo_clean ho cs x hx k
    have hl := crashTo_len ho cs k
    have hf := ho.hf
    have hc := ho.hc
    rw [crashTo_succ]
    split
    · rename_i hk
      obtain ⟨i, e, hi, hdi⟩ := dirtyTo_mem d.dirty m k _ (List.getElem?_eq_getElem hk.1)
      have e2 : ((dirtyTo d.dirty m).getD k 0).toNat = i := by
        simp only [List.getD, List.getElem?_eq_getElem hk.1, Option.getD_some]; omega
      rw [e2]
      have hne : ¬ x / 8 = i := fun h => by rw [h, hdi] at hx; cases hx
      unfold Nv.crashOne
      split
      · split
        · rw [getD_setPart _ _ _ _ (by omega) (by omega), if_neg hne]; exact ih
        · exact ih
      · split
        · rw [getD_setPart _ _ _ _ (by omega) (by omega), if_neg hne]; exact ih
        · exact ih
    · exact ih
theorem mem_dirtyTo (l : List Bool) : ∀ (k i : Nat), i < k → l.getD i false = true → ∃ j, j < (dirtyTo l k).length ∧ (dirtyTo l k)[j]? = some (i : Int)
  | 0, i, h, _ => by omega
  | k + 1, i, h, hd => by
    unfold Nv.dirtyTo
    by_cases e : i = k
    · subst e
      rw [if_pos hd]
      exact ⟨(dirtyTo l i).length, by simp, by simp⟩
    · obtain ⟨j, hj, hv⟩ := mem_dirtyTo l k i (by omega) hd
      split
      · exact ⟨j, by simp; omega, by rw [List.getElem?_append_left hj]; exact hv⟩
      · exact ⟨j, hj, hv⟩
/-- a crash that keeps all: the lines up to k are as in the cache -/
theorem crashTo_kept {d : D} {m : Nat} (ho : Ok d m) : ∀ k, ∀ x : Nat, (∃ j : Nat, j < k ∧ (dirtyTo d.dirty m)[j]? = some ((x / 8 : Nat) : Int)) → (crashTo d (dirtyTo d.dirty m) (List.replicate m 2) k).getD x 0 = d.cache.getD x 0
  | 0, x, ⟨j, hj, _⟩ => by omega
  | k + 1, x, ⟨j, hj, hv⟩ => by
    have hl := crashTo_len ho (List.replicate m 2) k
    have hc := ho.hc
    have ih := crashTo_kept ho k x
    rw [crashTo_succ]
    split
    · rename_i hk
      obtain ⟨i, e, hi, hdi⟩ := dirtyTo_mem d.dirty m k _ (List.getElem?_eq_getElem hk.1)
      have e2 : ((dirtyTo d.dirty m).getD k 0).toNat = i := by
        simp only [List.getD, List.getElem?_eq_getElem hk.1, Option.getD_some]; omega
      have e3 : (List.replicate m (2 : Int)).getD k 0 = 2 := by
        have := hk.2; simp at this
        simp [List.getD, List.getElem?_replicate, this]
      rw [e2, e3]
      unfold Nv.crashOne
      rw [if_neg (by decide), if_pos (by decide), getD_setPart _ _ _ _ (by omega) (by omega)]
      split
      · rfl
      · rename_i hne
        refine ih ⟨j, ?_, hv⟩
        by_cases hjk : j = k
        · subst hjk
          rw [List.getElem?_eq_getElem hk.1] at hv
          injection hv with hv
          rw [hv] at e; omega
        · omega
    · rename_i hk
      have hjl : j < (dirtyTo d.dirty m).length := (List.getElem?_eq_some_iff.1 hv).1
      refine ih ⟨j, ?_, hv⟩
      have hlen := dirtyTo_le d.dirty m
      simp at hk
      by_cases hjk : j = k
      · subst hjk; have := hk hjl; omega
      · omega
theorem crash_kept {d : D} {m : Nat} (hI : Inv d m) (x : Nat) (hx : x < 8 * m) : (crashTo d (dirtyTo d.dirty m) (List.replicate m 2) (dirtyTo d.dirty m).length).getD x 0 = d.cache.getD x 0 := by
  cases hd : d.dirty.getD (x / 8) false
  · rw [crashTo_clean hI.ok _ x hd]; exact hI.cl x hx hd
  · obtain ⟨j, hj, hv⟩ := mem_dirtyTo d.dirty m (x / 8) (by omega) hd
    exact crashTo_kept hI.ok _ x ⟨j, hj, hv⟩
theorem crash_none {d : D} (ls : List Int) : ∀ k, crashTo d ls [] k = d.last
  | 0 => rfl
  | k + 1 => by rw [crashTo_succ, if_neg (by simp)]; exact crash_none ls k
end Go.Proofs.Ytmekhdclnhhhbaa.Nv
