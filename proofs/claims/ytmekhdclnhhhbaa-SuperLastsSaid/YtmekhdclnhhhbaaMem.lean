/- Words for memory: a slice that reads as a list of values. -/
import Derived.Test.YtmekhdclnhhhbaaCom
import Derived.Laws.AppendOwnNone
import Derived.ChangeKeysEq
import Derived.Laws.CopyOwn
namespace Go.Proofs.Ytmekhdclnhhhbaa
set_option linter.unusedVariables false
open Go.RowKit
theorem info_u8 : (Try.prog.info? 5).map (fun i => (i.zero, i.size, i.bytes)) = some (some (.int .u8 0), 1, 1) := by kernel_rfl
theorem info_u64 : (Try.prog.info? 22).map (fun i => (i.zero, i.size, i.bytes)) = some (some (.int .u64 0), 1, 8) := by kernel_rfl
theorem info_int : (Try.prog.info? 3).map (fun i => (i.zero, i.size, i.bytes)) = some (some (.int .i64 0), 1, 8) := by kernel_rfl
theorem info_bool : (Try.prog.info? 4).map (fun i => (i.zero, i.size, i.bytes)) = some (some (.bool false), 1, 1) := by kernel_rfl
/-- a slice value over A holds the cells xs (m of them), below block B -/
def RowAt (w : World) (B : Nat) (A : Option Addr) (m : Nat) (xs : List Value) : Prop :=
  xs.length = m ∧ (0 < m → ∃ b off, A = some ⟨b, off, none⟩ ∧ b < B ∧ ∀ j u, xs[j]? = some u → w.cell? ⟨b, off + j, none⟩ = some u)
theorem cell_lt {w : World} {p : Addr} {u : Value} (h : w.cell? p = some u) : p.block < w.heap.size := by
  rcases Nat.lt_or_ge p.block w.heap.size with h1 | h1
  · exact h1
  · exfalso
    simp [World.cell?, Array.getElem?_eq_none h1] at h
theorem RowAt.len {w : World} {B m : Nat} {A : Option Addr} {xs : List Value} (h : RowAt w B A m xs) : xs.length = m := h.1
theorem RowAt.at_ {w : World} {B m : Nat} {A : Option Addr} {xs : List Value} (h : RowAt w B A m xs) {j : Nat} (hj : j < m) :
    ∃ b off u, A = some ⟨b, off, none⟩ ∧ b < B ∧ xs[j]? = some u ∧ w.cell? ⟨b, off + j, none⟩ = some u := by
  obtain ⟨b, off, e, hb, hc⟩ := h.2 (by omega)
  have hl : j < xs.length := by rw [h.1]; exact hj
  exact ⟨b, off, xs[j], e, hb, List.getElem?_eq_getElem hl, hc j _ (List.getElem?_eq_getElem hl)⟩
theorem RowAt.keep {w w' : World} {B m : Nat} {A : Option Addr} {xs : List Value} (h : RowAt w B A m xs) (hk : ∀ p : Addr, p.block < B → w'.cell? p = w.cell? p) : RowAt w' B A m xs :=
  ⟨h.1, fun hm => by
    obtain ⟨b, off, e, hb, hc⟩ := h.2 hm
    exact ⟨b, off, e, hb, fun j u hu => (hk _ hb).trans (hc j u hu)⟩⟩
theorem RowAt.more {w : World} {B B' m : Nat} {A : Option Addr} {xs : List Value} (h : RowAt w B A m xs) (hB : B ≤ B') : RowAt w B' A m xs :=
  ⟨h.1, fun hm => by
    obtain ⟨b, off, e, hb, hc⟩ := h.2 hm
    exact ⟨b, off, e, by omega, hc⟩⟩
theorem RowAt.below {w w' : World} {B m : Nat} {A : Option Addr} {xs : List Value} (h : RowAt w B A m xs) (hb : Below B w w') : RowAt w' B A m xs := h.keep fun _ hp => hb.cell hp
theorem RowAt.alloc {w : World} {B m : Nat} {A : Option Addr} {xs : List Value} (h : RowAt w B A m xs) (hB : B ≤ w.heap.size) (o : Obj) : RowAt (w.alloc o) B A m xs :=
  h.keep fun p hp => World.cell?_alloc_lt w o p (by omega)
theorem RowAt.drewN {w : World} {B m : Nat} {A : Option Addr} {xs : List Value} (h : RowAt w B A m xs) (n : Nat) : RowAt (w.drewN n) B A m xs := h
theorem RowAt.nil {w : World} {B : Nat} {A : Option Addr} : RowAt w B A 0 [] := ⟨rfl, fun h => absurd h (by omega)⟩
theorem RowAt.of_block {w : World} {g m : Nat} {cs : Array Value} {t : TypeId} (h : w.heap[g]? = some (.cells cs t (0, 0))) (hg : g < w.heap.size) (hm : cs.size = m) : RowAt w w.heap.size (some ⟨g, 0, none⟩) m cs.toList :=
  ⟨by simpa using hm, fun _ => ⟨g, 0, rfl, hg, fun j u hu => by
    rw [Joins.cell_of_block h]; simpa using hu⟩⟩
/-- the integers of an argument's slice -/
def Ints (k : IntKind) (zs : List Int) : Prop := ∀ z ∈ zs, (Lit.int k z).wf = true
theorem row_of_arg {k : IntKind} {w : World} {a : Option Addr} {len cap : Nat} {zs : List Int} (h : IsRow k w a len cap zs) :
    ∃ xs : List Int, RowAt w w.heap.size a len (xs.map (Value.int k)) ∧ Ints k xs ∧ xs.length = len ∧ len ≤ cap ∧ cap ≤ maxLen := by
  rcases h with ⟨rfl, rfl, rfl, rfl⟩ | ⟨x, rfl, hl, hm, hz, hcell, hwf⟩
  · exact ⟨[], RowAt.nil, by simp [Ints], rfl, by omega, by decide⟩
  · refine ⟨zs.take len, ⟨by simp; omega, fun h0 => ?_⟩, fun z hz => hwf z (List.mem_of_mem_take hz), by simp; omega, hl, hm⟩
    obtain ⟨b, off, spot⟩ := x
    have hc := hcell 0 (by omega)
    have hspot : spot = none := by simpa [Addr.add] using World.cell?_spot hc
    subst hspot
    have hlt := cell_lt hc
    refine ⟨b, off, rfl, by simpa [Addr.add] using hlt, fun j u hu => ?_⟩
    rw [List.getElem?_map] at hu
    cases hj : (zs.take len)[j]? with
    | none => rw [hj] at hu; simp at hu
    | some z =>
      rw [hj] at hu
      have hjl : j < len := by
        have := (List.getElem?_eq_some_iff.1 hj).1
        simp at this; omega
      rw [List.getElem?_take_of_lt hjl] at hj
      have hc2 := hcell j (by omega)
      have e : zs.getD j 0 = z := by simp [List.getD, hj]
      rw [e] at hc2
      have ea : (⟨b, off, none⟩ : Addr).add j = ⟨b, off + j, none⟩ := by
        unfold Addr.add; split
        · subst_vars; rfl
        · rfl
      rw [ea] at hc2
      simp at hu
      rw [hc2, ← hu]
theorem RowAt.int {k : IntKind} {w : World} {B m : Nat} {A : Option Addr} {xs : List Int} (h : RowAt w B A m (xs.map (Value.int k))) (hi : Ints k xs) {j : Nat} (hj : j < m) :
    ∃ b off z, A = some ⟨b, off, none⟩ ∧ b < B ∧ xs[j]? = some z ∧ (Lit.int k z).wf = true ∧ w.cell? ⟨b, off + j, none⟩ = some (.int k z) := by
  obtain ⟨b, off, u, e, hb, hx, hc⟩ := h.at_ hj
  rw [List.getElem?_map] at hx
  cases hz : xs[j]? with
  | none => rw [hz] at hx; simp at hx
  | some z =>
    rw [hz] at hx
    simp at hx
    exact ⟨b, off, z, e, hb, rfl, hi z (List.mem_of_getElem? hz), by rw [hc, hx]⟩
theorem take_succ_of {α : Type} {l : List α} {j : Nat} {z : α} (h : l[j]? = some z) : l.take (j + 1) = l.take j ++ [z] := by
  rw [List.take_add_one, h]; rfl
theorem ownBlock_ge {w : World} {base : Nat} {e : TypeId} {size n : Nat} {v : Value} {xs : List Value} (h : w.ownsRow base e size v n xs) : ∀ k, v.ownBlock = some k → base ≤ k := by
  intro k hk
  rcases h.2 with ⟨rfl, _⟩ | ⟨g, cap, cur, rfl, hg, _⟩
  · simp [Value.ownBlock] at hk
  · simp [Value.ownBlock] at hk; omega
/-- 'append(out, x)' of one value, out the call's own -/
theorem wpList_app1 {P : Program} {w : World} {ops : Array Oper} {rest : List Oper} {o : Oper} {a : Act} {Q : Exit → Act → World → Prop} (hgd : o.guard = none) (s x : Operand) (t : TypeId)
    (ho : o.op = .call { callee := .builtin .append, args := #[s, x], argTypes := #[t, t] })
    (base : Nat) (e : TypeId) (i : TypeInfo) (z : Value) (bytes : Nat) (ht : P.underlying t = some (.slice e)) (hi : P.info? e = some i) (hz : i.zero = some z)
    (hsize : i.size = 1) (hby : i.bytes = bytes) (hzs : z.cells.size = 1)
    (v : Value) (n : Nat) (xs : List Value) (hs : a.eval s = v) (hown : w.ownsRow base e 1 v n xs) (u : Value) (c : Nat)
    (hx : a.eval x = .slice (some ⟨w.heap.size, 0, none⟩) 1 c) (hu : u.oneCell' = true)
    (h63 : n + 1 ≤ maxLen) (hbytes : (n + 1) * bytes ≤ 140737488355328) (hbase : base ≤ w.heap.size) (B : Nat) (w0 : World) (hb : Below B w0 w) (hB : B ≤ base)
    (h : ∀ v' w', w'.ownsRow base e 1 v' (n + 1) (xs ++ [u]) → Below B w0 w' → w.heap.size < w'.heap.size → (w.alloc (.cells #[u] e)).grownBy w' v.ownBlock → wpList P ops Q rest (a.put o.dst v') w') :
    wpList P ops Q (o :: rest) a (w.alloc (.cells #[u] e)) := by
  refine wpList_append_own (P := P) (w.alloc (.cells #[u] e)) hgd s x t ho base e i z 1 bytes ht hi hz hsize hby hzs (by decide) v n xs hs (hown.alloc _) ⟨w.heap.size, 0, none⟩ 1 c [u] hx rfl ?_ ?_ h63 hbytes (by simp; omega) ?_
  · intro j u' hj
    match j, hj with
    | 0, hj => simp at hj; subst hj; simp [Addr.add]
  · intro u' hj; simp at hj; subst hj; exact hu
  · intro v' w' h1 h2 _
    have h3 : Below B w0 (w.alloc (.cells #[u] e)) := hb.alloc (by omega) _
    have h4 := h2.size
    simp at h4
    exact h v' w' h1 (h3.grown h2 (by simp; omega) (fun k hk => Nat.le_trans hB (ownBlock_ge hown k hk))) (by omega) h2
theorem RowAt.of_own {w : World} {base n : Nat} {e : TypeId} {A : Option Addr} {c : Nat} {xs : List Value} (h : w.ownsRow base e 1 (.slice A n c) n xs) : RowAt w w.heap.size A n xs := by
  refine ⟨by simpa using h.1, fun hn => ?_⟩
  obtain ⟨g, cap, hv, hlt⟩ : ∃ g cap, Value.slice A n c = .slice (some ⟨g, 0, none⟩) n cap ∧ g < w.heap.size := by
    rcases h.2 with ⟨_, h0⟩ | ⟨g, cap, cur, hv, _, hh, _⟩
    · omega
    · refine ⟨g, cap, hv, ?_⟩
      rcases Nat.lt_or_ge g w.heap.size with h1 | h1
      · exact h1
      · rw [Array.getElem?_eq_none h1] at hh; cases hh
  obtain ⟨rfl, rfl⟩ : A = some ⟨g, 0, none⟩ ∧ c = cap := by injection hv with h1 _ h3; exact ⟨h1, h3⟩
  refine ⟨g, 0, rfl, hlt, fun j u hu => ?_⟩
  have hx := h.1
  have hj : j < xs.length := (List.getElem?_eq_some_iff.1 hu).1
  rw [Nat.zero_add, h.cellAt j (by omega), hu]
/-- 'append(out, xs...)', out the call's own, xs whatever reads as a list -/
theorem wpList_appN {P : Program} {w : World} {ops : Array Oper} {rest : List Oper} {o : Oper} {a : Act} {Q : Exit → Act → World → Prop} (hgd : o.guard = none) (s x : Operand) (t : TypeId)
    (ho : o.op = .call { callee := .builtin .append, args := #[s, x], argTypes := #[t, t] })
    (base : Nat) (e : TypeId) (i : TypeInfo) (z : Value) (bytes : Nat) (ht : P.underlying t = some (.slice e)) (hi : P.info? e = some i) (hz : i.zero = some z)
    (hsize : i.size = 1) (hby : i.bytes = bytes) (hzs : z.cells.size = 1)
    (v : Value) (n : Nat) (xs : List Value) (hs : a.eval s = v) (hown : w.ownsRow base e 1 v n xs) (B' : Nat) (A : Option Addr) (m c : Nat) (news : List Value)
    (hx : a.eval x = .slice A m c) (hr : RowAt w B' A m news) (hnc : A = none → c = 0) (hu : ∀ u ∈ news, u.oneCell' = true)
    (h63 : n + m ≤ maxLen) (hbytes : (n + m) * bytes ≤ 140737488355328) (hbase : base ≤ w.heap.size) (B : Nat) (w0 : World) (hb : Below B w0 w) (hB : B ≤ base) (hBw : B ≤ w.heap.size)
    (h : ∀ v' w', w'.ownsRow base e 1 v' (n + m) (xs ++ news) → Below B w0 w' → w.heap.size ≤ w'.heap.size → w.grownBy w' v.ownBlock → wpList P ops Q rest (a.put o.dst v') w') :
    wpList P ops Q (o :: rest) a w := by
  rcases A with _ | ad
  · have hm : m = 0 := by
      rcases Nat.eq_zero_or_pos m with h0 | h0
      · exact h0
      · obtain ⟨b, off, h1, _⟩ := hr.2 h0; cases h1
    subst hm
    have hn : news = [] := List.eq_nil_of_length_eq_zero hr.1
    subst hn
    obtain rfl := hnc rfl
    refine wpList_append_own_none hgd s x t ho base e i 1 ht hi v n xs hs hown hx ?_
    exact h v w (by simpa using hown) hb (Nat.le_refl _) (World.grownBy.refl w _)
  · have hcells : ∀ j u, news[j]? = some u → w.cell? (ad.add j) = some u := by
      intro j u hj
      have hl : j < news.length := (List.getElem?_eq_some_iff.1 hj).1
      obtain ⟨b, off, h1, _, hc⟩ := hr.2 (by rw [← hr.1]; omega)
      injection h1 with h1; subst h1
      have ea : (⟨b, off, none⟩ : Addr).add j = ⟨b, off + j, none⟩ := by
        unfold Addr.add; split
        · subst_vars; rfl
        · rfl
      rw [ea]; exact hc j u hj
    refine wpList_append_own (P := P) w hgd s x t ho base e i z 1 bytes ht hi hz hsize hby hzs (by decide) v n xs hs hown ad m c news hx (by rw [hr.1, Nat.mul_one]) hcells hu h63 hbytes hbase ?_
    intro v' w' h1 h2 _
    exact h v' w' h1 (hb.grown h2 hBw (fun k hk => Nat.le_trans hB (ownBlock_ge hown k hk))) h2.size h2
theorem own_shape {w : World} {base n : Nat} {e : TypeId} {size : Nat} {v : Value} {xs : List Value} (h : w.ownsRow base e size v n xs) : ∃ A c, v = .slice A n c ∧ n ≤ c ∧ c ≤ maxLen ∧ (A = none → c = 0) := by
  rcases h.2 with ⟨rfl, rfl⟩ | ⟨g, cap, cur, rfl, _, _, h1, h2, _⟩
  · exact ⟨none, 0, rfl, Nat.le_refl _, Nat.zero_le _, fun _ => rfl⟩
  · exact ⟨some ⟨g, 0, none⟩, cap, rfl, h1, h2, fun h => by cases h⟩
theorem ints_oneCell (k : IntKind) (xs : List Int) : ∀ u ∈ xs.map (Value.int k), u.oneCell' = true := by
  intro u hu
  obtain ⟨z, _, rfl⟩ := List.mem_map.1 hu
  rfl
theorem wf_u8 {z : Int} (h : 0 ≤ z ∧ z ≤ 255) : (Lit.int .u8 z).wf = true := by
  simp [Lit.wf, IntKind.min, IntKind.max, IntKind.signed, IntKind.bits]; omega
theorem wf_u64 {z : Int} (h : 0 ≤ z ∧ z ≤ 18446744073709551615) : (Lit.int .u64 z).wf = true := by
  simp [Lit.wf, IntKind.min, IntKind.max, IntKind.signed, IntKind.bits]; omega
theorem wf_i64 {z : Int} (h : -9223372036854775808 ≤ z ∧ z ≤ 9223372036854775807) : (Lit.int .i64 z).wf = true := by
  simp [Lit.wf, IntKind.min, IntKind.max, IntKind.signed, IntKind.bits]; omega
theorem nil_cap {k : IntKind} {w : World} {a : Option Addr} {len cap : Nat} {zs : List Int} (h : IsRow k w a len cap zs) : a = none → cap = 0 := by
  intro ha
  rcases h with ⟨_, _, h, _⟩ | ⟨x, hx, _⟩
  · exact h
  · rw [ha] at hx; cases hx
theorem run_index_ints {P : Program} (w : World) {T E : TypeId} {n : Nat} {kk : IntKind} {i0 : TypeInfo} (ht : P.underlying T = some (.array n E)) (he : P.underlying E = some (.int kk)) (hc : P.cellsOf E = 1) (hi : P.info? E = some i0)
    (cs : Array Value) (k : IntKind) (i : Int) (u : Value) (h0 : 0 ≤ i) (h1 : i < n) (hu : cs[i.toNat]? = some u) : (Instr.index T (.agg cs) (.int k i)).run P w = .ok u w := by
  simp [Instr.index, asIntOf, run_underlying ht, run_sizeOf w hi, hc, part, isAgg, run_underlying he, h0, h1, hu]
/-- '*p = v', v a whole array or struct, p the head of its own block -/
theorem wpList_store_row {P : Program} {w : World} {ops : Array Oper} {rest : List Oper} {o : Oper} {a : Act} {Q : Exit → Act → World → Prop} (hgd : o.guard = none) (T : TypeId) (p x : Operand) (ho : o.op = .store T p x)
    (g : Nat) (cur cs : Array Value) (t : TypeId) (hp : a.eval p = .pointer (some ⟨g, 0, none⟩)) (hx : a.eval x = .agg cs) (hg : w.heap[g]? = some (.cells cur t (0, 0))) (hsz : cs.size = cur.size)
    {i0 : TypeInfo} (hi : P.info? T = some i0) (hT : P.cellsOf T = cs.size) (h1 : ∀ v ∈ cs.toList, v.oneCell' = true)
    (h : wpList P ops Q rest (a.put o.dst undef) (w.setRow g cs)) : wpList P ops Q (o :: rest) a w := by
  refine wpList_plain hgd fun K hK => ?_
  have hs := run_storeCells_at (P := P) g 0 t cs.toList 0 cur w hg (by simp [hsz]) h1
  have e : (cur.toList.take (0 + 0) ++ cs.toList ++ cur.toList.drop (0 + 0 + cs.toList.length)).toArray = cs := by
    have hd : cur.toList.drop (0 + 0 + cs.toList.length) = [] := List.drop_eq_nil_of_le (by simp [hsz])
    rw [hd]; simp
  rw [e] at hs
  have hv : (storeVar T ⟨g, 0, none⟩ (.agg cs)).run P w = .ok () (w.setRow g cs) := by
    have hc : (Value.agg cs).cells = cs := rfl
    simp only [storeVar, Sem.run_bind, run_sizeOf w hi, Result.andThen_ok, hc, hT, ne_eq, not_true_eq_false, if_false]
    exact hs
  unfold Oper.wp execOp
  simp only [ho, hp, hx, Instr.storeAt, Instr.sureAddr, Sem.run_bind, Sem.run_pure, Result.andThen_ok, hv]
  exact hK _ _ h
theorem keep1 {w W w' : World} {p1 : Addr} {v1 : Value} (hb : Below W.heap.size W w') (h : W.cell? p1 = some v1 ∧ Below w.heap.size w W) : w'.cell? p1 = some v1 ∧ Below w.heap.size w w' := by
  obtain ⟨h1, hB⟩ := h
  exact ⟨(hb.cell (cell_lt h1)).trans h1, hB.trans (hb.mono hB.size)⟩
theorem keepA1 {w W : World} {p1 : Addr} {v1 : Value} (o : Obj) (h : W.cell? p1 = some v1 ∧ Below w.heap.size w W) : (W.alloc o).cell? p1 = some v1 ∧ Below w.heap.size w (W.alloc o) := by
  obtain ⟨h1, hB⟩ := h
  exact ⟨(World.cell?_alloc_lt W o p1 (cell_lt h1)).trans h1, hB.alloc hB.size o⟩
theorem keepD1 {w W : World} {p1 : Addr} {v1 : Value} (h : W.cell? p1 = some v1 ∧ Below w.heap.size w W) : W.drew.cell? p1 = some v1 ∧ Below w.heap.size w W.drew := by
  obtain ⟨h1, hB⟩ := h
  exact ⟨h1, hB.drew⟩
theorem keep2 {w W w' : World} {p1 p2 : Addr} {v1 v2 : Value} (hb : Below W.heap.size W w') (h : W.cell? p1 = some v1 ∧ W.cell? p2 = some v2 ∧ Below w.heap.size w W) : w'.cell? p1 = some v1 ∧ w'.cell? p2 = some v2 ∧ Below w.heap.size w w' := by
  obtain ⟨h1, h2, hB⟩ := h
  exact ⟨(hb.cell (cell_lt h1)).trans h1, (hb.cell (cell_lt h2)).trans h2, hB.trans (hb.mono hB.size)⟩
theorem keepA2 {w W : World} {p1 p2 : Addr} {v1 v2 : Value} (o : Obj) (h : W.cell? p1 = some v1 ∧ W.cell? p2 = some v2 ∧ Below w.heap.size w W) : (W.alloc o).cell? p1 = some v1 ∧ (W.alloc o).cell? p2 = some v2 ∧ Below w.heap.size w (W.alloc o) := by
  obtain ⟨h1, h2, hB⟩ := h
  exact ⟨(World.cell?_alloc_lt W o p1 (cell_lt h1)).trans h1, (World.cell?_alloc_lt W o p2 (cell_lt h2)).trans h2, hB.alloc hB.size o⟩
theorem keepD2 {w W : World} {p1 p2 : Addr} {v1 v2 : Value} (h : W.cell? p1 = some v1 ∧ W.cell? p2 = some v2 ∧ Below w.heap.size w W) : W.drew.cell? p1 = some v1 ∧ W.drew.cell? p2 = some v2 ∧ Below w.heap.size w W.drew := by
  obtain ⟨h1, h2, hB⟩ := h
  exact ⟨h1, h2, hB.drew⟩
theorem keep3 {w W w' : World} {p1 p2 p3 : Addr} {v1 v2 v3 : Value} (hb : Below W.heap.size W w') (h : W.cell? p1 = some v1 ∧ W.cell? p2 = some v2 ∧ W.cell? p3 = some v3 ∧ Below w.heap.size w W) : w'.cell? p1 = some v1 ∧ w'.cell? p2 = some v2 ∧ w'.cell? p3 = some v3 ∧ Below w.heap.size w w' := by
  obtain ⟨h1, h2, h3, hB⟩ := h
  exact ⟨(hb.cell (cell_lt h1)).trans h1, (hb.cell (cell_lt h2)).trans h2, (hb.cell (cell_lt h3)).trans h3, hB.trans (hb.mono hB.size)⟩
theorem keepA3 {w W : World} {p1 p2 p3 : Addr} {v1 v2 v3 : Value} (o : Obj) (h : W.cell? p1 = some v1 ∧ W.cell? p2 = some v2 ∧ W.cell? p3 = some v3 ∧ Below w.heap.size w W) : (W.alloc o).cell? p1 = some v1 ∧ (W.alloc o).cell? p2 = some v2 ∧ (W.alloc o).cell? p3 = some v3 ∧ Below w.heap.size w (W.alloc o) := by
  obtain ⟨h1, h2, h3, hB⟩ := h
  exact ⟨(World.cell?_alloc_lt W o p1 (cell_lt h1)).trans h1, (World.cell?_alloc_lt W o p2 (cell_lt h2)).trans h2, (World.cell?_alloc_lt W o p3 (cell_lt h3)).trans h3, hB.alloc hB.size o⟩
theorem keepD3 {w W : World} {p1 p2 p3 : Addr} {v1 v2 v3 : Value} (h : W.cell? p1 = some v1 ∧ W.cell? p2 = some v2 ∧ W.cell? p3 = some v3 ∧ Below w.heap.size w W) : W.drew.cell? p1 = some v1 ∧ W.drew.cell? p2 = some v2 ∧ W.drew.cell? p3 = some v3 ∧ Below w.heap.size w W.drew := by
  obtain ⟨h1, h2, h3, hB⟩ := h
  exact ⟨h1, h2, h3, hB.drew⟩
theorem keep4 {w W w' : World} {p1 p2 p3 p4 : Addr} {v1 v2 v3 v4 : Value} (hb : Below W.heap.size W w') (h : W.cell? p1 = some v1 ∧ W.cell? p2 = some v2 ∧ W.cell? p3 = some v3 ∧ W.cell? p4 = some v4 ∧ Below w.heap.size w W) : w'.cell? p1 = some v1 ∧ w'.cell? p2 = some v2 ∧ w'.cell? p3 = some v3 ∧ w'.cell? p4 = some v4 ∧ Below w.heap.size w w' := by
  obtain ⟨h1, h2, h3, h4, hB⟩ := h
  exact ⟨(hb.cell (cell_lt h1)).trans h1, (hb.cell (cell_lt h2)).trans h2, (hb.cell (cell_lt h3)).trans h3, (hb.cell (cell_lt h4)).trans h4, hB.trans (hb.mono hB.size)⟩
theorem keepA4 {w W : World} {p1 p2 p3 p4 : Addr} {v1 v2 v3 v4 : Value} (o : Obj) (h : W.cell? p1 = some v1 ∧ W.cell? p2 = some v2 ∧ W.cell? p3 = some v3 ∧ W.cell? p4 = some v4 ∧ Below w.heap.size w W) : (W.alloc o).cell? p1 = some v1 ∧ (W.alloc o).cell? p2 = some v2 ∧ (W.alloc o).cell? p3 = some v3 ∧ (W.alloc o).cell? p4 = some v4 ∧ Below w.heap.size w (W.alloc o) := by
  obtain ⟨h1, h2, h3, h4, hB⟩ := h
  exact ⟨(World.cell?_alloc_lt W o p1 (cell_lt h1)).trans h1, (World.cell?_alloc_lt W o p2 (cell_lt h2)).trans h2, (World.cell?_alloc_lt W o p3 (cell_lt h3)).trans h3, (World.cell?_alloc_lt W o p4 (cell_lt h4)).trans h4, hB.alloc hB.size o⟩
theorem keepD4 {w W : World} {p1 p2 p3 p4 : Addr} {v1 v2 v3 v4 : Value} (h : W.cell? p1 = some v1 ∧ W.cell? p2 = some v2 ∧ W.cell? p3 = some v3 ∧ W.cell? p4 = some v4 ∧ Below w.heap.size w W) : W.drew.cell? p1 = some v1 ∧ W.drew.cell? p2 = some v2 ∧ W.drew.cell? p3 = some v3 ∧ W.drew.cell? p4 = some v4 ∧ Below w.heap.size w W.drew := by
  obtain ⟨h1, h2, h3, h4, hB⟩ := h
  exact ⟨h1, h2, h3, h4, hB.drew⟩
theorem keep5 {w W w' : World} {p1 p2 p3 p4 p5 : Addr} {v1 v2 v3 v4 v5 : Value} (hb : Below W.heap.size W w') (h : W.cell? p1 = some v1 ∧ W.cell? p2 = some v2 ∧ W.cell? p3 = some v3 ∧ W.cell? p4 = some v4 ∧ W.cell? p5 = some v5 ∧ Below w.heap.size w W) : w'.cell? p1 = some v1 ∧ w'.cell? p2 = some v2 ∧ w'.cell? p3 = some v3 ∧ w'.cell? p4 = some v4 ∧ w'.cell? p5 = some v5 ∧ Below w.heap.size w w' := by
  obtain ⟨h1, h2, h3, h4, h5, hB⟩ := h
  exact ⟨(hb.cell (cell_lt h1)).trans h1, (hb.cell (cell_lt h2)).trans h2, (hb.cell (cell_lt h3)).trans h3, (hb.cell (cell_lt h4)).trans h4, (hb.cell (cell_lt h5)).trans h5, hB.trans (hb.mono hB.size)⟩
theorem keepA5 {w W : World} {p1 p2 p3 p4 p5 : Addr} {v1 v2 v3 v4 v5 : Value} (o : Obj) (h : W.cell? p1 = some v1 ∧ W.cell? p2 = some v2 ∧ W.cell? p3 = some v3 ∧ W.cell? p4 = some v4 ∧ W.cell? p5 = some v5 ∧ Below w.heap.size w W) : (W.alloc o).cell? p1 = some v1 ∧ (W.alloc o).cell? p2 = some v2 ∧ (W.alloc o).cell? p3 = some v3 ∧ (W.alloc o).cell? p4 = some v4 ∧ (W.alloc o).cell? p5 = some v5 ∧ Below w.heap.size w (W.alloc o) := by
  obtain ⟨h1, h2, h3, h4, h5, hB⟩ := h
  exact ⟨(World.cell?_alloc_lt W o p1 (cell_lt h1)).trans h1, (World.cell?_alloc_lt W o p2 (cell_lt h2)).trans h2, (World.cell?_alloc_lt W o p3 (cell_lt h3)).trans h3, (World.cell?_alloc_lt W o p4 (cell_lt h4)).trans h4, (World.cell?_alloc_lt W o p5 (cell_lt h5)).trans h5, hB.alloc hB.size o⟩
theorem keepD5 {w W : World} {p1 p2 p3 p4 p5 : Addr} {v1 v2 v3 v4 v5 : Value} (h : W.cell? p1 = some v1 ∧ W.cell? p2 = some v2 ∧ W.cell? p3 = some v3 ∧ W.cell? p4 = some v4 ∧ W.cell? p5 = some v5 ∧ Below w.heap.size w W) : W.drew.cell? p1 = some v1 ∧ W.drew.cell? p2 = some v2 ∧ W.drew.cell? p3 = some v3 ∧ W.drew.cell? p4 = some v4 ∧ W.drew.cell? p5 = some v5 ∧ Below w.heap.size w W.drew := by
  obtain ⟨h1, h2, h3, h4, h5, hB⟩ := h
  exact ⟨h1, h2, h3, h4, h5, hB.drew⟩
theorem keep6 {w W w' : World} {p1 p2 p3 p4 p5 p6 : Addr} {v1 v2 v3 v4 v5 v6 : Value} (hb : Below W.heap.size W w') (h : W.cell? p1 = some v1 ∧ W.cell? p2 = some v2 ∧ W.cell? p3 = some v3 ∧ W.cell? p4 = some v4 ∧ W.cell? p5 = some v5 ∧ W.cell? p6 = some v6 ∧ Below w.heap.size w W) : w'.cell? p1 = some v1 ∧ w'.cell? p2 = some v2 ∧ w'.cell? p3 = some v3 ∧ w'.cell? p4 = some v4 ∧ w'.cell? p5 = some v5 ∧ w'.cell? p6 = some v6 ∧ Below w.heap.size w w' := by
  obtain ⟨h1, h2, h3, h4, h5, h6, hB⟩ := h
  exact ⟨(hb.cell (cell_lt h1)).trans h1, (hb.cell (cell_lt h2)).trans h2, (hb.cell (cell_lt h3)).trans h3, (hb.cell (cell_lt h4)).trans h4, (hb.cell (cell_lt h5)).trans h5, (hb.cell (cell_lt h6)).trans h6, hB.trans (hb.mono hB.size)⟩
theorem keepA6 {w W : World} {p1 p2 p3 p4 p5 p6 : Addr} {v1 v2 v3 v4 v5 v6 : Value} (o : Obj) (h : W.cell? p1 = some v1 ∧ W.cell? p2 = some v2 ∧ W.cell? p3 = some v3 ∧ W.cell? p4 = some v4 ∧ W.cell? p5 = some v5 ∧ W.cell? p6 = some v6 ∧ Below w.heap.size w W) : (W.alloc o).cell? p1 = some v1 ∧ (W.alloc o).cell? p2 = some v2 ∧ (W.alloc o).cell? p3 = some v3 ∧ (W.alloc o).cell? p4 = some v4 ∧ (W.alloc o).cell? p5 = some v5 ∧ (W.alloc o).cell? p6 = some v6 ∧ Below w.heap.size w (W.alloc o) := by
  obtain ⟨h1, h2, h3, h4, h5, h6, hB⟩ := h
  exact ⟨(World.cell?_alloc_lt W o p1 (cell_lt h1)).trans h1, (World.cell?_alloc_lt W o p2 (cell_lt h2)).trans h2, (World.cell?_alloc_lt W o p3 (cell_lt h3)).trans h3, (World.cell?_alloc_lt W o p4 (cell_lt h4)).trans h4, (World.cell?_alloc_lt W o p5 (cell_lt h5)).trans h5, (World.cell?_alloc_lt W o p6 (cell_lt h6)).trans h6, hB.alloc hB.size o⟩
theorem keepD6 {w W : World} {p1 p2 p3 p4 p5 p6 : Addr} {v1 v2 v3 v4 v5 v6 : Value} (h : W.cell? p1 = some v1 ∧ W.cell? p2 = some v2 ∧ W.cell? p3 = some v3 ∧ W.cell? p4 = some v4 ∧ W.cell? p5 = some v5 ∧ W.cell? p6 = some v6 ∧ Below w.heap.size w W) : W.drew.cell? p1 = some v1 ∧ W.drew.cell? p2 = some v2 ∧ W.drew.cell? p3 = some v3 ∧ W.drew.cell? p4 = some v4 ∧ W.drew.cell? p5 = some v5 ∧ W.drew.cell? p6 = some v6 ∧ Below w.heap.size w W.drew := by
  obtain ⟨h1, h2, h3, h4, h5, h6, hB⟩ := h
  exact ⟨h1, h2, h3, h4, h5, h6, hB.drew⟩
end Go.Proofs.Ytmekhdclnhhhbaa
