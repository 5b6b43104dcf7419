/- One lemma an operation. -/
import Derived.Test.YtmekhdclnhhhbaaSp2
namespace Go.Proofs.Ytmekhdclnhhhbaa
set_option linter.unusedSimpArgs false
set_option linter.unusedVariables false
open Go.RowKit
theorem wI {z : Int} (h : -9223372036854775808 ≤ z ∧ z ≤ 9223372036854775807) : IntKind.i64.wrap z = z := IntWalk.i64_in _ h
theorem wU {z : Int} (h : 0 ≤ z ∧ z ≤ 18446744073709551615) : IntKind.u64.wrap z = z := IntWalk.u64_in _ h
theorem wB {z : Int} (h : 0 ≤ z ∧ z ≤ 255) : IntKind.u8.wrap z = z := IntWalk.u8_in _ h
theorem getE {α : Type} [Inhabited α] {xs : List α} {i : Nat} (h : i < xs.length) : xs[i]? = some (xs.getD i default) := by
  rw [List.getD_eq_getElem?_getD, List.getElem?_eq_getElem h]; rfl
theorem add_plain (b o m : Nat) : (⟨b, o, none⟩ : Addr).add m = ⟨b, o + m, none⟩ := by
  unfold Addr.add; split
  · subst_vars; rfl
  · rfl
section
variable {P : Program} {n : Nat} {f : Nat → Value} {W : World} {dst : Option Tmp} {ty : TypeId} {pos : String} {af : Array Edge} {g : Option (Nat × Bool)} {x y : Operand} {v u : Value} {k : IntKind} {a b c d : Int} {t t2 e : TypeId}
theorem r_mv (hx : ev n f x = v) : (execOp (ev n f) ⟨dst, .move x, ty, pos, af, g⟩).run P W = .ok (.value v) W := by simp only [execOp, hx]; rfl
theorem r_as (hx : ev n f x = v) : (execOp (ev n f) ⟨dst, .assign x, ty, pos, af, g⟩).run P W = .ok (.value v) W := by simp only [execOp, hx]; rfl
theorem r_pkT {z : Operand} (hx : ev n f x = .bool true) (hy : ev n f y = v) : (execOp (ev n f) ⟨dst, .pick x y z, ty, pos, af, g⟩).run P W = .ok (.value v) W := by simp only [execOp, hx, hy]; rfl
theorem r_pkF {z : Operand} (hx : ev n f x = .bool false) (hz : ev n f z = v) : (execOp (ev n f) ⟨dst, .pick x y z, ty, pos, af, g⟩).run P W = .ok (.value v) W := by simp only [execOp, hx, hz]; rfl
theorem r_nc {p : Addr} (hx : ev n f x = .pointer (some p)) : (execOp (ev n f) ⟨dst, .nilCheck x, ty, pos, af, g⟩).run P W = .ok (.value (.pointer (some p))) W := by simp only [execOp, hx]; rfl
theorem r_fa {p o m i : Nat} (hx : ev n f x = .pointer (some ⟨p, o, none⟩)) (hf : ∀ (a : Addr) (W : World), (Instr.fieldAt t (.pointer (some a)) i).run P W = .ok (.pointer (some (a.add m))) W) :
    (execOp (ev n f) ⟨dst, .fieldAddr t x i, ty, pos, af, g⟩).run P W = .ok (.value (.pointer (some ⟨p, o + m, none⟩))) W := by
  simp only [execOp, hx, Sem.run_bind, hf, Result.andThen_ok, add_plain]; rfl
theorem r_fa0 {p m i : Nat} (hx : ev n f x = .pointer (some ⟨p, 0, none⟩)) (hf : ∀ (a : Addr) (W : World), (Instr.fieldAt t (.pointer (some a)) i).run P W = .ok (.pointer (some (a.add m))) W) :
    (execOp (ev n f) ⟨dst, .fieldAddr t x i, ty, pos, af, g⟩).run P W = .ok (.value (.pointer (some ⟨p, m, none⟩))) W := by
  have := r_fa (P := P) (W := W) (dst := dst) (ty := ty) (pos := pos) (af := af) (g := g) hx hf
  rw [this, Nat.zero_add]
/-! memory -/
theorem r_lo {L : List Ent} {w0 : World} {F : List Nat} (H : Heap w0 F L W) (j : Nat) {p o : Nat} {cs : List Value} {T : TypeId} (hx : ev n f x = .pointer (some ⟨p, o, none⟩)) (hj : L[j]? = some (blk p cs T)) (hv : cs[o]? = some v)
    (hagg : ∀ W, (isAgg t).run P W = .ok false W) : (execOp (ev n f) ⟨dst, .load t x, ty, pos, af, g⟩).run P W = .ok (.value v) W := by
  have hc : W.cell? ⟨p, o, none⟩ = some v := by rw [Joins.cell_of_block (H.blk_get j hj)]; simpa using hv
  have h2 : (load ⟨p, o, none⟩).run P W = .ok v W := by simp [load, Sem.run, hc]
  simp only [execOp, Instr.loadAt, loadVar, hx, Instr.sureAddr, Sem.run_bind, Sem.run_pure, Result.andThen_ok, hagg, Bool.false_eq_true, if_false, h2]
theorem r_lv {α : Type} {enc : α → Value} {L : List Ent} {w0 : World} {F : List Nat} (H : Heap w0 F L W) (j : Nat) {p i : Nat} {xs : List α} {T : TypeId} {z : α} (hx : ev n f x = .pointer (some ⟨p, i, none⟩)) (hj : L[j]? = some (vec enc p xs T)) (hv : xs[i]? = some z)
    (hagg : ∀ W, (isAgg t).run P W = .ok false W) : (execOp (ev n f) ⟨dst, .load t x, ty, pos, af, g⟩).run P W = .ok (.value (enc z)) W := by
  have h0 : xs.length ≠ 0 := by have := (List.getElem?_eq_some_iff.1 hv).1; omega
  obtain ⟨rest, hr⟩ := H.vec_get j hj h0
  have hc := vec_cell hr hv
  have h2 : (load ⟨p, i, none⟩).run P W = .ok (enc z) W := by simp [load, Sem.run, hc]
  simp only [execOp, Instr.loadAt, loadVar, hx, Instr.sureAddr, Sem.run_bind, Sem.run_pure, Result.andThen_ok, hagg, Bool.false_eq_true, if_false, h2]
/-- a cell of an old block -/
theorem r_lr {L : List Ent} {w0 : World} {F : List Nat} (H : Heap w0 F L W) {p i : Nat} (hx : ev n f x = .pointer (some ⟨p, i, none⟩)) (hc : w0.cell? ⟨p, i, none⟩ = some v) (hF : p ∉ F)
    (hagg : ∀ W, (isAgg t).run P W = .ok false W) : (execOp (ev n f) ⟨dst, .load t x, ty, pos, af, g⟩).run P W = .ok (.value v) W := by
  have hlt : p < w0.heap.size := cell_lt hc
  have hc2 : W.cell? ⟨p, i, none⟩ = some v := by
    rw [World.cell?_of_block (w := w0) (H.only.block p hlt hF)]; exact hc
  have h2 : (load ⟨p, i, none⟩).run P W = .ok v W := by simp [load, Sem.run, hc2]
  simp only [execOp, Instr.loadAt, loadVar, hx, Instr.sureAddr, Sem.run_bind, Sem.run_pure, Result.andThen_ok, hagg, Bool.false_eq_true, if_false, h2]
/-! integers -/
theorem r_add (hx : ev n f x = .int k a) (hy : ev n f y = .int k b) (hr : k.wrap (a + b) = c) : (execOp (ev n f) ⟨dst, .binOp .add t x y t2, ty, pos, af, g⟩).run P W = .ok (.value (.int k c)) W := by
  simp [execOp, hx, hy, eqGuard, binOp, Op.intArith, hr]
theorem r_sub (hx : ev n f x = .int k a) (hy : ev n f y = .int k b) (hr : k.wrap (a - b) = c) : (execOp (ev n f) ⟨dst, .binOp .sub t x y t2, ty, pos, af, g⟩).run P W = .ok (.value (.int k c)) W := by
  simp [execOp, hx, hy, eqGuard, binOp, Op.intArith, hr]
theorem r_mul (hx : ev n f x = .int k a) (hy : ev n f y = .int k b) (hr : k.wrap (a * b) = c) : (execOp (ev n f) ⟨dst, .binOp .mul t x y t2, ty, pos, af, g⟩).run P W = .ok (.value (.int k c)) W := by
  simp [execOp, hx, hy, eqGuard, binOp, Op.intArith, hr]
theorem r_quo (hx : ev n f x = .int k a) (hy : ev n f y = .int k b) (h0 : 0 ≤ a ∧ 0 < b) (hr : k.wrap (a / b) = c) : (execOp (ev n f) ⟨dst, .binOp .quo t x y t2, ty, pos, af, g⟩).run P W = .ok (.value (.int k c)) W := by
  have hb : b ≠ 0 := by omega
  simp [execOp, hx, hy, eqGuard, binOp, Op.intDiv, hb, Int.tdiv_eq_ediv_of_nonneg h0.1, hr]
theorem r_rem (hx : ev n f x = .int k a) (hy : ev n f y = .int k b) (h0 : 0 ≤ a ∧ 0 < b) : (execOp (ev n f) ⟨dst, .binOp .rem t x y t2, ty, pos, af, g⟩).run P W = .ok (.value (.int k (a % b))) W := by
  have hb : b ≠ 0 := by omega
  simp [execOp, hx, hy, eqGuard, binOp, Op.intDiv, hb, Int.tmod_eq_emod_of_nonneg h0.1]
theorem r_lssT (hx : ev n f x = .int k a) (hy : ev n f y = .int k b) (h : a < b) : (execOp (ev n f) ⟨dst, .binOp .lss t x y t2, ty, pos, af, g⟩).run P W = .ok (.value (.bool true)) W := by
  simp [execOp, hx, hy, eqGuard, binOp, Op.intCmp, h]; try omega
theorem r_lssF (hx : ev n f x = .int k a) (hy : ev n f y = .int k b) (h : ¬ a < b) : (execOp (ev n f) ⟨dst, .binOp .lss t x y t2, ty, pos, af, g⟩).run P W = .ok (.value (.bool false)) W := by
  simp [execOp, hx, hy, eqGuard, binOp, Op.intCmp, h]; try omega
theorem r_leqT (hx : ev n f x = .int k a) (hy : ev n f y = .int k b) (h : a ≤ b) : (execOp (ev n f) ⟨dst, .binOp .leq t x y t2, ty, pos, af, g⟩).run P W = .ok (.value (.bool true)) W := by
  simp [execOp, hx, hy, eqGuard, binOp, Op.intCmp, h]; try omega
theorem r_leqF (hx : ev n f x = .int k a) (hy : ev n f y = .int k b) (h : ¬ a ≤ b) : (execOp (ev n f) ⟨dst, .binOp .leq t x y t2, ty, pos, af, g⟩).run P W = .ok (.value (.bool false)) W := by
  simp [execOp, hx, hy, eqGuard, binOp, Op.intCmp, h]; try omega
theorem r_gtrT (hx : ev n f x = .int k a) (hy : ev n f y = .int k b) (h : b < a) : (execOp (ev n f) ⟨dst, .binOp .gtr t x y t2, ty, pos, af, g⟩).run P W = .ok (.value (.bool true)) W := by
  simp [execOp, hx, hy, eqGuard, binOp, Op.intCmp, h]; try omega
theorem r_gtrF (hx : ev n f x = .int k a) (hy : ev n f y = .int k b) (h : ¬ b < a) : (execOp (ev n f) ⟨dst, .binOp .gtr t x y t2, ty, pos, af, g⟩).run P W = .ok (.value (.bool false)) W := by
  simp [execOp, hx, hy, eqGuard, binOp, Op.intCmp, h]; try omega
theorem r_geqT (hx : ev n f x = .int k a) (hy : ev n f y = .int k b) (h : b ≤ a) : (execOp (ev n f) ⟨dst, .binOp .geq t x y t2, ty, pos, af, g⟩).run P W = .ok (.value (.bool true)) W := by
  simp [execOp, hx, hy, eqGuard, binOp, Op.intCmp, h]; try omega
theorem r_geqF (hx : ev n f x = .int k a) (hy : ev n f y = .int k b) (h : ¬ b ≤ a) : (execOp (ev n f) ⟨dst, .binOp .geq t x y t2, ty, pos, af, g⟩).run P W = .ok (.value (.bool false)) W := by
  simp [execOp, hx, hy, eqGuard, binOp, Op.intCmp, h]; try omega
theorem r_eqlT (hx : ev n f x = .int k a) (hy : ev n f y = .int k b) (h : a = b) : (execOp (ev n f) ⟨dst, .binOp .eql t x y t2, ty, pos, af, g⟩).run P W = .ok (.value (.bool true)) W := by
  simp [execOp, hx, hy, eqGuard, binOp, Op.intCmp, h]; try omega
theorem r_eqlF (hx : ev n f x = .int k a) (hy : ev n f y = .int k b) (h : ¬ a = b) : (execOp (ev n f) ⟨dst, .binOp .eql t x y t2, ty, pos, af, g⟩).run P W = .ok (.value (.bool false)) W := by
  simp [execOp, hx, hy, eqGuard, binOp, Op.intCmp, h]; try omega
theorem r_neqT (hx : ev n f x = .int k a) (hy : ev n f y = .int k b) (h : ¬ a = b) : (execOp (ev n f) ⟨dst, .binOp .neq t x y t2, ty, pos, af, g⟩).run P W = .ok (.value (.bool true)) W := by
  simp [execOp, hx, hy, eqGuard, binOp, Op.intCmp, h]; try omega
theorem r_neqF (hx : ev n f x = .int k a) (hy : ev n f y = .int k b) (h : a = b) : (execOp (ev n f) ⟨dst, .binOp .neq t x y t2, ty, pos, af, g⟩).run P W = .ok (.value (.bool false)) W := by
  simp [execOp, hx, hy, eqGuard, binOp, Op.intCmp, h]; try omega
theorem r_not {q : Bool} (hx : ev n f x = .bool q) : (execOp (ev n f) ⟨dst, .unOp .not t x, ty, pos, af, g⟩).run P W = .ok (.value (.bool (!q))) W := by
  simp [execOp, hx, Op.unary]
theorem r_notT (hx : ev n f x = .bool true) : (execOp (ev n f) ⟨dst, .unOp .not t x, ty, pos, af, g⟩).run P W = .ok (.value (.bool false)) W := r_not hx
theorem r_notF (hx : ev n f x = .bool false) : (execOp (ev n f) ⟨dst, .unOp .not t x, ty, pos, af, g⟩).run P W = .ok (.value (.bool true)) W := r_not hx
theorem r_cv {s : TypeId} {k' : IntKind} (hx : ev n f x = .int k' a) (hs : (P.underlying s).isSome = true) (hd : P.underlying e = some (.int k)) (hr : k.wrap a = c) : (execOp (ev n f) ⟨dst, .convert s e x, ty, pos, af, g⟩).run P W = .ok (.value (.int k c)) W := by
  obtain ⟨d, hd'⟩ := Option.isSome_iff_exists.1 hs
  simp [execOp, hx, convert, run_underlying hd', run_underlying hd, Conv.intToInt, hr]
/-! slices -/
theorem r_len {A : Option Addr} {l c : Nat} (hx : ev n f x = .slice A l c) (h : P.underlying t = some (.slice e)) : (execOp (ev n f) ⟨dst, .call ⟨.builtin .len, #[x], #[t]⟩, ty, pos, af, g⟩).run P W = .ok (.value (.int .i64 l)) W := by
  have h2 : (Builtin.len_ #[t] ty #[.slice A l c]).run P W = .ok (.int .i64 l) W := by simp [Builtin.len_, run_underlying h]; rfl
  have h3 : #[x].map (ev n f) = #[Value.slice A l c] := by simp [hx]
  simp only [execOp, resolve, invoke, builtin, h3, Sem.run_bind, Sem.run_pure, Result.andThen_ok, h2]
theorem r_ix {p o l c : Nat} {i : Nat} {m : Nat} (hx : ev n f x = .slice (some ⟨p, o, none⟩) l c) (hy : ev n f y = .int k a) (ha : a = (i : Int)) (hi : i < l) (h : P.underlying t = some (.slice e)) (hm : ∀ W, (Go.sizeOf e).run P W = .ok m W) :
    (execOp (ev n f) ⟨dst, .indexAddr t x y, ty, pos, af, g⟩).run P W = .ok (.value (.pointer (some ⟨p, o + i * m, none⟩))) W := by
  subst ha
  have h1 : (0 : Int) ≤ i ∧ (i : Int) < l := by omega
  simp only [execOp, Instr.indexAt, hx, hy, asIntOf, Sem.run_bind, run_underlying h, Result.andThen_ok, Sem.run_pure, h1, and_self, if_true, hm, Int.toNat_natCast, add_plain]
/-- of cells of one size -/
theorem r_ix1 {p l c : Nat} {i : Nat} (hx : ev n f x = .slice (some ⟨p, 0, none⟩) l c) (hy : ev n f y = .int k a) (ha : a = (i : Int)) (hi : i < l) (h : P.underlying t = some (.slice e)) (hm : ∀ W, (Go.sizeOf e).run P W = .ok 1 W) :
    (execOp (ev n f) ⟨dst, .indexAddr t x y, ty, pos, af, g⟩).run P W = .ok (.value (.pointer (some ⟨p, i, none⟩))) W := by
  have := r_ix (P := P) (W := W) (dst := dst) (ty := ty) (pos := pos) (af := af) (g := g) hx hy ha hi h hm
  rw [this]; simp
theorem r_ix1o {p o l c : Nat} {i : Nat} (hx : ev n f x = .slice (some ⟨p, o, none⟩) l c) (hy : ev n f y = .int k a) (ha : a = (i : Int)) (hi : i < l) (h : P.underlying t = some (.slice e)) (hm : ∀ W, (Go.sizeOf e).run P W = .ok 1 W) :
    (execOp (ev n f) ⟨dst, .indexAddr t x y, ty, pos, af, g⟩).run P W = .ok (.value (.pointer (some ⟨p, o + i, none⟩))) W := by
  have := r_ix (P := P) (W := W) (dst := dst) (ty := ty) (pos := pos) (af := af) (g := g) hx hy ha hi h hm
  rw [this]; simp
/-- s[lo:hi] -/
theorem r_sl {p o l c : Nat} {lo hi : Operand} {i j m : Nat} {k2 : IntKind} (hx : ev n f x = .slice (some ⟨p, o, none⟩) l c) (hl : ev n f lo = .int k a) (hh : ev n f hi = .int k2 b) (ha : a = (i : Int)) (hb : b = (j : Int)) (hij : i ≤ j ∧ j ≤ c) (h : P.underlying t = some (.slice e)) (hm : ∀ W, (Go.sizeOf e).run P W = .ok m W) :
    (execOp (ev n f) ⟨dst, .slice t x (some lo) (some hi) none, ty, pos, af, g⟩).run P W = .ok (.value (.slice (some (if c = i then ⟨p, o, none⟩ else ⟨p, o + i * m, none⟩)) (j - i) (c - i))) W := by
  subst ha; subst hb
  have h1 : (0 : Int) ≤ i ∧ (i : Int) ≤ j := by omega
  have h2 : (0 : Int) ≤ j ∧ (j : Int) ≤ c := by omega
  simp only [execOp, Instr.sliceAt, Instr.slice, Instr.sliceBounds, Instr.sliceBound, hx, hl, hh, asIntOf, Option.map_some, Option.map_none, Sem.run_bind, run_underlying h, Result.andThen_ok, Sem.run_pure, h1, h2, and_self, if_true, hm, Int.toNat_natCast, add_plain]
  split <;> rfl
end
/-! what stands under a guard -/
theorem g_on {ops : Array Oper} {n j : Nat} {f : Nat → Value} {dst : Option Tmp} {op : Op} {ty : TypeId} {pos : String} {af : Array Edge} {b : Bool} (t : Nat) (hj : (ops[j]?).bind (·.dst) = some t) (hv : ev n f (.tmp t) = .bool b) : Region.wanted ⟨dst, op, ty, pos, af, some (j, b)⟩ (yl n f ops) = true := by
  simp only [Region.wanted, yl, hj, hv]; simp
theorem g_off {ops : Array Oper} {n j : Nat} {f : Nat → Value} {dst : Option Tmp} {op : Op} {ty : TypeId} {pos : String} {af : Array Edge} {b c : Bool} (t : Nat) (hj : (ops[j]?).bind (·.dst) = some t) (hv : ev n f (.tmp t) = .bool c) (hc : c = !b) : Region.wanted ⟨dst, op, ty, pos, af, some (j, b)⟩ (yl n f ops) = false := by
  subst hc
  simp only [Region.wanted, yl, hj, hv]; simp
theorem g_un {ops : Array Oper} {n j : Nat} {f : Nat → Value} {dst : Option Tmp} {op : Op} {ty : TypeId} {pos : String} {af : Array Edge} {b : Bool} (t : Nat) (hj : (ops[j]?).bind (·.dst) = some t) (hv : ev n f (.tmp t) = undef) : Region.wanted ⟨dst, op, ty, pos, af, some (j, b)⟩ (yl n f ops) = false := by
  simp only [Region.wanted, yl, hj, hv]; simp [undef]
/-! what changes memory -/
section
variable {P : Program} {ops : Array Oper} {rest : List Oper} {n : Nat} {f : Nat → Value} {W w0 : World} {F : List Nat} {L : List Ent} {Q : Exit → Act → World → Prop} {k : Nat} {ty : TypeId} {pos : String} {af : Array Edge} {g : Option (Nat × Bool)} {x y : Operand} {v u : Value} {t e : TypeId}
theorem one_cells {u : Value} (h1 : u.oneCell' = true) : u.cells = #[u] := by cases u <;> simp_all [Value.oneCell', Value.cells]
theorem run_storeAt_cell {p : Addr} {c0 : Value} (hs : ∀ W, (Go.sizeOf t).run P W = .ok 1 W) (hc : W.cell? p = some c0) (hf : W.frozen? p = false) (h1 : u.oneCell' = true) : (Instr.storeAt t (.pointer (some p)) u).run P W = .ok () (W.setCell p u) := by
  have h2 := run_store P W p u .plain h1
  rw [hc] at h2
  simp only [hf, Bool.false_eq_true, if_false] at h2
  have h3 : p.add 0 = p := by simp [Addr.add]
  have h4 : (storeCells p [u]).run P W = .ok () (W.setCell p u) := by
    simp only [storeCells, Sem.run_bind, h3, h2, Result.andThen_ok]; rfl
  simp only [Instr.storeAt, storeVar, Instr.sureAddr, one_cells h1, Sem.run_bind, Sem.run_pure, Result.andThen_ok, hs]
  exact h4
theorem s_st (H : Heap w0 F L W) (j : Nat) {p o : Nat} {cs : List Value} {T : TypeId} {c0 : Value} (hw : Region.wanted ⟨none, .store t x y, ty, pos, af, g⟩ (yl n f ops) = true) (hx : ev n f x = .pointer (some ⟨p, o, none⟩)) (hy : ev n f y = u) (hj : L[j]? = some (blk p cs T)) (hv : cs[o]? = some c0) (h1 : u.oneCell' = true) (hs : ∀ W, (Go.sizeOf t).run P W = .ok 1 W)
    (h : ∀ W', Heap w0 F (L.set j (blk p (cs.set o u) T)) W' → SL P ops Q rest n f W') : SL P ops Q (⟨none, .store t x y, ty, pos, af, g⟩ :: rest) n f W := by
  have hg := H.blk_get j hj
  have hc : W.cell? ⟨p, o, none⟩ = some c0 := by rw [Joins.cell_of_block hg]; simpa using hv
  have hr := run_storeAt_cell (P := P) (t := t) hs hc (frozen_of_row W p o cs.toArray T hg) h1
  exact s_do (W' := W.setCell ⟨p, o, none⟩ u) rfl hw (by simp only [execOp, hx, hy, Sem.run_bind, hr, Result.andThen_ok]; rfl) (h _ (H.blk_set j hj))
theorem s_sv {α : Type} {enc : α → Value} (H : Heap w0 F L W) (j : Nat) {p i : Nat} {xs : List α} {T : TypeId} {z : α} (hw : Region.wanted ⟨none, .store t x y, ty, pos, af, g⟩ (yl n f ops) = true) (hx : ev n f x = .pointer (some ⟨p, i, none⟩)) (hy : ev n f y = u) (hj : L[j]? = some (vec enc p xs T)) (hz : u = enc z) (hi : i < xs.length) (h1 : ∀ q, (enc q).oneCell' = true) (hs : ∀ W, (Go.sizeOf t).run P W = .ok 1 W)
    (h : ∀ W', Heap w0 F (L.set j (vec enc p (xs.set i z) T)) W' → SL P ops Q rest n f W') : SL P ops Q (⟨none, .store t x y, ty, pos, af, g⟩ :: rest) n f W := by
  subst hz
  obtain ⟨rs, hg⟩ := H.vec_get j hj (by omega)
  have hc := vec_cell hg (List.getElem?_eq_getElem hi)
  have hr := run_storeAt_cell (P := P) (t := t) (u := enc z) hs hc (frozen_of_row W p i _ T hg) (h1 z)
  exact s_do (W' := W.setCell ⟨p, i, none⟩ (enc z)) rfl hw (by simp only [execOp, hx, hy, Sem.run_bind, hr, Result.andThen_ok]; rfl) (h _ (H.vec_set j hj hi))
/-! calls -/
theorem s_call {R : Ending → World → Prop} {fn : FuncId} {xs : Array Operand} {tys : Array TypeId} {vs : List Value} (hw : Region.wanted ⟨some k, .call ⟨.value (.func fn), xs, tys⟩, ty, pos, af, g⟩ (yl n f ops) = true)
    (hc : Calls P fn vs.toArray W R) (hrun : ∀ W, (execOp (ev n f) ⟨some k, .call ⟨.value (.func fn), xs, tys⟩, ty, pos, af, g⟩).run P W = .ok (.enter fn vs.toArray) W)
    (h : ∀ e W', R e W' → ∃ v, e = .returned v ∧ SL P ops Q rest n (upd f k v) W') : SL P ops Q (⟨some k, .call ⟨.value (.func fn), xs, tys⟩, ty, pos, af, g⟩ :: rest) n f W := by
  constructor
  have hy : yielded ops (Fn n f).tmps = yl n f ops := funext (yl_eq n f ops)
  unfold wpList
  rw [hy, if_pos hw]
  refine .inl ?_
  unfold Oper.wp
  rw [Fn_eval, hrun, Oper.upon_enter]
  refine hc.mono fun e W' hR => ?_
  obtain ⟨v, rfl, h2⟩ := h e W' hR
  show wpList P ops Q rest ((Fn n f).put (some k) v) W'
  rw [Fn_put]; exact h2.out
theorem run_callFunc {fn : FuncId} {F : Func} (hf : P.funcs[fn]? = some F) (hn : (F.name == "runtime.NumGoroutine") = false) (hb : F.body.isNone = false) (vs : Array Value) : (callFunc fn vs).run P W = .ok (.enter fn vs) W := by
  unfold callFunc
  rw [Sem.run_bind]
  have hp : (program : Sem Program).run P W = .ok P W := rfl
  rw [hp, Result.andThen_ok]
  simp only [hf, hn, hb, Bool.false_eq_true, if_false]
  rfl
theorem r_call {fn : FuncId} {F : Func} {xs : Array Operand} {tys : Array TypeId} {dst : Option Tmp} {vs : List Value} (hf : P.funcs[fn]? = some F) (hn : (F.name == "runtime.NumGoroutine") = false) (hb : F.body.isNone = false)
    (hv : xs.toList.map (ev n f) = vs) (W : World) : (execOp (ev n f) ⟨dst, .call ⟨.value (.func fn), xs, tys⟩, ty, pos, af, g⟩).run P W = .ok (.enter fn vs.toArray) W := by
  subst hv
  have h3 : xs.map (ev n f) = (xs.toList.map (ev n f)).toArray := by rw [← Array.toList_map]
  simp only [execOp, resolve, Deferred.ofValue, ev, invoke, Sem.run_bind, Sem.run_pure, Result.andThen_ok, h3]
  have h4 : (#[] : Array Value) ++ (xs.toList.map (ev n f)).toArray ++ #[] = (xs.toList.map (ev n f)).toArray := by simp
  rw [h4, run_callFunc hf hn hb]
end
end Go.Proofs.Ytmekhdclnhhhbaa
