/-
  CellsApart: for every input the Go function answers true, and its arguments read afterwards as they read before. No condition.
-/
import Derived.Test.YtdgmlfpikgjnlaaRows
import Derived.WalkKit
import Derived.WalkLawsBesides
import Derived.WalkSpells
import Derived.Laws.BitsAllLaws
import Derived.Lib.Hide
import Derived.ProofKit
import Derived.OpenShut
import Derived.ShutString
import Derived.ChangeOld
import Derived.Below
import Derived.Lib.SmallJoins
import Derived.BigQuiet
import Derived.Outline
import Derived.Deep.QuietTactic
import Derived.Laws.AppendOwnNone
import Derived.ChangeKeysEq
import Derived.Laws.CopyOwn
import Derived.Deep.RegionHeld3
import Derived.Deep.Quiet
import Derived.RangeFuncNested
import Derived.RangeFuncLeaves
import Derived.StillTail
import Derived.ArgAppend
import Derived.Deep.RegionHeld
import Derived.Laws.StructEq
import Derived.Lib.AppendZeros
set_option linter.unusedSimpArgs false
set_option linter.unusedVariables false
section
namespace Go.Proofs.Ytdgmlfpikgjnlaa
open Go.RowKit
theorem ret_int {k : IntKind} {a b : Int} (h : a = b) : Ending.returned (.int k a) = .returned (.int k b) := by rw [h]
theorem ret_bool {a b : Bool} (h : a = b) : Ending.returned (.bool a) = .returned (.bool b) := by rw [h]
theorem quiet_l {P : Program} {f : FuncId} {args : Array Value} {W : World} {v : Value} (h : Calls P f args W fun e w' => e = .returned v ∧ W = w') : Calls P f args W fun e w' => e = .returned v ∧ w' = W := h.mono fun _ _ ⟨a, b⟩ => ⟨a, b.symm⟩
theorem below_drewN {B : Nat} {a w : World} (h : Below B a w) (n : Nat) : Below B a (w.drewN n) := ⟨h.os, h.tape, h.output, h.size, h.block⟩
section
variable {H : Type} {enc : TypeId × Value → H} {P : Program} {w : World} {base : Nat} {spare : Nat → Bool} {held : Bool}
open Go.ChangeShapes Go.WideShapes
end
end Go.Proofs.Ytdgmlfpikgjnlaa
end

section
namespace Go.Proofs.Ytdgmlfpikgjnlaa
open Go.RowKit
theorem info_int : (Try.prog.info? 3).map (fun i => (i.zero, i.size, i.bytes)) = some (some (.int .i64 0), 1, 8) := by kernel_rfl
/-- a slice value over A holds the cells xs (m of them), below block B -/
def RowAt (w : World) (B : Nat) (A : Option Addr) (m : Nat) (xs : List Value) : Prop :=
  xs.length = m ∧ (0 < m → ∃ b off, A = some ⟨b, off, none⟩ ∧ b < B ∧ ∀ j u, xs[j]? = some u → w.cell? ⟨b, off + j, none⟩ = some u)
theorem cell_lt {w : World} {p : Addr} {u : Value} (h : w.cell? p = some u) : p.block < w.heap.size := by
  rcases Nat.lt_or_ge p.block w.heap.size with h1 | h1
  · exact h1
  · exfalso
    simp [World.cell?, Array.getElem?_eq_none h1] at h
theorem RowAt.at_ {w : World} {B m : Nat} {A : Option Addr} {xs : List Value} (h : RowAt w B A m xs) {j : Nat} (hj : j < m) :
    ∃ b off u, A = some ⟨b, off, none⟩ ∧ b < B ∧ xs[j]? = some u ∧ w.cell? ⟨b, off + j, none⟩ = some u := by
  obtain ⟨b, off, e, hb, hc⟩ := h.2 (by omega)
  have hl : j < xs.length := by rw [h.1]; exact hj
  exact ⟨b, off, xs[j], e, hb, List.getElem?_eq_getElem hl, hc j _ (List.getElem?_eq_getElem hl)⟩
theorem RowAt.keep {w w' : World} {B m : Nat} {A : Option Addr} {xs : List Value} (h : RowAt w B A m xs) (hk : ∀ p : Addr, p.block < B → w'.cell? p = w.cell? p) : RowAt w' B A m xs :=
  ⟨h.1, fun hm => by
    obtain ⟨b, off, e, hb, hc⟩ := h.2 hm
    exact ⟨b, off, e, hb, fun j u hu => (hk _ hb).trans (hc j u hu)⟩⟩
theorem RowAt.more {w : World} {B B' m : Nat} {A : Option Addr} {xs : List Value} (h : RowAt w B A m xs) (hB : B ≤ B') : RowAt w B' A m xs :=
  ⟨h.1, fun hm => by
    obtain ⟨b, off, e, hb, hc⟩ := h.2 hm
    exact ⟨b, off, e, by omega, hc⟩⟩
theorem RowAt.below {w w' : World} {B m : Nat} {A : Option Addr} {xs : List Value} (h : RowAt w B A m xs) (hb : Below B w w') : RowAt w' B A m xs := h.keep fun _ hp => hb.cell hp
theorem RowAt.alloc {w : World} {B m : Nat} {A : Option Addr} {xs : List Value} (h : RowAt w B A m xs) (hB : B ≤ w.heap.size) (o : Obj) : RowAt (w.alloc o) B A m xs :=
  h.keep fun p hp => World.cell?_alloc_lt w o p (by omega)
theorem RowAt.drewN {w : World} {B m : Nat} {A : Option Addr} {xs : List Value} (h : RowAt w B A m xs) (n : Nat) : RowAt (w.drewN n) B A m xs := h
theorem RowAt.nil {w : World} {B : Nat} {A : Option Addr} : RowAt w B A 0 [] := ⟨rfl, fun h => absurd h (by omega)⟩
/-- the integers of an argument's slice -/
def Ints (k : IntKind) (zs : List Int) : Prop := ∀ z ∈ zs, (Lit.int k z).wf = true
theorem RowAt.int {k : IntKind} {w : World} {B m : Nat} {A : Option Addr} {xs : List Int} (h : RowAt w B A m (xs.map (Value.int k))) (hi : Ints k xs) {j : Nat} (hj : j < m) :
    ∃ b off z, A = some ⟨b, off, none⟩ ∧ b < B ∧ xs[j]? = some z ∧ (Lit.int k z).wf = true ∧ w.cell? ⟨b, off + j, none⟩ = some (.int k z) := by
  obtain ⟨b, off, u, e, hb, hx, hc⟩ := h.at_ hj
  rw [List.getElem?_map] at hx
  cases hz : xs[j]? with
  | none => rw [hz] at hx; simp at hx
  | some z =>
    rw [hz] at hx
    simp at hx
    exact ⟨b, off, z, e, hb, rfl, hi z (List.mem_of_getElem? hz), by rw [hc, hx]⟩
theorem run_index_ints {P : Program} (w : World) {T E : TypeId} {n : Nat} {kk : IntKind} {i0 : TypeInfo} (ht : P.underlying T = some (.array n E)) (he : P.underlying E = some (.int kk)) (hc : P.cellsOf E = 1) (hi : P.info? E = some i0)
    (cs : Array Value) (k : IntKind) (i : Int) (u : Value) (h0 : 0 ≤ i) (h1 : i < n) (hu : cs[i.toNat]? = some u) : (Instr.index T (.agg cs) (.int k i)).run P w = .ok u w := by
  simp [Instr.index, asIntOf, run_underlying ht, run_sizeOf w hi, hc, part, isAgg, run_underlying he, h0, h1, hu]
/-- '*p = v', v a whole array or struct, p the head of its own block -/
theorem wpList_store_row {P : Program} {w : World} {ops : Array Oper} {rest : List Oper} {o : Oper} {a : Act} {Q : Exit → Act → World → Prop} (hgd : o.guard = none) (T : TypeId) (p x : Operand) (ho : o.op = .store T p x)
    (g : Nat) (cur cs : Array Value) (t : TypeId) (hp : a.eval p = .pointer (some ⟨g, 0, none⟩)) (hx : a.eval x = .agg cs) (hg : w.heap[g]? = some (.cells cur t (0, 0))) (hsz : cs.size = cur.size)
    {i0 : TypeInfo} (hi : P.info? T = some i0) (hT : P.cellsOf T = cs.size) (h1 : ∀ v ∈ cs.toList, v.oneCell' = true)
    (h : wpList P ops Q rest (a.put o.dst undef) (w.setRow g cs)) : wpList P ops Q (o :: rest) a w := by
  refine wpList_plain hgd fun K hK => ?_
  have hs := run_storeCells_at (P := P) g 0 t cs.toList 0 cur w hg (by simp [hsz]) h1
  have e : (cur.toList.take (0 + 0) ++ cs.toList ++ cur.toList.drop (0 + 0 + cs.toList.length)).toArray = cs := by
    have hd : cur.toList.drop (0 + 0 + cs.toList.length) = [] := List.drop_eq_nil_of_le (by simp [hsz])
    rw [hd]; simp
  rw [e] at hs
  have hv : (storeVar T ⟨g, 0, none⟩ (.agg cs)).run P w = .ok () (w.setRow g cs) := by
    have hc : (Value.agg cs).cells = cs := rfl
    simp only [storeVar, Sem.run_bind, run_sizeOf w hi, Result.andThen_ok, hc, hT, ne_eq, not_true_eq_false, if_false]
    exact hs
  unfold Oper.wp execOp
  simp only [ho, hp, hx, Instr.storeAt, Instr.sureAddr, Sem.run_bind, Sem.run_pure, Result.andThen_ok, hv]
  exact hK _ _ h
end Go.Proofs.Ytdgmlfpikgjnlaa
end

section
namespace Go.Proofs.Ytdgmlfpikgjnlaa
open Go.RowKit
/-- block b of W is these cells, none of them frozen -/
def Blk (W : World) (b : Nat) (cs : Array Value) (T : TypeId) : Prop := W.heap[b]? = some (.cells cs T (0, 0))
theorem Blk.lt {W : World} {b : Nat} {cs : Array Value} {T : TypeId} (h : Blk W b cs T) : b < W.heap.size := by
  rcases Nat.lt_or_ge b W.heap.size with h1 | h1
  · exact h1
  · unfold Blk at h; rw [Array.getElem?_eq_none h1] at h; cases h
theorem Blk.cell {W : World} {b : Nat} {cs : Array Value} {T : TypeId} (h : Blk W b cs T) (i : Nat) (u : Value) (hu : cs[i]? = some u) : W.cell? ⟨b, i, none⟩ = some u := by
  rw [Joins.cell_of_block h]; exact hu
theorem Blk.frozen {W : World} {b : Nat} {cs : Array Value} {T : TypeId} (h : Blk W b cs T) (i : Nat) : W.frozen? ⟨b, i, none⟩ = false := frozen_of_row W b i cs T h
theorem Blk.below {W W' : World} {B b : Nat} {cs : Array Value} {T : TypeId} (h : Blk W b cs T) (hb : Below B W W') (hB : b < B) : Blk W' b cs T := by
  unfold Blk at *; rw [hb.block b hB]; exact h
theorem Blk.new (w : World) (cs : Array Value) (T : TypeId) : Blk (w.alloc (.cells cs T)) w.heap.size cs T := heap_alloc_new w _
theorem Blk.alloc {W : World} {b : Nat} {cs : Array Value} {T : TypeId} (h : Blk W b cs T) (o : Obj) : Blk (W.alloc o) b cs T :=
  h.below ((Below.refl W.heap.size W).alloc (Nat.le_refl _) o) h.lt
theorem Blk.drewN {W : World} {b : Nat} {cs : Array Value} {T : TypeId} (h : Blk W b cs T) (n : Nat) : Blk (W.drewN n) b cs T := h
theorem Blk.drew {W : World} {b : Nat} {cs : Array Value} {T : TypeId} (h : Blk W b cs T) : Blk W.drew b cs T := h
theorem Blk.set {W : World} {b : Nat} {cs : Array Value} {T : TypeId} (h : Blk W b cs T) (j : Nat) (u : Value) : Blk (W.setCell ⟨b, j, none⟩ u) b (cs.setIfInBounds j u) T := heap_setCell_same W b j cs T u h
end Go.Proofs.Ytdgmlfpikgjnlaa
end

section
namespace Go.Proofs.Ytdgmlfpikgjnlaa
open Go.RowKit
end Go.Proofs.Ytdgmlfpikgjnlaa
end

section
namespace Go.Proofs.Ytdgmlfpikgjnlaa
open Go.RowKit
theorem Blk.setRow {W : World} {b : Nat} {old : Array Value} {T : TypeId} (h : Blk W b old T) (cs : Array Value) : Blk (W.setRow b cs) b cs T := setRow_heap W b old cs T (0, 0) h
end Go.Proofs.Ytdgmlfpikgjnlaa
end

section
namespace Go.Proofs.Ytdgmlfpikgjnlaa
open Go.RowKit
/-! frames -/
def upd (f : Nat → Value) (k : Nat) (v : Value) : Nat → Value := fun t => bif Nat.beq t k then v else f t
/-- how many temporaries, and the marks of the loops over functions that are done -/
structure Sz where
  n : Nat
  d : List Nat
def Fn (n : Sz) (f : Nat → Value) : Act := ⟨((List.range n.n).map f).toArray, n.d.map fun D => { target := .collected D, args := #[] }⟩
def ev (n : Sz) (f : Nat → Value) : Operand → Value
  | .tmp t => bif Nat.blt t n.n then f t else undef
  | .const v => v
  | .global g => .pointer (some ⟨g, 0, none⟩)
  | .func g => .func (.func g) #[] #[]
theorem upd_same {f : Nat → Value} {k : Nat} {v : Value} (h : f k = v) : upd f k v = f := by
  funext t
  unfold upd
  cases hb : Nat.beq t k
  · rfl
  · have : t = k := Nat.eq_of_beq_eq_true hb
    subst this; exact h.symm
theorem Fn_get (n : Sz) (f : Nat → Value) (t : Nat) : (Fn n f).tmps[t]? = if t < n.n then some (f t) else none := by
  simp only [Fn, List.getElem?_toArray, List.getElem?_map]
  by_cases h : t < n.n
  · simp [h]
  · simp [h]
theorem Fn_eval (n : Sz) (f : Nat → Value) : (Fn n f).eval = ev n f := by
  funext x
  cases x with
  | tmp t =>
    simp only [Act.eval, ev, Array.getD_eq_getD_getElem?, Fn_get]
    by_cases h : t < n.n
    · have : Nat.blt t n.n = true := by simpa [Nat.blt_eq] using h
      simp [h, this]
    · have : Nat.blt t n.n = false := by rw [Bool.eq_false_iff]; simpa [Nat.blt_eq] using h
      simp [h, this]
  | const v => rfl
  | global g => rfl
  | func g => rfl
theorem Fn_put (n : Sz) (f : Nat → Value) (k : Nat) (v : Value) : (Fn n f).put (some k) v = Fn n (upd f k v) := by
  simp only [Act.put, Fn, Act.mk.injEq, and_true]
  apply Array.ext_getElem?
  intro i
  rw [Array.getElem?_setIfInBounds]
  simp only [List.getElem?_toArray, List.getElem?_map, List.size_toArray, List.length_map, List.length_range]
  by_cases hi : i < n.n
  · by_cases e : k = i
    · subst e; simp [upd, hi]
    · have : Nat.beq i k = false := by rw [Bool.eq_false_iff]; intro h; exact e (Nat.eq_of_beq_eq_true h).symm
      simp [upd, hi, e, this]
  · have h1 : (List.range n.n)[i]? = none := by simp; omega
    simp only [h1, Option.map_none]
    split
    · split
      · omega
      · rfl
    · rfl
def yl (n : Sz) (f : Nat → Value) (ops : Array Oper) (j : Nat) : Option Bool :=
  match (ops[j]?).bind (·.dst) with
  | some k => (match ev n f (.tmp k) with | .bool b => some b | _ => none)
  | none => none
theorem yl_eq (n : Sz) (f : Nat → Value) (ops : Array Oper) (j : Nat) : yielded ops (Fn n f).tmps j = yl n f ops j := by
  unfold yielded yl
  cases h : (ops[j]?).bind (·.dst) with
  | none => simp
  | some k =>
    simp only [Option.bind_some, Fn_get]
    by_cases hk : k < n.n
    · have : Nat.blt k n.n = true := by simpa [Nat.blt_eq] using hk
      simp only [hk, if_true, ev, this, cond_true]
      cases f k <;> rfl
    · have : Nat.blt k n.n = false := by rw [Bool.eq_false_iff]; simpa [Nat.blt_eq] using hk
      simp only [hk, if_false, ev, this, cond_false]
      rfl
/-! code -/
section
variable {P : Program} {ops : Array Oper} {rest : List Oper} {n : Sz} {k id : Nat} {f : Nat → Value} {W W' : World} {Q : Exit → Act → World → Prop} {a : Act} {v : Value} {o : Oper}
/-- code that a round of a loop over a function may hold -/
def opOk (o : Oper) : Bool := match o.op with
  | .call c => (match c.callee with | .value (.tmp _) => false | _ => true)
  | _ => true
def rok : Code → Bool
  | .skip => true
  | .region _ ops draw => !draw && ops.all opOk
  | .seq x y => rok x && rok y
  | .cond _ x y => rok x && rok y
  | .block _ x => rok x
  | .loop x => rok x
  | .exit _ => true
  | .ret => true
  | _ => false
abbrev RF (l0 : Nat) : Fence := Fence.wide.inRound l0
/-- by itself, and in a round -/
def wpB (P : Program) (c : Code) (Q : Exit → Act → World → Prop) (a : Act) (w : World) : Prop := c.wp P Q a w ∧ (rok c = true → ∀ l0 m, c.wpIn (RF l0) m P Q a w)
theorem wpB.mono {P : Program} {c : Code} {Q Q' : Exit → Act → World → Prop} {a : Act} {w : World} (h : wpB P c Q a w) (hq : ∀ e a w, Q e a w → Q' e a w) : wpB P c Q' a w :=
  ⟨Code.wp_mono hq h.1, fun ho l0 m => Code.wpIn_mono hq (h.2 ho l0 m)⟩
theorem then_mono {K K' : Act → World → Prop} {Q : Exit → Act → World → Prop} (h : ∀ a w, K a w → K' a w) : ∀ e a w, Exit.then K Q e a w → Exit.then K' Q e a w := by
  intro e a w hh; cases e <;> first | exact h _ _ hh | exact hh
/-- words that no tactic looks behind -/
structure CW (P : Program) (c : Code) (Q : Exit → Act → World → Prop) (n : Sz) (f : Nat → Value) (W : World) : Prop where
  outB : wpB P c Q (Fn n f) W
theorem CW.out {c : Code} (h : CW P c Q n f W) : c.wp P Q (Fn n f) W := h.outB.1
theorem CW.inr {c : Code} (h : CW P c Q n f W) (ho : rok c = true) (l0 m : Nat) : c.wpIn (RF l0) m P Q (Fn n f) W := h.outB.2 ho l0 m
theorem CW.alone {c : Code} (hr : rok c = false) (h : c.wp P Q (Fn n f) W) : CW P c Q n f W := ⟨h, fun ho => by rw [hr] at ho; cases ho⟩
structure SL (P : Program) (ops : Array Oper) (Q : Exit → Act → World → Prop) (l : List Oper) (n : Sz) (f : Nat → Value) (W : World) : Prop where
  out : wpList P ops Q l (Fn n f) W
  inr : ∀ l0 m, wpListIn (RF l0) m P ops Q l (Fn n f) W
structure PQ (Q : Exit → Act → World → Prop) (e : Exit) (n : Sz) (f : Nat → Value) (W : World) : Prop where
  out : Q e (Fn n f) W
theorem c_norm {y : Code} (h : CW P y Q n f W) : PQ (Exit.then (wpB P y Q) Q) .normal n f W := ⟨h.outB⟩
theorem c_round {K : Act → World → Prop} (h : K (Fn n f) W) : PQ (Exit.then K Q) .normal n f W := ⟨h⟩
theorem c_exit {K : Act → World → Prop} {i : Nat} (h : PQ Q (.exit i) n f W) : PQ (Exit.then K Q) (.exit i) n f W := ⟨h.out⟩
theorem c_ret {K : Act → World → Prop} (h : PQ Q .ret n f W) : PQ (Exit.then K Q) .ret n f W := ⟨h.out⟩
theorem b_norm (h : PQ Q .normal n f W) : PQ (Exit.inBlock id Q) .normal n f W := ⟨h.out⟩
theorem b_ret (h : PQ Q .ret n f W) : PQ (Exit.inBlock id Q) .ret n f W := ⟨h.out⟩
theorem b_hit (h : PQ Q .normal n f W) : PQ (Exit.inBlock id Q) (.exit id) n f W := ⟨by simp only [Exit.inBlock, if_true]; exact h.out⟩
theorem k_seq {x y : Code} (h : CW P x (Exit.then (wpB P y Q) Q) n f W) : CW P (Code.seq x y) Q n f W :=
  ⟨wp_seq (Code.wp_mono (then_mono fun _ _ h => h.1) h.out), fun ho l0 m => by
    have ho' : rok x = true ∧ rok y = true := by simpa [rok] using ho
    exact wpIn_seq (Code.wpIn_mono (then_mono fun _ _ h => h.2 ho'.2 l0 m) (h.inr ho'.1 l0 m))⟩
theorem k_rg {l : List Oper} (h : SL P l.toArray Q l n f W) : CW P (Code.region id l.toArray false) Q n f W := ⟨wp_region_lit h.out, fun _ l0 m => wpIn_region_lit (h.inr l0 m)⟩
theorem k_nil (h : PQ Q .normal n f W) : SL P ops Q [] n f W := ⟨h.out, fun _ _ => wpListIn_nil h.out⟩
theorem k_t {c : Operand} {x y : Code} (hc : ev n f c = .bool true) (h : CW P x Q n f W) : CW P (Code.cond c x y) Q n f W :=
  ⟨wp_cond_true (by rw [Fn_eval]; exact hc) h.out, fun ho l0 m => by
    have ho' : rok x = true ∧ rok y = true := by simpa [rok] using ho
    exact wpIn_cond_true (by rw [Fn_eval]; exact hc) (h.inr ho'.1 l0 m)⟩
theorem k_f {c : Operand} {x y : Code} (hc : ev n f c = .bool false) (h : CW P y Q n f W) : CW P (Code.cond c x y) Q n f W :=
  ⟨wp_cond_false (by rw [Fn_eval]; exact hc) h.out, fun ho l0 m => by
    have ho' : rok x = true ∧ rok y = true := by simpa [rok] using ho
    exact wpIn_cond_false (by rw [Fn_eval]; exact hc) (h.inr ho'.2 l0 m)⟩
theorem k_b {c : Code} (h : CW P c (Exit.inBlock id Q) n f W) : CW P (Code.block id c) Q n f W := ⟨wp_block h.out, fun ho l0 m => wpIn_block (h.inr (by simpa [rok] using ho) l0 m)⟩
theorem k_skip (h : PQ Q .normal n f W) : CW P Code.skip Q n f W := ⟨wp_skip h.out, fun _ _ _ => wpIn_skip h.out⟩
theorem k_exit (h : PQ Q (.exit id) n f W) : CW P (Code.exit id) Q n f W := ⟨wp_exit h.out, fun _ _ _ => wpIn_exit h.out⟩
theorem k_ret (h : PQ Q .ret n f W) : CW P Code.ret Q n f W := ⟨wp_ret h.out, fun _ _ _ => wpIn_ret h.out⟩
theorem k_enter {g : FuncId} {fn : Func} {c : Code} {l : List Value} {R : Ending → World → Prop} (hf : P.funcs[g]? = some fn) (hb : fn.body = some c) {N : Nat} (hN : fn.ntmps = N) (hl : l.length ≤ N)
    (f0 : Nat → Value) (h0 : ∀ i v, l[i]? = some v → f0 i = v) (h1 : ∀ i, l.length ≤ i → f0 i = undef)
    (h : c.wp P (bodyPost P fn R) (Fn ⟨N, []⟩ f0) W) : Calls P g l.toArray W R := by
  refine calls_of_wp hf hb ?_
  have e : ({ tmps := l.toArray ++ Array.replicate (fn.ntmps - l.toArray.size) undef, defers := [] } : Act) = Fn ⟨N, []⟩ f0 := by
    simp only [Fn, List.map_nil, Act.mk.injEq, and_true]
    apply Array.ext_getElem?
    intro i
    rw [Array.getElem?_append]
    simp only [List.size_toArray, List.getElem?_toArray, List.getElem?_map, hN]
    split
    · rename_i hi
      have hg : l[i]? = some l[i] := List.getElem?_eq_getElem hi
      have hiN : i < N := by omega
      have hr : (List.range N)[i]? = some i := by simp [hiN]
      rw [hg, hr, Option.map_some, h0 i _ hg]
    · rename_i hi
      by_cases hiN : i < N
      · have hr : (List.range N)[i]? = some i := by simp [hiN]
        rw [hr, Option.map_some, h1 i (by omega), Array.getElem?_replicate, if_pos (by omega)]
      · have hr : (List.range N)[i]? = none := by simp; omega
        rw [hr, Option.map_none, Array.getElem?_replicate, if_neg (by omega)]
  rw [e]; exact h
def args (l : List Value) : Nat → Value := fun i => l.getD i undef
theorem k_in {g : FuncId} {fn : Func} {c : Code} {l : List Value} {R : Ending → World → Prop} (hf : P.funcs[g]? = some fn) (hb : fn.body = some c) {N : Nat} (hN : fn.ntmps = N) (hl : Nat.ble l.length N = true)
    (h : CW P c (bodyPost P fn R) ⟨N, []⟩ (args l) W) : Calls P g l.toArray W R :=
  k_enter hf hb hN (Nat.le_of_ble_eq_true hl) _ (fun i v h => by simp [args, List.getD, h]) (fun i hi => by simp [args, List.getD, List.getElem?_eq_none hi]) h.out
theorem fin0 {fn : Func} {N : Nat} {R : Ending → World → Prop} (hr : fn.results = #[]) (hR : R (.returned (.tuple #[])) W) : PQ (bodyPost P fn R) .normal ⟨N, []⟩ f W :=
  ⟨bodyPost_end (results_none hr _ _ _) rfl hR⟩
theorem fin0r {fn : Func} {N : Nat} {R : Ending → World → Prop} (hr : fn.results = #[]) (hR : R (.returned (.tuple #[])) W) : PQ (bodyPost P fn R) .ret ⟨N, []⟩ f W :=
  ⟨bodyPost_ret (results_none hr _ _ _) rfl hR⟩
theorem ev_getD (t : Nat) : (Fn n f).tmps.getD t undef = ev n f (.tmp t) := congrFun (Fn_eval n f) (.tmp t)
theorem fin1r {fn : Func} {N : Nat} {R : Ending → World → Prop} {t : Nat} (hr : fn.results = #[.tmp t]) (hv : ev ⟨N, []⟩ f (.tmp t) = v) (hR : R (.returned v) W) : PQ (bodyPost P fn R) .ret ⟨N, []⟩ f W :=
  ⟨bodyPost_ret (by rw [results_tmp hr, ev_getD, hv]) rfl hR⟩
theorem least {p : Nat → Prop} (h : ∃ m, p m) : ∃ m, p m ∧ ∀ k, p k → m ≤ k := by
  classical
  obtain ⟨m, hm⟩ := h
  induction m using Nat.strongRecOn with
  | _ m ih =>
    by_cases h2 : ∃ k, k < m ∧ p k
    · obtain ⟨k, hk, hp⟩ := h2; exact ih k hk hp
    · exact ⟨m, hm, fun k hk => Nat.le_of_not_lt fun hlt => h2 ⟨k, hlt, hk⟩⟩
/-- a loop with a number that every round lowers -/
theorem k_loop {c : Code} (I : Nat → (Nat → Value) → World → Prop) (m0 : Nat) (h0 : I m0 f W)
    (round : ∀ m f W, I m f W → CW P c (Exit.then (fun a' W' => ∃ m' f', m' < m ∧ a' = Fn n f' ∧ I m' f' W') Q) n f W) : CW P (Code.loop c) Q n f W := by
  classical
  let J : Act → World → Nat → Prop := fun a W m => ∃ f', a = Fn n f' ∧ I m f' W
  let μ : Act → World → Nat := fun a W => if h : ∃ m, J a W m then (least h).choose else 0
  have step : ∀ {a' : Act} {W W' : World} {f1 : Nat → Value} {k : Nat} (hJ : ∃ m, J (Fn n f1) W m), k = (least hJ).choose → (∃ m' f', m' < k ∧ a' = Fn n f' ∧ I m' f' W') → (∃ m, J a' W' m) ∧ μ a' W' < μ (Fn n f1) W := by
    rintro a' W W' f1 k hJ rfl ⟨m', f', hlt, rfl, hI'⟩
    have hJ' : ∃ m, J (Fn n f') W' m := ⟨m', f', rfl, hI'⟩
    refine ⟨hJ', ?_⟩
    show (if h : ∃ m, J (Fn n f') W' m then (least h).choose else 0) < (if h : ∃ m, J (Fn n f1) W m then (least h).choose else 0)
    rw [dif_pos hJ', dif_pos hJ]
    exact Nat.lt_of_le_of_lt ((least hJ').choose_spec.2 _ ⟨f', rfl, hI'⟩) hlt
  refine ⟨?_, fun ho l0 m => ?_⟩
  · refine wp_loop (fun a W => ∃ m, J a W m) μ ⟨m0, f, rfl, h0⟩ ?_
    intro a W hJ
    have hJ0 := hJ
    obtain ⟨f1, rfl, hI⟩ := (least hJ).choose_spec.1
    refine Code.wp_mono ?_ (round _ f1 W hI).out
    intro e a' W' hq
    cases e with
    | normal => exact step hJ0 rfl hq
    | _ => exact hq
  · have ho' : rok c = true := by simpa [rok] using ho
    refine wpIn_loop (fun a W => ∃ m, J a W m) μ ⟨m0, f, rfl, h0⟩ ?_
    intro a W hJ
    have hJ0 := hJ
    obtain ⟨f1, rfl, hI⟩ := (least hJ).choose_spec.1
    refine Code.wpIn_mono ?_ ((round _ f1 W hI).inr ho' l0 m)
    intro e a' W' hq
    cases e with
    | normal => exact step hJ0 rfl hq
    | _ => exact hq
theorem live6 {f : Nat → Value} {k1 k2 k3 k4 k5 k6 : Nat} {v1 v2 v3 v4 v5 v6 : Value} (h1 : f k1 = v1) (h2 : f k2 = v2) (h3 : f k3 = v3) (h4 : f k4 = v4) (h5 : f k5 = v5) (h6 : f k6 = v6) : ∃ g, f = upd (upd (upd (upd (upd (upd g k1 v1) k2 v2) k3 v3) k4 v4) k5 v5) k6 v6 := ⟨f, by rw [upd_same h1, upd_same h2, upd_same h3, upd_same h4, upd_same h5, upd_same h6]⟩
/-! operations -/
theorem no_defer_value {ρ : Operand → Value} {o : Oper} {r : Next} (h : (execOp ρ o).run P W = .ok r W') (hr : ∀ d, r ≠ .defer d) : ∀ c, o.op ≠ .defer c := by
  intro c hc
  unfold execOp at h
  rw [hc] at h
  simp only [Sem.run_bind] at h
  generalize (resolve ρ c o.type).run P W = x at h
  cases x with
  | ok d w1 =>
    simp only [Result.andThen_ok, Sem.run_pure] at h
    injection h with h1 _
    exact hr _ h1.symm
  | halt _ _ => cases h
theorem inr_step {r : Next} {l0 m : Nat} {K : Act → World → Prop} {a : Act} (h : (execOp a.eval o).run P W = .ok r W') (hr : ∀ d, r ≠ .defer d) (hk : o.uponIn (RF l0) m P a K Q (.ok r W')) : o.wpIn (RF l0) m P a W K Q := by
  unfold Oper.wpIn
  refine ⟨fun _ _ => trivial, ?_⟩
  rw [show (RF l0).round = some l0 from rfl, Oper.semAt_some l0 _ _ (no_defer_value h hr), h]
  exact hk
theorem s_run (hd : o.dst = some k) (hw : Region.wanted o (yl n f ops) = true) (hr : (execOp (ev n f) o).run P W = .ok (.value v) W')
    (h : SL P ops Q rest n (upd f k v) W') : SL P ops Q (o :: rest) n f W := by
  have hy : yielded ops (Fn n f).tmps = yl n f ops := funext (yl_eq n f ops)
  have hr' : (execOp (Fn n f).eval o).run P W = .ok (.value v) W' := by rw [Fn_eval]; exact hr
  refine ⟨?_, fun l0 m => ?_⟩
  · unfold wpList
    rw [hy, if_pos hw]
    refine .inl ?_
    unfold Oper.wp
    rw [hr', Oper.upon_value, hd, Fn_put]
    exact h.out
  · unfold wpListIn
    rw [hy, if_pos hw]
    refine inr_step hr' (fun d => by intro e; cases e) ?_
    rw [Oper.uponIn_value, hd, Fn_put]
    exact h.inr l0 m
theorem s_do (hd : o.dst = none) (hw : Region.wanted o (yl n f ops) = true) (hr : (execOp (ev n f) o).run P W = .ok .skip W')
    (h : SL P ops Q rest n f W') : SL P ops Q (o :: rest) n f W := by
  have hy : yielded ops (Fn n f).tmps = yl n f ops := funext (yl_eq n f ops)
  have hr' : (execOp (Fn n f).eval o).run P W = .ok .skip W' := by rw [Fn_eval]; exact hr
  refine ⟨?_, fun l0 m => ?_⟩
  · unfold wpList
    rw [hy, if_pos hw]
    refine .inl ?_
    unfold Oper.wp
    rw [hr', Oper.upon_skip, hd]
    exact h.out
  · unfold wpListIn
    rw [hy, if_pos hw]
    refine inr_step hr' (fun d => by intro e; cases e) ?_
    rw [Oper.uponIn_skip, hd]
    exact h.inr l0 m
theorem s_off (hd : o.dst = some k) (hw : Region.wanted o (yl n f ops) = false)
    (h : SL P ops Q rest n (upd f k undef) W) : SL P ops Q (o :: rest) n f W := by
  have hy : yielded ops (Fn n f).tmps = yl n f ops := funext (yl_eq n f ops)
  refine ⟨?_, fun l0 m => ?_⟩
  · unfold wpList
    rw [hy, hw, hd, Fn_put]
    exact h.out
  · unfold wpListIn
    rw [hy, hw, hd, Fn_put]
    exact ⟨fun _ _ => trivial, h.inr l0 m⟩
/-- a function is entered, and returns -/
theorem s_enter {fn : FuncId} {vs : Array Value} {R : Ending → World → Prop} (hd : o.dst = some k) (hw : Region.wanted o (yl n f ops) = true) (hr : (execOp (ev n f) o).run P W = .ok (.enter fn vs) W) (hc : Calls P fn vs W R)
    (h : ∀ e W', R e W' → ∃ v, e = .returned v ∧ SL P ops Q rest n (upd f k v) W') : SL P ops Q (o :: rest) n f W := by
  have hy : yielded ops (Fn n f).tmps = yl n f ops := funext (yl_eq n f ops)
  have hr' : (execOp (Fn n f).eval o).run P W = .ok (.enter fn vs) W := by rw [Fn_eval]; exact hr
  refine ⟨?_, fun l0 m => ?_⟩
  · unfold wpList
    rw [hy, if_pos hw]
    refine .inl ?_
    unfold Oper.wp
    rw [hr', Oper.upon_enter]
    refine hc.mono fun e W' hR => ?_
    obtain ⟨v, rfl, h2⟩ := h e W' hR
    show wpList P ops Q rest ((Fn n f).put o.dst v) W'
    rw [hd, Fn_put]; exact h2.out
  · unfold wpListIn
    rw [hy, if_pos hw]
    refine inr_step hr' (fun d => by intro e; cases e) ?_
    rw [Oper.uponIn_enter]
    refine ⟨(fun hh => nomatch hh), CallsIn.inRound l0 (callsIn_wide.2 (hc.mono fun e W' hR => ?_))⟩
    obtain ⟨v, rfl, h2⟩ := h e W' hR
    show wpListIn (RF l0) m P ops Q rest ((Fn n f).put o.dst v) W'
    rw [hd, Fn_put]; exact h2.inr l0 m
end
end Go.Proofs.Ytdgmlfpikgjnlaa
end

section
namespace Go.Proofs.Ytdgmlfpikgjnlaa
open Go.RowKit
end Go.Proofs.Ytdgmlfpikgjnlaa
end

section
namespace Go.Proofs.Ytdgmlfpikgjnlaa
open Go.RowKit
/-- what is known of some blocks -/
structure Ent where
  ids : List Nat
  ok : World → Prop
  lt : ∀ W, ok W → ∀ i ∈ ids, i < W.heap.size
  loc : ∀ W W' : World, (∀ i ∈ ids, W'.heap[i]? = W.heap[i]?) → ok W → ok W'
def ids (L : List Ent) : List Nat := L.flatMap Ent.ids
theorem ids_append (A B : List Ent) : ids (A ++ B) = ids A ++ ids B := by simp [ids]
theorem ids_cons (E : Ent) (B : List Ent) : ids (E :: B) = E.ids ++ ids B := by simp [ids]
theorem mem_ids {L : List Ent} {i : Nat} : i ∈ ids L ↔ ∃ E ∈ L, i ∈ E.ids := by simp [ids, List.mem_flatMap]
/-- only the blocks of F, and new ones, may have changed -/
structure Only (F : List Nat) (w w' : World) : Prop where
  os : w'.os = w.os
  tape : w'.tape = w.tape
  output : w'.output = w.output
  size : w.heap.size ≤ w'.heap.size
  block : ∀ k, k < w.heap.size → k ∉ F → w'.heap[k]? = w.heap[k]?
theorem Only.refl (F : List Nat) (w : World) : Only F w w := ⟨rfl, rfl, rfl, Nat.le_refl _, fun _ _ _ => rfl⟩
theorem Only.trans {F : List Nat} {a b c : World} (h : Only F a b) (k : Only F b c) : Only F a c :=
  ⟨k.os.trans h.os, k.tape.trans h.tape, k.output.trans h.output, Nat.le_trans h.size k.size, fun i hi hf => (k.block i (Nat.lt_of_lt_of_le hi h.size) hf).trans (h.block i hi hf)⟩
theorem Only.mono {F F' : List Nat} {a b : World} (h : Only F a b) (hs : ∀ i ∈ F, i ∈ F') : Only F' a b :=
  ⟨h.os, h.tape, h.output, h.size, fun k hk hf => h.block k hk fun hm => hf (hs k hm)⟩
theorem Only.of_below {w w' : World} (h : Below w.heap.size w w') (F : List Nat) : Only F w w' := ⟨h.os, h.tape, h.output, h.size, fun k hk _ => h.block k hk⟩
theorem Only.below {w w' : World} (h : Only [] w w') : Below w.heap.size w w' := ⟨h.os, h.tape, h.output, h.size, fun k hk => h.block k hk (by simp)⟩
def Ents (A : List Ent) (W : World) : Prop := (∀ E ∈ A, E.ok W) ∧ (ids A).Nodup
structure Heap (w0 : World) (F : List Nat) (L : List Ent) (W : World) : Prop where
  ok : ∀ E ∈ L, E.ok W
  nd : (ids L).Nodup
  own : ∀ i ∈ ids L, i ∈ F ∨ w0.heap.size ≤ i
  only : Only F w0 W
theorem Heap.ents {w0 W : World} {F : List Nat} {L : List Ent} (h : Heap w0 F L W) : Ents L W := ⟨h.ok, h.nd⟩
theorem Heap.start {L : List Ent} {w : World} (h : Ents L w) : Heap w (ids L) L w := ⟨h.1, h.2, fun _ hi => .inl hi, Only.refl _ _⟩
theorem Heap.nil (w : World) : Heap w [] [] w := ⟨by simp, by simp [ids], by simp [ids], Only.refl _ _⟩
theorem Heap.idlt {w0 W : World} {F : List Nat} {L : List Ent} (h : Heap w0 F L W) : ∀ i ∈ ids L, i < W.heap.size := by
  intro i hi
  obtain ⟨E, hE, hm⟩ := mem_ids.1 hi
  exact E.lt W (h.ok E hE) i hm
theorem Ents.part {A L : List Ent} {W : World} (h : Ents (A ++ L) W) : Ents A W :=
  ⟨fun E hE => h.1 E (List.mem_append_left _ hE), by have := h.2; rw [ids_append] at this; exact (List.nodup_append.1 this).1⟩
theorem Heap.part {w0 W : World} {F : List Nat} {A L : List Ent} (h : Heap w0 F (A ++ L) W) : Ents A W := h.ents.part
/-- a piece of the memory, and what is known of it, is replaced -/
theorem Heap.step {w0 W W' : World} {F F' : List Nat} {A A' L : List Ent} (h : Heap w0 F (A ++ L) W) (h' : Heap W F' A' W') (hF : ∀ i ∈ F', i ∈ ids A) : Heap w0 F (A' ++ L) W' := by
  have hlt := h.idlt
  have hnd := h.nd
  rw [ids_append] at hnd hlt
  obtain ⟨nA, nL, dis⟩ := List.nodup_append.1 hnd
  have hA : ∀ i ∈ ids L, i ∉ F' := fun i hi hf => dis i (hF i hf) i hi rfl
  refine ⟨fun E hE => ?_, ?_, fun i hi => ?_, ?_⟩
  · rcases List.mem_append.1 hE with h1 | h1
    · exact h'.ok E h1
    · refine E.loc W W' (fun i hi => ?_) (h.ok E (List.mem_append_right _ h1))
      have hm : i ∈ ids L := mem_ids.2 ⟨E, h1, hi⟩
      exact h'.only.block i (hlt i (List.mem_append_right _ hm)) (hA i hm)
  · rw [ids_append]
    refine List.nodup_append.2 ⟨h'.nd, nL, fun a ha b hb hab => ?_⟩
    subst hab
    rcases h'.own a ha with h1 | h1
    · exact hA a hb h1
    · have := hlt a (List.mem_append_right _ hb); omega
  · rw [ids_append] at hi
    rcases List.mem_append.1 hi with h1 | h1
    · rcases h'.own i h1 with h2 | h2
      · exact h.own i (by rw [ids_append]; exact List.mem_append_left _ (hF i h2))
      · exact .inr (Nat.le_trans h.only.size h2)
    · exact h.own i (by rw [ids_append]; exact List.mem_append_right _ h1)
  · refine ⟨h'.only.os.trans h.only.os, h'.only.tape.trans h.only.tape, h'.only.output.trans h.only.output, Nat.le_trans h.only.size h'.only.size, fun k hk hf => ?_⟩
    rw [h'.only.block k (Nat.lt_of_lt_of_le hk h.only.size) ?_]
    · exact h.only.block k hk hf
    · intro hm
      rcases h.own k (by rw [ids_append]; exact List.mem_append_left _ (hF k hm)) with h1 | h1
      · exact hf h1
      · omega
theorem perm_ids {L L' : List Ent} (h : L.Perm L') : (ids L).Perm (ids L') := by
  induction h with
  | nil => exact .refl _
  | cons x _ ih => rw [ids_cons, ids_cons]; exact ih.append_left _
  | swap x y l =>
    rw [ids_cons, ids_cons, ids_cons, ids_cons, ← List.append_assoc, ← List.append_assoc]
    exact List.perm_append_comm.append_right _
  | trans _ _ a b => exact a.trans b
theorem Heap.perm {w0 W : World} {F : List Nat} {L L' : List Ent} (h : Heap w0 F L W) (hp : L.Perm L') : Heap w0 F L' W :=
  ⟨fun E hE => h.ok E (hp.mem_iff.2 hE), (perm_ids hp).nodup_iff.1 h.nd, fun i hi => h.own i ((perm_ids hp).mem_iff.2 hi), h.only⟩
theorem pick_perm {α : Type _} : ∀ (L : List α) (k : Nat) (h : k < L.length), L.Perm (L[k] :: L.eraseIdx k)
  | a :: l, 0, _ => .refl _
  | a :: l, k + 1, h => by
    have := pick_perm l k (by simpa using h)
    exact (this.cons a).trans (.swap _ _ _)
/-- the k-th entry to the head -/
theorem Heap.pick {w0 W : World} {F : List Nat} {L : List Ent} (h : Heap w0 F L W) (k : Nat) {E : Ent} (hk : L[k]? = some E) : Heap w0 F (E :: L.eraseIdx k) W := by
  refine h.perm ?_
  obtain ⟨hlt, rfl⟩ := List.getElem?_eq_some_iff.1 hk
  exact pick_perm L k hlt
/-- the k-th entry is put back where it was -/
theorem Heap.back {w0 W : World} {F : List Nat} {L : List Ent} {E : Ent} (k : Nat) (h : Heap w0 F (E :: L.eraseIdx k) W) (hk : k < L.length) : Heap w0 F (L.set k E) W := by
  refine h.perm ?_
  have : (L.set k E).eraseIdx k = L.eraseIdx k := by
    apply List.ext_getElem?
    intro i
    simp only [List.getElem?_eraseIdx, List.getElem?_set]
    split
    · rw [if_neg (by omega)]
    · rw [if_neg (by omega)]
  rw [← this]
  have h2 := pick_perm (L.set k E) k (by simpa using hk)
  rw [List.getElem_set_self] at h2
  exact h2.symm
theorem Heap.drop {w0 W : World} {F : List Nat} {E : Ent} {L : List Ent} (h : Heap w0 F (E :: L) W) : Heap w0 F L W := by
  have hnd := h.nd
  rw [ids_cons] at hnd
  exact ⟨fun X hX => h.ok X (List.mem_cons_of_mem _ hX), (List.nodup_append.1 hnd).2.1, fun i hi => h.own i (by rw [ids_cons]; exact List.mem_append_right _ hi), h.only⟩
theorem Heap.clear {w0 W : World} {F : List Nat} {L : List Ent} (h : Heap w0 F L W) : Heap w0 F [] W := ⟨by simp, by simp [ids], by simp [ids], h.only⟩
theorem Heap.below {w0 W : World} {L : List Ent} (h : Heap w0 [] L W) : Below w0.heap.size w0 W := h.only.below
/-- the k-th entry is replaced, by what changes its blocks alone -/
theorem Heap.at {w0 W W' : World} {F F' : List Nat} {L : List Ent} (h : Heap w0 F L W) (k : Nat) {E E' : Ent} (hk : L[k]? = some E) (h' : Heap W F' [E'] W') (hF : ∀ i ∈ F', i ∈ E.ids) : Heap w0 F (L.set k E') W' := by
  obtain ⟨hlt, _⟩ := List.getElem?_eq_some_iff.1 hk
  have h1 : Heap w0 F ([E] ++ L.eraseIdx k) W := h.pick k hk
  exact (h1.step h' (by simpa [ids] using hF)).back k hlt
theorem Heap.whole {w0 W W' : World} {F : List Nat} {A A' : List Ent} (h : Heap w0 F A W) (h' : Heap W (ids A) A' W') : Heap w0 F A' W' := by
  have := Heap.step (L := []) (by simpa using h) h' (fun _ hi => hi)
  simpa using this
/-- a call that makes memory alone -/
theorem Heap.more {w0 W W' : World} {F : List Nat} {A L : List Ent} (h : Heap w0 F L W) (h' : Heap W [] A W') : Heap w0 F (A ++ L) W' := Heap.step (A := []) (by simpa using h) h' (by simp)
theorem Heap.same {w0 W W' : World} {F : List Nat} {L : List Ent} (h : Heap w0 F L W) (h' : Only [] W W') : Heap w0 F L W' := h.more (A := []) ⟨by simp, by simp [ids], by simp [ids], h'⟩
theorem Heap.drew {w0 W : World} {F : List Nat} {L : List Ent} (h : Heap w0 F L W) : Heap w0 F L W.drew := h.same ⟨rfl, rfl, rfl, Nat.le_refl _, fun _ _ _ => rfl⟩
/-! entries -/
theorem arr_lt {α : Type} {a : Array α} {i : Nat} {x : α} (h : a[i]? = some x) : i < a.size := (Array.getElem?_eq_some_iff.1 h).1
/-- a block known whole -/
def blk (b : Nat) (cs : List Value) (T : TypeId) : Ent :=
  ⟨[b], fun W => W.heap[b]? = some (.cells cs.toArray T (0, 0)), fun W h i hi => by rw [List.mem_singleton.1 hi]; exact arr_lt h, fun W W' h hk => by rw [h b (by simp)]; exact hk⟩
/-- a row at the head of block b, xs in its first cells (nothing is said of an empty one) -/
def vec {α : Type} (enc : α → Value) (b : Nat) (xs : List α) (T : TypeId) : Ent :=
  ⟨if xs.length = 0 then [] else [b], fun W => xs.length ≠ 0 → ∃ rest : List Value, W.heap[b]? = some (.cells (xs.map enc ++ rest).toArray T (0, 0)), by
    intro W h i hi
    by_cases h0 : xs.length = 0
    · rw [if_pos h0] at hi; simp at hi
    · rw [if_neg h0] at hi
      obtain ⟨r, hr⟩ := h h0
      rw [List.mem_singleton.1 hi]; exact arr_lt hr, by
    intro W W' h hk h0
    rw [h b (by rw [if_neg h0]; simp)]; exact hk h0⟩
/-- a row of the call's own, that may be appended to -/
def own (v : Value) (xs : List Value) (T : TypeId) : Ent :=
  ⟨v.ownBlock.toList, fun W => W.ownsRow 0 T 1 v xs.length xs, by
    intro W h i hi
    exact (h.lt i (by simpa using hi)).2, by
    intro W W' h hk
    refine ⟨hk.1, ?_⟩
    rcases hk.2 with h1 | ⟨g, cap, cur, rfl, hg, hh, r⟩
    · exact .inl h1
    · refine .inr ⟨g, cap, cur, rfl, hg, ?_, r⟩
      rw [h g (by simp [Value.ownBlock])]; exact hh⟩
theorem Heap.blk_get {w0 W : World} {F : List Nat} {L : List Ent} (h : Heap w0 F L W) (j : Nat) {b : Nat} {cs : List Value} {T : TypeId} (hj : L[j]? = some (blk b cs T)) : W.heap[b]? = some (.cells cs.toArray T (0, 0)) :=
  h.ok _ (List.mem_of_getElem? hj)
theorem Heap.vec_get {α : Type} {enc : α → Value} {w0 W : World} {F : List Nat} {L : List Ent} (h : Heap w0 F L W) (j : Nat) {b : Nat} {xs : List α} {T : TypeId} (hj : L[j]? = some (vec enc b xs T)) (h0 : xs.length ≠ 0) :
    ∃ rest : List Value, W.heap[b]? = some (.cells (xs.map enc ++ rest).toArray T (0, 0)) := h.ok _ (List.mem_of_getElem? hj) h0
theorem vec_cell {α : Type} {enc : α → Value} {W : World} {b : Nat} {xs : List α} {T : TypeId} {rest : List Value} (h : W.heap[b]? = some (.cells (xs.map enc ++ rest).toArray T (0, 0))) {i : Nat} {x : α} (hx : xs[i]? = some x) : W.cell? ⟨b, i, none⟩ = some (enc x) := by
  rw [Joins.cell_of_block h]
  have hi : i < xs.length := (List.getElem?_eq_some_iff.1 hx).1
  simp only [List.getElem?_toArray]
  rw [List.getElem?_append_left (by simpa using hi), List.getElem?_map, hx]; rfl
theorem heap_set {W : World} {b i : Nat} {cs : List Value} {T : TypeId} {u : Value} (h : W.heap[b]? = some (.cells cs.toArray T (0, 0))) : (W.setCell ⟨b, i, none⟩ u).heap[b]? = some (.cells (cs.set i u).toArray T (0, 0)) := by
  have := heap_setCell_same W b i cs.toArray T u h
  rw [this]; simp
theorem only_set (W : World) (b i : Nat) (u : Value) : Only [b] W (W.setCell ⟨b, i, none⟩ u) :=
  ⟨rfl, rfl, rfl, by simp [World.setCell], fun k hk hf => Below.heap_setCell _ _ _ _ (by intro e; exact hf (by simp [e]))⟩
theorem Heap.blk_set {w0 W : World} {F : List Nat} {L : List Ent} (h : Heap w0 F L W) (j : Nat) {b i : Nat} {cs : List Value} {T : TypeId} {u : Value} (hj : L[j]? = some (blk b cs T)) : Heap w0 F (L.set j (blk b (cs.set i u) T)) (W.setCell ⟨b, i, none⟩ u) := by
  refine h.at j hj (F' := [b]) ⟨?_, by simp [ids, blk], by simp [ids, blk], only_set W b i u⟩ (by simp [blk])
  intro E hE
  rw [List.mem_singleton.1 hE]
  exact heap_set (h.blk_get j hj)
/-- a new block -/
theorem Heap.alloc {w0 W : World} {F : List Nat} {L : List Ent} (h : Heap w0 F L W) (cs : List Value) (T : TypeId) : Heap w0 F (blk W.heap.size cs T :: L) (W.alloc (.cells cs.toArray T)) := by
  refine h.more (A := [blk W.heap.size cs T]) ⟨?_, by simp [ids, blk], by simp [ids, blk], ?_⟩
  · intro E hE
    rw [List.mem_singleton.1 hE]
    exact heap_alloc_new W _
  · exact Only.of_below ((Below.refl _ _).alloc (Nat.le_refl _) _) _
end Go.Proofs.Ytdgmlfpikgjnlaa
end

section
namespace Go.Proofs.Ytdgmlfpikgjnlaa
open Go.RowKit
theorem wI {z : Int} (h : -9223372036854775808 ≤ z ∧ z ≤ 9223372036854775807) : IntKind.i64.wrap z = z := IntWalk.i64_in _ h
theorem add_plain (b o m : Nat) : (⟨b, o, none⟩ : Addr).add m = ⟨b, o + m, none⟩ := by
  unfold Addr.add; split
  · subst_vars; rfl
  · rfl
section
variable {P : Program} {n : Sz} {f : Nat → Value} {W : World} {dst : Option Tmp} {ty : TypeId} {pos : String} {af : Array Edge} {g : Option (Nat × Bool)} {x y : Operand} {v u : Value} {k : IntKind} {a b c d : Int} {t t2 e : TypeId}
theorem r_mv (hx : ev n f x = v) : (execOp (ev n f) ⟨dst, .move x, ty, pos, af, g⟩).run P W = .ok (.value v) W := by simp only [execOp, hx]; rfl
theorem r_as (hx : ev n f x = v) : (execOp (ev n f) ⟨dst, .assign x, ty, pos, af, g⟩).run P W = .ok (.value v) W := by simp only [execOp, hx]; rfl
theorem r_pkT {z : Operand} (hx : ev n f x = .bool true) (hy : ev n f y = v) : (execOp (ev n f) ⟨dst, .pick x y z, ty, pos, af, g⟩).run P W = .ok (.value v) W := by simp only [execOp, hx, hy]; rfl
theorem r_pkF {z : Operand} (hx : ev n f x = .bool false) (hz : ev n f z = v) : (execOp (ev n f) ⟨dst, .pick x y z, ty, pos, af, g⟩).run P W = .ok (.value v) W := by simp only [execOp, hx, hz]; rfl
/-! memory -/
theorem r_lo {L : List Ent} {w0 : World} {F : List Nat} (H : Heap w0 F L W) (j : Nat) {p o : Nat} {cs : List Value} {T : TypeId} (hx : ev n f x = .pointer (some ⟨p, o, none⟩)) (hj : L[j]? = some (blk p cs T)) (hv : cs[o]? = some v)
    (hagg : ∀ W, (isAgg t).run P W = .ok false W) : (execOp (ev n f) ⟨dst, .load t x, ty, pos, af, g⟩).run P W = .ok (.value v) W := by
  have hc : W.cell? ⟨p, o, none⟩ = some v := by rw [Joins.cell_of_block (H.blk_get j hj)]; simpa using hv
  have h2 : (load ⟨p, o, none⟩).run P W = .ok v W := by simp [load, Sem.run, hc]
  simp only [execOp, Instr.loadAt, loadVar, hx, Instr.sureAddr, Sem.run_bind, Sem.run_pure, Result.andThen_ok, hagg, Bool.false_eq_true, if_false, h2]
/-! integers -/
theorem r_add (hx : ev n f x = .int k a) (hy : ev n f y = .int k b) (hr : k.wrap (a + b) = c) : (execOp (ev n f) ⟨dst, .binOp .add t x y t2, ty, pos, af, g⟩).run P W = .ok (.value (.int k c)) W := by
  simp [execOp, hx, hy, eqGuard, binOp, Op.intArith, hr]
theorem r_mul (hx : ev n f x = .int k a) (hy : ev n f y = .int k b) (hr : k.wrap (a * b) = c) : (execOp (ev n f) ⟨dst, .binOp .mul t x y t2, ty, pos, af, g⟩).run P W = .ok (.value (.int k c)) W := by
  simp [execOp, hx, hy, eqGuard, binOp, Op.intArith, hr]
theorem r_rem (hx : ev n f x = .int k a) (hy : ev n f y = .int k b) (h0 : 0 ≤ a ∧ 0 < b) : (execOp (ev n f) ⟨dst, .binOp .rem t x y t2, ty, pos, af, g⟩).run P W = .ok (.value (.int k (a % b))) W := by
  have hb : b ≠ 0 := by omega
  simp [execOp, hx, hy, eqGuard, binOp, Op.intDiv, hb, Int.tmod_eq_emod_of_nonneg h0.1]
theorem r_lssT (hx : ev n f x = .int k a) (hy : ev n f y = .int k b) (h : a < b) : (execOp (ev n f) ⟨dst, .binOp .lss t x y t2, ty, pos, af, g⟩).run P W = .ok (.value (.bool true)) W := by
  simp [execOp, hx, hy, eqGuard, binOp, Op.intCmp, h]; try omega
theorem r_lssF (hx : ev n f x = .int k a) (hy : ev n f y = .int k b) (h : ¬ a < b) : (execOp (ev n f) ⟨dst, .binOp .lss t x y t2, ty, pos, af, g⟩).run P W = .ok (.value (.bool false)) W := by
  simp [execOp, hx, hy, eqGuard, binOp, Op.intCmp, h]; try omega
theorem r_leqT (hx : ev n f x = .int k a) (hy : ev n f y = .int k b) (h : a ≤ b) : (execOp (ev n f) ⟨dst, .binOp .leq t x y t2, ty, pos, af, g⟩).run P W = .ok (.value (.bool true)) W := by
  simp [execOp, hx, hy, eqGuard, binOp, Op.intCmp, h]; try omega
theorem r_eqlT (hx : ev n f x = .int k a) (hy : ev n f y = .int k b) (h : a = b) : (execOp (ev n f) ⟨dst, .binOp .eql t x y t2, ty, pos, af, g⟩).run P W = .ok (.value (.bool true)) W := by
  simp [execOp, hx, hy, eqGuard, binOp, Op.intCmp, h]; try omega
theorem r_not {q : Bool} (hx : ev n f x = .bool q) : (execOp (ev n f) ⟨dst, .unOp .not t x, ty, pos, af, g⟩).run P W = .ok (.value (.bool (!q))) W := by
  simp [execOp, hx, Op.unary]
theorem r_notT (hx : ev n f x = .bool true) : (execOp (ev n f) ⟨dst, .unOp .not t x, ty, pos, af, g⟩).run P W = .ok (.value (.bool false)) W := r_not hx
theorem r_notF (hx : ev n f x = .bool false) : (execOp (ev n f) ⟨dst, .unOp .not t x, ty, pos, af, g⟩).run P W = .ok (.value (.bool true)) W := r_not hx
theorem r_cv {s : TypeId} {k' : IntKind} (hx : ev n f x = .int k' a) (hs : (P.underlying s).isSome = true) (hd : P.underlying e = some (.int k)) (hr : k.wrap a = c) : (execOp (ev n f) ⟨dst, .convert s e x, ty, pos, af, g⟩).run P W = .ok (.value (.int k c)) W := by
  obtain ⟨d, hd'⟩ := Option.isSome_iff_exists.1 hs
  simp [execOp, hx, convert, run_underlying hd', run_underlying hd, Conv.intToInt, hr]
end
/-! what stands under a guard -/
theorem g_on {ops : Array Oper} {n : Sz} {j : Nat} {f : Nat → Value} {dst : Option Tmp} {op : Op} {ty : TypeId} {pos : String} {af : Array Edge} {b : Bool} (t : Nat) (hj : (ops[j]?).bind (·.dst) = some t) (hv : ev n f (.tmp t) = .bool b) : Region.wanted ⟨dst, op, ty, pos, af, some (j, b)⟩ (yl n f ops) = true := by
  simp only [Region.wanted, yl, hj, hv]; simp
theorem g_off {ops : Array Oper} {n : Sz} {j : Nat} {f : Nat → Value} {dst : Option Tmp} {op : Op} {ty : TypeId} {pos : String} {af : Array Edge} {b c : Bool} (t : Nat) (hj : (ops[j]?).bind (·.dst) = some t) (hv : ev n f (.tmp t) = .bool c) (hc : c = !b) : Region.wanted ⟨dst, op, ty, pos, af, some (j, b)⟩ (yl n f ops) = false := by
  subst hc
  simp only [Region.wanted, yl, hj, hv]; simp
/-! what changes memory -/
section
variable {P : Program} {ops : Array Oper} {rest : List Oper} {n : Sz} {f : Nat → Value} {W w0 : World} {F : List Nat} {L : List Ent} {Q : Exit → Act → World → Prop} {k : Nat} {ty : TypeId} {pos : String} {af : Array Edge} {g : Option (Nat × Bool)} {x y : Operand} {v u : Value} {t e : TypeId}
theorem one_cells {u : Value} (h1 : u.oneCell' = true) : u.cells = #[u] := by cases u <;> simp_all [Value.oneCell', Value.cells]
theorem run_storeAt_cell {p : Addr} {c0 : Value} (hs : ∀ W, (Go.sizeOf t).run P W = .ok 1 W) (hc : W.cell? p = some c0) (hf : W.frozen? p = false) (h1 : u.oneCell' = true) : (Instr.storeAt t (.pointer (some p)) u).run P W = .ok () (W.setCell p u) := by
  have h2 := run_store P W p u .plain h1
  rw [hc] at h2
  simp only [hf, Bool.false_eq_true, if_false] at h2
  have h3 : p.add 0 = p := by simp [Addr.add]
  have h4 : (storeCells p [u]).run P W = .ok () (W.setCell p u) := by
    simp only [storeCells, Sem.run_bind, h3, h2, Result.andThen_ok]; rfl
  simp only [Instr.storeAt, storeVar, Instr.sureAddr, one_cells h1, Sem.run_bind, Sem.run_pure, Result.andThen_ok, hs]
  exact h4
theorem s_st (H : Heap w0 F L W) (j : Nat) {p o : Nat} {cs : List Value} {T : TypeId} {c0 : Value} (hw : Region.wanted ⟨none, .store t x y, ty, pos, af, g⟩ (yl n f ops) = true) (hx : ev n f x = .pointer (some ⟨p, o, none⟩)) (hy : ev n f y = u) (hj : L[j]? = some (blk p cs T)) (hv : cs[o]? = some c0) (h1 : u.oneCell' = true) (hs : ∀ W, (Go.sizeOf t).run P W = .ok 1 W)
    (h : ∀ W', Heap w0 F (L.set j (blk p (cs.set o u) T)) W' → SL P ops Q rest n f W') : SL P ops Q (⟨none, .store t x y, ty, pos, af, g⟩ :: rest) n f W := by
  have hg := H.blk_get j hj
  have hc : W.cell? ⟨p, o, none⟩ = some c0 := by rw [Joins.cell_of_block hg]; simpa using hv
  have hr := run_storeAt_cell (P := P) (t := t) hs hc (frozen_of_row W p o cs.toArray T hg) h1
  exact s_do (W' := W.setCell ⟨p, o, none⟩ u) rfl hw (by simp only [execOp, hx, hy, Sem.run_bind, hr, Result.andThen_ok]; rfl) (h _ (H.blk_set j hj))
/-! calls -/
theorem s_call {R : Ending → World → Prop} {fn : FuncId} {xs : Array Operand} {tys : Array TypeId} {vs : List Value} (hw : Region.wanted ⟨some k, .call ⟨.value (.func fn), xs, tys⟩, ty, pos, af, g⟩ (yl n f ops) = true)
    (hc : Calls P fn vs.toArray W R) (hrun : ∀ W, (execOp (ev n f) ⟨some k, .call ⟨.value (.func fn), xs, tys⟩, ty, pos, af, g⟩).run P W = .ok (.enter fn vs.toArray) W)
    (h : ∀ e W', R e W' → ∃ v, e = .returned v ∧ SL P ops Q rest n (upd f k v) W') : SL P ops Q (⟨some k, .call ⟨.value (.func fn), xs, tys⟩, ty, pos, af, g⟩ :: rest) n f W :=
  s_enter rfl hw (hrun W) hc h
theorem run_callFunc {fn : FuncId} {F : Func} (hf : P.funcs[fn]? = some F) (hn : (F.name == "runtime.NumGoroutine") = false) (hb : F.body.isNone = false) (vs : Array Value) : (callFunc fn vs).run P W = .ok (.enter fn vs) W := by
  unfold callFunc
  rw [Sem.run_bind]
  have hp : (program : Sem Program).run P W = .ok P W := rfl
  rw [hp, Result.andThen_ok]
  simp only [hf, hn, hb, Bool.false_eq_true, if_false]
  rfl
theorem r_call {fn : FuncId} {F : Func} {xs : Array Operand} {tys : Array TypeId} {dst : Option Tmp} {vs : List Value} (hf : P.funcs[fn]? = some F) (hn : (F.name == "runtime.NumGoroutine") = false) (hb : F.body.isNone = false)
    (hv : xs.toList.map (ev n f) = vs) (W : World) : (execOp (ev n f) ⟨dst, .call ⟨.value (.func fn), xs, tys⟩, ty, pos, af, g⟩).run P W = .ok (.enter fn vs.toArray) W := by
  subst hv
  have h3 : xs.map (ev n f) = (xs.toList.map (ev n f)).toArray := by rw [← Array.toList_map]
  simp only [execOp, resolve, Deferred.ofValue, ev, invoke, Sem.run_bind, Sem.run_pure, Result.andThen_ok, h3]
  have h4 : (#[] : Array Value) ++ (xs.toList.map (ev n f)).toArray ++ #[] = (xs.toList.map (ev n f)).toArray := by simp
  rw [h4, run_callFunc hf hn hb]
end
end Go.Proofs.Ytdgmlfpikgjnlaa
end

section
namespace Go.Proofs.Ytdgmlfpikgjnlaa
open Go.RowKit
section
variable {P : Program} {ops : Array Oper} {md : Region.Mode} {C : World → Prop}
/-- f operations of the head in whatever order, then what M asks -/
def anyHead (P : Program) (md : Region.Mode) (ops : Array Oper) (C : World → Prop) (n : Nat) (M : Array Bool → Act → Prop) : Nat → Array Bool → Act → Prop
  | 0, listed, a => M listed a
  | f + 1, listed, a => Region.ready md ops listed ≠ [] ∧ ∀ i ∈ Region.ready md ops listed, i < n ∧ qOp P ops C i (anyHead P md ops C n M f (listed.setIfInBounds i true)) a
theorem any_of_head {n g : Nat} {M : Array Bool → Act → Prop} {Q : Exit → Act → World → Prop} (hM : ∀ listed a, M listed a → ∀ w, C w → wpAny P md ops Q g listed a w) :
    ∀ (f : Nat) (listed : Array Bool) (a : Act) (w : World), C w → anyHead P md ops C n M f listed a → wpAny P md ops Q (f + g) listed a w := by
  intro f
  induction f with
  | zero => intro listed a w hw h; rw [Nat.zero_add]; exact hM _ _ h w hw
  | succ f ih =>
    intro listed a w hw h
    rw [Nat.succ_add]
    exact ⟨fun h0 => absurd h0 h.1, fun i hi => wpOp_of_qOp hw (fun a' w' hw' ha => ih _ a' w' hw' ha) (h.2 i hi).2⟩
theorem head_first {n i : Nat} {oi : Oper} {v : Value} {M : Array Bool → Act → Prop} (hi : ops[i]? = some oi) (hsel : ∀ (j : Nat) (o : Oper) cs b, ops[j]? = some o → o.op ≠ .select cs b)
    (hs : Region.sinkB md ops n = true) (hc : Region.chainB md ops n = true) (hn : n < ops.size) (hin : i < n) (hdone : ∀ listed a, M listed a → ∀ j ∈ Region.ready md ops listed, n ≤ j) :
    ∀ (f : Nat) (listed : Array Bool) (a : Act), HeadInv md ops n listed →
      (∀ j oj, ops[j]? = some oj → j ≠ i → listed.getD j true = false → (∀ e ∈ oj.after, Region.binds md e = true → e.on ≠ i) → oi.apart ops oj = true) →
      i ∈ Region.ready md ops listed → YieldsIn P ops C oi v a →
      anyHead P md ops C n M f (listed.setIfInBounds i true) (a.put oi.dst v) → anyHead P md ops C n M (f + 1) listed a := by
  intro f
  induction f with
  | zero =>
    intro listed a inv _ hr hy H
    refine ⟨fun h0 => (by rw [h0] at hr; cases hr), fun j hj => ?_⟩
    have hjn : j < n := Nat.lt_of_not_le fun hle => tail_waits hs hc hn inv _ i rfl hin (mem_ready.1 hr).1 j hle hj
    by_cases e : j = i
    · subst e; exact ⟨hjn, hy.qOp hi H⟩
    · have := hdone _ _ H j (ready_mono hj e); omega
  | succ f ih =>
    intro listed a inv free hr hy H
    refine ⟨fun h0 => (by rw [h0] at hr; cases hr), fun j hj => ?_⟩
    have hun := (mem_ready.1 hr).1
    have hjn : j < n := Nat.lt_of_not_le fun hle => tail_waits hs hc hn inv _ i rfl hin hun j hle hj
    refine ⟨hjn, ?_⟩
    by_cases e : j = i
    · subst e; exact hy.qOp hi H
    obtain ⟨hjun, oj, hoj, hall⟩ := mem_ready.1 hj
    have hno : ∀ e ∈ oj.after, Region.binds md e = true → e.on ≠ i := fun e he hb heq => by
      have h1 := hall e he hb
      rw [heq, getD_both hun] at h1; cases h1
    have h2 := qOp_put hoj (free j oj hoj e hjun hno) (fun cs b => hsel i oi cs b hi) (fun cs b => hsel j oj cs b hoj) hy (H.2 j (ready_mono hj e)).2
    refine qOp_mono (fun a' h3 => ih _ a' (inv.set hj hjn) (fun k ok hk hki hu hn2 => free k ok hk hki ?_ hn2) (ready_mono hr (Ne.symm e)) h3.1 ?_) h2
    · by_cases hjk : j = k
      · subst hjk; exact hjun
      · rw [getD_set_ne true hjk] at hu; exact hu
    · rw [Array.setIfInBounds_comm _ _ e]; exact h3.2
theorem head_lex {n g : Nat} {Qa : Act → Prop} (hsel : Region.noSelect ops = true) (hs : Region.sinkB md ops n = true) (hc : Region.chainB md ops n = true) (hn : n < ops.size) :
    ∀ (l : List Oper) (k : Nat) (listed : Array Bool) (a : Act), (∀ j, j < l.length → l[j]? = ops[k + j]?) → k + l.length = n → HeadInv md ops n listed →
    Region.lexHead md ops g l.length k listed = true → wpQuiet P ops C Qa l a → anyHead P md ops C n (fun li a' => Region.seqB md ops g n li = true ∧ Qa a') l.length listed a
  | [], k, listed, a, _, hk, _, hB, h => by
    obtain rfl : k = n := by simpa using hk
    exact ⟨by simpa [Region.lexHead] using hB, h⟩
  | o :: l, k, listed, a, hl, hk, inv, hB, h => by
    have h0 : ops[k]? = some o := by simpa using (hl 0 (by simp)).symm
    simp only [List.length_cons, Region.lexHead, Bool.and_eq_true] at hB
    have hkn : k < n := by simp only [List.length_cons] at hk; omega
    have hr : k ∈ Region.ready md ops listed := by simpa using hB.1.1
    obtain ⟨v, hy, hK⟩ := yieldsIn_of_qOp h0 (show qOp P ops C k (wpQuiet P ops C Qa l) a by unfold qOp; simp only [h0]; exact h)
    refine head_first h0 (Region.noSelect_spec hsel) hs hc hn hkn (fun li a' hM => seqB_ready hM.1) l.length listed a inv (Region.free_spec h0 hB.1.2) hr hy ?_
    exact head_lex hsel hs hc hn l (k + 1) _ _ (fun j hj => by have := hl (j + 1) (by simp; omega); simpa [Nat.add_assoc, Nat.add_comm 1 j] using this) (by simp only [List.length_cons] at hk; omega) (inv.set hr hkn) hB.2 hK
/-- n quiet operations, then the rest in its order -/
theorem region_tail {id : Nat} {Q : Exit → Act → World → Prop} {a : Act} {w : World} {l : List Oper} (n : Nat) (hm : P.follows .mixedOrders = true) (hB : Region.lexTailB .any l.toArray n = true) (hC : C w.drew)
    (h : wpQuiet P l.toArray C (fun a' => ∀ w', C w' → wpList P l.toArray Q (l.drop n) a' w') (l.take n) a) : (Code.region id l.toArray true).wp P Q a w := by
  simp only [Region.lexTailB, Bool.and_eq_true, decide_eq_true_eq] at hB
  obtain ⟨⟨⟨⟨hsel, hn⟩, hs⟩, hc⟩, hlex⟩ := hB
  have hn' : n < l.length := by simpa using hn
  have htl : (l.take n).length = n := by simp; omega
  have hdl : (l.drop n).length = l.toArray.size - n := by simp
  have inv0 : HeadInv .any l.toArray n (Array.replicate l.toArray.size false) :=
    ⟨by simp, fun j oj _ hl => (by rw [getD_replicate_false] at hl; cases hl), fun t _ ht => getD_in (by simpa using ht) (getD_replicate_false _ _)⟩
  have H := head_lex (md := .any) (g := l.toArray.size - n) hsel hs hc hn (l.take n) 0 _ a (fun j hj => by
    rw [htl] at hj; simp [hj]) (by simpa using htl) inv0 (by rw [htl]; exact hlex) h
  refine wp_region_any hm ?_
  have H2 := any_of_head (Q := Q) (g := l.toArray.size - n) (fun listed a' hL w' hw' => by
    have := wpAny_of_seq (md := .any) (Q' := Q) (l.drop n) n listed a' w' (fun j => by simp [List.getElem?_drop]) (by rw [hdl]; exact hL.1) (hL.2 w' hw')
    rwa [hdl] at this) _ _ _ _ hC H
  rw [htl, show n + (l.toArray.size - n) = l.toArray.size by omega] at H2
  exact H2
end
theorem wpQuiet_mono {P : Program} {ops : Array Oper} {C : World → Prop} {Q Q' : Act → Prop} (hq : ∀ a, Q a → Q' a) : ∀ (l : List Oper) (a : Act), wpQuiet P ops C Q l a → wpQuiet P ops C Q' l a
  | [], a, h => hq a h
  | o :: l, a, h => by
    unfold wpQuiet at *
    split
    · rename_i hw; rw [if_pos hw] at h; exact Oper.quiet_mono (wpQuiet_mono hq l) h
    · rename_i hw; rw [if_neg hw] at h; exact wpQuiet_mono hq l _ h
section
variable {P : Program} {ops : Array Oper} {rest l : List Oper} {n : Sz} {k id : Nat} {f : Nat → Value} {W w0 : World} {F : List Nat} {L : List Ent} {Q : Exit → Act → World → Prop} {a : Act} {v : Value} {o : Oper} {Qa : Act → Prop} {C : World → Prop}
structure QL (P : Program) (ops : Array Oper) (C : World → Prop) (Qa : (Nat → Value) → Prop) (l : List Oper) (n : Sz) (f : Nat → Value) : Prop where
  out : wpQuiet P ops C (fun a => ∃ f', a = Fn n f' ∧ Qa f') l (Fn n f)
theorem k_qt (m : Nat) {l1 l2 : List Oper} (hm : P.follows .mixedOrders = true) (hB : Region.lexTailB .any l.toArray m = true) (H : Heap w0 F L W) (h1 : l.take m = l1) (h2 : l.drop m = l2)
    (h : QL P l.toArray (fun W => Heap w0 F L W) (fun f' => ∀ W', Heap w0 F L W' → SL P l.toArray Q l2 n f' W') l1 n f) : CW P (Code.region id l.toArray true) Q n f W :=
  .alone rfl (region_tail m hm hB H.drew (by
    rw [h1, h2]
    refine wpQuiet_mono ?_ _ _ h.out
    rintro a ⟨f', rfl, h3⟩ W' hW'
    exact (h3 W' hW').out))
theorem q_nil {Qa : (Nat → Value) → Prop} (h : Qa f) : QL P ops C Qa [] n f := ⟨⟨f, rfl, h⟩⟩
theorem q_run {Qa : (Nat → Value) → Prop} (hd : o.dst = some k) (hw : Region.wanted o (yl n f ops) = true) (hr : ∀ W, C W → (execOp (ev n f) o).run P W = .ok (.value v) W) (h : QL P ops C Qa rest n (upd f k v)) : QL P ops C Qa (o :: rest) n f := by
  constructor
  have hy : yielded ops (Fn n f).tmps = yl n f ops := funext (yl_eq n f ops)
  unfold wpQuiet
  rw [hy, if_pos hw]
  refine ⟨v, fun W hW => ?_, by rw [hd, Fn_put]; exact h.out⟩
  unfold Oper.quietAt
  rw [Fn_eval, hr W hW]
  exact ⟨rfl, rfl⟩
theorem q_call {Qa : (Nat → Value) → Prop} {fn : FuncId} {vs : List Value} (hd : o.dst = some k) (hw : Region.wanted o (yl n f ops) = true) (hc : ∀ W, Heap w0 F L W → Calls P fn vs.toArray W (fun e w' => e = .returned v ∧ Only [] W w')) (hrun : ∀ W, (execOp (ev n f) o).run P W = .ok (.enter fn vs.toArray) W)
    (h : QL P ops (fun W => Heap w0 F L W) Qa rest n (upd f k v)) : QL P ops (fun W => Heap w0 F L W) Qa (o :: rest) n f := by
  constructor
  have hy : yielded ops (Fn n f).tmps = yl n f ops := funext (yl_eq n f ops)
  unfold wpQuiet
  rw [hy, if_pos hw]
  refine ⟨v, fun W hW => ?_, by rw [hd, Fn_put]; exact h.out⟩
  unfold Oper.quietAt
  rw [Fn_eval, hrun W]
  exact ⟨rfl, (hc W hW).mono fun e w' h2 => ⟨h2.1, hW.same h2.2⟩⟩
end
end Go.Proofs.Ytdgmlfpikgjnlaa
end

section
namespace Go.Proofs.Ytdgmlfpikgjnlaa
open Go.RowKit
structure Inf (P : Program) (e : TypeId) (z : Value) (size bytes : Nat) : Prop where
  ex : ∃ i, P.info? e = some i ∧ i.zero = some z ∧ i.size = size ∧ i.bytes = bytes
theorem inf_of {P : Program} {e : TypeId} {z : Value} {size bytes : Nat} (h : (P.info? e).map (fun i => (i.zero, i.size, i.bytes)) = some (some z, size, bytes)) : Inf P e z size bytes := by
  cases hi : P.info? e with
  | none => rw [hi] at h; simp at h
  | some i => rw [hi] at h; simp at h; exact ⟨i, hi, h.1, h.2.1, h.2.2⟩
section
variable {P : Program} {W w0 : World} {F : List Nat} {L : List Ent}
end
section
variable {P : Program} {ops : Array Oper} {rest : List Oper} {n : Sz} {k k2 : Nat} {f : Nat → Value} {W w0 : World} {F : List Nat} {L : List Ent} {Q : Exit → Act → World → Prop} {ty ty2 : TypeId} {pos pos2 : String} {af af2 : Array Edge} {g : Option (Nat × Bool)} {x y s : Operand} {v u : Value} {t e : TypeId}
/-- &T{..} -/
theorem s_box {cs : List Value} (H : Heap w0 F L W) (hw : Region.wanted ⟨some k, .box t x, ty, pos, af, g⟩ (yl n f ops) = true) (hx : ev n f x = .agg cs.toArray)
    (h : ∀ p W', Heap w0 F (blk p cs t :: L) W' → SL P ops Q rest n (upd f k (.pointer (some ⟨p, 0, none⟩))) W') : SL P ops Q (⟨some k, .box t x, ty, pos, af, g⟩ :: rest) n f W :=
  s_run rfl hw (W' := W.alloc (.cells cs.toArray t)) (by simp only [execOp, hx]; rfl) (h _ _ (H.alloc cs t))
theorem s_box1 (H : Heap w0 F L W) (hw : Region.wanted ⟨some k, .box t x, ty, pos, af, g⟩ (yl n f ops) = true) (hx : ev n f x = u) (h1 : u.oneCell' = true)
    (h : ∀ p W', Heap w0 F (blk p [u] t :: L) W' → SL P ops Q rest n (upd f k (.pointer (some ⟨p, 0, none⟩))) W') : SL P ops Q (⟨some k, .box t x, ty, pos, af, g⟩ :: rest) n f W :=
  s_run rfl hw (W' := W.alloc (.cells [u].toArray t)) (by simp only [execOp, hx, Instr.box, newVar, one_cells h1]; rfl) (h _ _ (H.alloc [u] t))
/-- built values -/
theorem r_bd {parts : Array (Nat × Operand)} {vs : List (Nat × Value)} {cs : List Value} {dst : Option Tmp} (hb : ∀ W, (Instr.build t vs.toArray).run P W = .ok (.agg cs.toArray) W) (hv : parts.toList.map (fun p => (p.1, ev n f p.2)) = vs) :
    (execOp (ev n f) ⟨dst, .build t parts, ty, pos, af, g⟩).run P W = .ok (.value (.agg cs.toArray)) W := by
  subst hv
  have h3 : (parts.map fun p => (p.1, ev n f p.2)) = (parts.toList.map (fun p => (p.1, ev n f p.2))).toArray := by rw [← Array.toList_map]
  have h4 : (parts.map fun | (i, x) => (i, ev n f x)) = (parts.toList.map (fun p => (p.1, ev n f p.2))).toArray := h3
  simp only [execOp, Sem.run_bind]
  rw [h4, hb, Result.andThen_ok]; rfl
end
section
variable {P : Program} {ops : Array Oper} {l : List Oper} {n : Sz} {k id fuel : Nat} {f : Nat → Value} {W : World} {Q : Exit → Act → World → Prop} {v : Value} {o : Oper} {S : World → Prop} {listed : Array Bool}
structure TR (P : Program) (ops : Array Oper) (Q : Exit → Act → World → Prop) (S : World → Prop) (fuel : Nat) (listed : Array Bool) (n : Sz) (f : Nat → Value) (W : World) : Prop where
  out : wpAnyH P .any ops Q S fuel listed (Fn n f) W
theorem t_take (i : Nat) (hi : ops[i]? = some o) (hs : Region.noSelect ops = true) (hf : Region.free .any ops listed i = true) (hr : (Region.ready .any ops listed).contains i = true) (hd : o.dst = some k)
    (hQ : ∀ c a w v, Q (.panic c) (a.put o.dst v) w → Q (.panic c) a w) (hw : Region.wanted o (yl n f ops) = true) (hv : ∀ W, S W → (execOp (ev n f) o).run P W = .ok (.value v) W) (hS : S W)
    (h : TR P ops Q S fuel (listed.setIfInBounds i true) n (upd f k v) W) : TR P ops Q S (fuel + 1) listed n f W := by
  have hy : yielded ops (Fn n f).tmps = yl n f ops := funext (yl_eq n f ops)
  refine ⟨wpAnyH_take (v := v) hi hs hf hr (fun c a w => hQ c a w v) (Or.inl ⟨by rw [hy]; exact hw, fun W' hW' => by rw [Fn_eval]; exact hv W' hW'⟩) hS ?_⟩
  rw [hd, Fn_put]; exact h.out
theorem t_off (i : Nat) (hi : ops[i]? = some o) (hs : Region.noSelect ops = true) (hf : Region.free .any ops listed i = true) (hr : (Region.ready .any ops listed).contains i = true) (hd : o.dst = some k)
    (hQ : ∀ c a w v, Q (.panic c) (a.put o.dst v) w → Q (.panic c) a w) (hw : Region.wanted o (yl n f ops) = false) (hS : S W)
    (h : TR P ops Q S fuel (listed.setIfInBounds i true) n (upd f k undef) W) : TR P ops Q S (fuel + 1) listed n f W := by
  have hy : yielded ops (Fn n f).tmps = yl n f ops := funext (yl_eq n f ops)
  refine ⟨wpAnyH_take (v := undef) hi hs hf hr (fun c a w => hQ c a w undef) (Or.inr ⟨by rw [hy]; exact hw, rfl⟩) hS ?_⟩
  rw [hd, Fn_put]; exact h.out
end
end Go.Proofs.Ytdgmlfpikgjnlaa
end

section
namespace Go.Proofs.Ytdgmlfpikgjnlaa
open Go.RowKit
/-- rows of one-celled values that are read -/
def Reads {α : Type} (enc : α → Value) (w : World) (b o : Nat) (xs : List α) : Prop := ∀ i z, xs[i]? = some z → w.cell? ⟨b, o + i, none⟩ = some (enc z)
theorem Heap.reads {α : Type} {enc : α → Value} {w0 W : World} {F : List Nat} {L : List Ent} (H : Heap w0 F L W) (j : Nat) {b : Nat} {xs : List α} {T : TypeId} (hj : L[j]? = some (vec enc b xs T)) (o n : Nat) : Reads enc W b o ((xs.drop o).take n) := by
  intro i z hz
  have hi : i < n := by have := (List.getElem?_eq_some_iff.1 hz).1; simp at this; omega
  rw [List.getElem?_take_of_lt hi, List.getElem?_drop] at hz
  have h0 : xs.length ≠ 0 := by have := (List.getElem?_eq_some_iff.1 hz).1; omega
  obtain ⟨rs, hr⟩ := H.vec_get j hj h0
  exact vec_cell hr hz
/-- a slice that reads as a list, out of blocks that are not of F; nil, if it is empty -/
def Sees {α : Type} (enc : α → Value) (w : World) (F : List Nat) (A : Option Addr) (xs : List α) : Prop := xs.length ≠ 0 → ∃ b o, A = some ⟨b, o, none⟩ ∧ b ∉ F ∧ Reads enc w b o xs
theorem Sees.nil {α : Type} {enc : α → Value} {w : World} {F : List Nat} {A : Option Addr} : Sees enc w F A ([] : List α) := fun h => absurd rfl h
theorem Sees.mono {α : Type} {enc : α → Value} {w : World} {F G : List Nat} {A : Option Addr} {xs : List α} (h : Sees enc w F A xs) (hG : ∀ i ∈ G, i ∈ F) : Sees enc w G A xs := by
  intro h0
  obtain ⟨b, o, e, hb, hr⟩ := h h0
  exact ⟨b, o, e, fun hm => hb (hG b hm), hr⟩
section
variable {P : Program} {n : Sz} {f : Nat → Value} {W : World} {dst : Option Tmp} {ty : TypeId} {pos : String} {af : Array Edge} {g : Option (Nat × Bool)} {x y : Operand} {k : IntKind} {a b : Int} {t t2 e : TypeId}
end
section
variable {P : Program} {ops : Array Oper} {rest : List Oper} {n : Sz} {k k2 : Nat} {f : Nat → Value} {W w0 : World} {F : List Nat} {L : List Ent} {Q : Exit → Act → World → Prop} {ty ty2 : TypeId} {pos pos2 : String} {af af2 : Array Edge} {g : Option (Nat × Bool)} {x y s : Operand} {v u : Value} {t e : TypeId}
end
end Go.Proofs.Ytdgmlfpikgjnlaa
end

section
namespace Go.Proofs.Ytdgmlfpikgjnlaa
section
variable {P : Program} {ops : Array Oper} {l : List Oper} {n : Sz} {k id fuel : Nat} {f : Nat → Value} {W : World} {Q : Exit → Act → World → Prop} {v : Value} {o : Oper} {S : World → Prop} {listed : Array Bool}
theorem tqn (i : Nat) (hi : ops[i]? = some o) (hd : o.dst = some k) (hw : Region.wanted o (yl n f ops) = true) (hv : ∀ W, S W → (execOp (ev n f) o).run P W = .ok (.value v) W) (hS : S W)
    (h : TR P ops Q S fuel (listed.setIfInBounds i true) n (upd f k v) W)
    (hs : Region.noSelect ops = true := by kernel_rfl) (hf : Region.free .any ops listed i = true := by kernel_rfl) (hr : (Region.ready .any ops listed).contains i = true := by kernel_rfl) (hQ : ∀ c a w v, Q (.panic c) (a.put o.dst v) w → Q (.panic c) a w := by exact fun _ _ _ _ h => nomatch h.1) : TR P ops Q S (fuel + 1) listed n f W :=
  t_take i hi hs hf hr hd hQ hw hv hS h
theorem tqh (i : Nat) (hi : ops[i]? = some o) (hd : o.dst = some k) (hw : Region.wanted o (yl n f ops) = true) (hv : ∀ W, S W → (execOp (ev n f) o).run P W = .ok (.value v) W) (hS : S W)
    (h : TR P ops Q S fuel (listed.setIfInBounds i true) n (upd f k v) W)
    (hs : Region.noSelect ops = true := by kernel_rfl) (hf : Region.free .any ops listed i = true := by kernel_rfl) (hr : (Region.ready .any ops listed).contains i = true := by kernel_rfl) (hQ : ∀ c a w v, Q (.panic c) (a.put o.dst v) w → Q (.panic c) a w := by exact fun _ _ _ _ h => h) : TR P ops Q S (fuel + 1) listed n f W :=
  t_take i hi hs hf hr hd hQ hw hv hS h
theorem ton (i : Nat) (hi : ops[i]? = some o) (hd : o.dst = some k) (hw : Region.wanted o (yl n f ops) = false) (hS : S W)
    (h : TR P ops Q S fuel (listed.setIfInBounds i true) n (upd f k undef) W)
    (hs : Region.noSelect ops = true := by kernel_rfl) (hf : Region.free .any ops listed i = true := by kernel_rfl) (hr : (Region.ready .any ops listed).contains i = true := by kernel_rfl) (hQ : ∀ c a w v, Q (.panic c) (a.put o.dst v) w → Q (.panic c) a w := by exact fun _ _ _ _ h => nomatch h.1) : TR P ops Q S (fuel + 1) listed n f W :=
  t_off i hi hs hf hr hd hQ hw hS h
theorem toh (i : Nat) (hi : ops[i]? = some o) (hd : o.dst = some k) (hw : Region.wanted o (yl n f ops) = false) (hS : S W)
    (h : TR P ops Q S fuel (listed.setIfInBounds i true) n (upd f k undef) W)
    (hs : Region.noSelect ops = true := by kernel_rfl) (hf : Region.free .any ops listed i = true := by kernel_rfl) (hr : (Region.ready .any ops listed).contains i = true := by kernel_rfl) (hQ : ∀ c a w v, Q (.panic c) (a.put o.dst v) w → Q (.panic c) a w := by exact fun _ _ _ _ h => h) : TR P ops Q S (fuel + 1) listed n f W :=
  t_off i hi hs hf hr hd hQ hw hS h
end
section
variable {α : Type _} {a x : α} {l m : List α} {i : Nat}
theorem jA : (x :: l).set 0 a = a :: l := List.set_cons_zero
theorem jB : (x :: l).set (i + 1) a = x :: l.set i a := List.set_cons_succ
theorem jC : (x :: l).take (i + 1) = x :: l.take i := List.take_succ_cons
theorem jD : l.take 0 = [] := List.take_zero
theorem jE : (x :: l).drop (i + 1) = l.drop i := List.drop_succ_cons
theorem jF : l.drop 0 = l := List.drop_zero
theorem jG : (x :: l) ++ m = x :: (l ++ m) := List.cons_append
theorem jH : [] ++ l = l := List.nil_append l
theorem jI : l ++ [] = l := List.append_nil l
theorem jJ : (x :: l).length = l.length + 1 := List.length_cons
theorem jK : ([] : List α).length = 0 := List.length_nil
theorem jL : (x :: l).eraseIdx (i + 1) = x :: l.eraseIdx i := List.eraseIdx_cons_succ
theorem jM : (x :: l).eraseIdx 0 = l := List.eraseIdx_cons_zero
end
section
variable {P : Program} {Q : Exit → Act → World → Prop} {n : Sz} {f : Nat → Value} {W : World} {ops : Array Oper}
theorem k_nc {y : Code} (h : CW P y Q n f W) : SL P ops (Exit.then (wpB P y Q) Q) [] n f W := k_nil (c_norm h)
theorem k_sg {y : Code} {id : Nat} {l : List Oper} (h : SL P l.toArray (Exit.then (wpB P y Q) Q) l n f W) : CW P (Code.seq (Code.region id l.toArray false) y) Q n f W := k_seq (k_rg h)
end
section
variable {P : Program} {n : Sz} {f : Nat → Value} {W : World} {dst : Option Tmp} {ty : TypeId} {pos : String} {af : Array Edge} {g : Option (Nat × Bool)} {x y : Operand} {v u : Value} {k : IntKind} {a b c d : Int} {t t2 e : TypeId}
theorem rmi {kq : IntKind} {z : Int} (hx : ev n f x = .int kq z) : (execOp (ev n f) ⟨dst, .move x, ty, pos, af, g⟩).run P W = .ok (.value (.int kq z)) W := r_mv hx
theorem rmb {bq : Bool} (hx : ev n f x = .bool bq) : (execOp (ev n f) ⟨dst, .move x, ty, pos, af, g⟩).run P W = .ok (.value (.bool bq)) W := r_mv hx
theorem rmp {pq : Option Addr} (hx : ev n f x = .pointer pq) : (execOp (ev n f) ⟨dst, .move x, ty, pos, af, g⟩).run P W = .ok (.value (.pointer pq)) W := r_mv hx
theorem rms {aq : Option Addr} {lq cq : Nat} (hx : ev n f x = .slice aq lq cq) : (execOp (ev n f) ⟨dst, .move x, ty, pos, af, g⟩).run P W = .ok (.value (.slice aq lq cq)) W := r_mv hx
theorem rmt {tq : Array Value} (hx : ev n f x = .tuple tq) : (execOp (ev n f) ⟨dst, .move x, ty, pos, af, g⟩).run P W = .ok (.value (.tuple tq)) W := r_mv hx
theorem rai {kq : IntKind} {z : Int} (hx : ev n f x = .int kq z) : (execOp (ev n f) ⟨dst, .assign x, ty, pos, af, g⟩).run P W = .ok (.value (.int kq z)) W := r_as hx
theorem rab {bq : Bool} (hx : ev n f x = .bool bq) : (execOp (ev n f) ⟨dst, .assign x, ty, pos, af, g⟩).run P W = .ok (.value (.bool bq)) W := r_as hx
theorem rap {pq : Option Addr} (hx : ev n f x = .pointer pq) : (execOp (ev n f) ⟨dst, .assign x, ty, pos, af, g⟩).run P W = .ok (.value (.pointer pq)) W := r_as hx
theorem ras {aq : Option Addr} {lq cq : Nat} (hx : ev n f x = .slice aq lq cq) : (execOp (ev n f) ⟨dst, .assign x, ty, pos, af, g⟩).run P W = .ok (.value (.slice aq lq cq)) W := r_as hx
theorem rat {tq : Array Value} (hx : ev n f x = .tuple tq) : (execOp (ev n f) ⟨dst, .assign x, ty, pos, af, g⟩).run P W = .ok (.value (.tuple tq)) W := r_as hx
end
end Go.Proofs.Ytdgmlfpikgjnlaa
end

section
namespace Go.Proofs.Ytdgmlfpikgjnlaa
open Go.RowKit
section
variable {P : Program} {n : Sz} {f : Nat → Value} {W w0 : World} {F : List Nat} {L : List Ent} {dst : Option Tmp} {ty : TypeId} {pos : String} {af : Array Edge} {g : Option (Nat × Bool)} {x y : Operand} {v : Value} {k : IntKind} {a b : Int} {t t2 e T : TypeId} {p o m : Nat} {cs vs : List Value}
theorem run_loadPart (h : W.heap[p]? = some (.cells cs.toArray T (0, 0))) (hv : (cs.drop o).take m = vs) (hl : vs.length = m) (hagg : ∀ W, (isAgg t).run P W = .ok true W) (hsz : ∀ W, (Go.sizeOf t).run P W = .ok m W) : (loadVar t ⟨p, o, none⟩).run P W = .ok (.agg vs.toArray) W := by
 have hr := run_loadCells_list (P := P) W ⟨p, o, none⟩ vs (fun j u hj => by
  rw [add_plain, Joins.cell_of_block h]
  subst hv
  have hjm : j < m := by have := (List.getElem?_eq_some_iff.1 hj).1; simp at this; omega
  rw [List.getElem?_take_of_lt hjm, List.getElem?_drop] at hj
  simpa using hj)
 simp only [loadVar, Sem.run_bind, hagg, Result.andThen_ok, if_true, hsz]
 rw [hl] at hr
 rw [hr]; simp
theorem r_la (H : Heap w0 F L W) (j : Nat) (hx : ev n f x = .pointer (some ⟨p, 0, none⟩)) (hj : L[j]? = some (blk p cs T)) (hl : cs.length = m) (hagg : ∀ W, (isAgg t).run P W = .ok true W) (hsz : ∀ W, (Go.sizeOf t).run P W = .ok m W) :
  (execOp (ev n f) ⟨dst, .load t x, ty, pos, af, g⟩).run P W = .ok (.value (.agg cs.toArray)) W := by
 have h := run_loadPart (P := P) (t := t) (o := 0) (vs := cs) (H.blk_get j hj) (by rw [← hl]; simp) hl hagg hsz
 simp only [execOp, Instr.loadAt, hx, Instr.sureAddr, Sem.run_bind, Sem.run_pure, Result.andThen_ok, h]
/-! results -/
def RV (P : Program) (W : World) (n : Sz) (f : Nat → Value) (r : ResultVar) (v : Value) : Prop :=
 match r with
 | .tmp t => ev n f (.tmp t) = v
 | .cell a t => ∃ q, ev n f (.tmp a) = .pointer (some q) ∧ (loadVar t q).run P W = .ok v W
theorem rv_c {q : Nat} (H : Heap w0 F L W) (j : Nat) (ha : ev n f (.tmp q) = .pointer (some ⟨p, 0, none⟩)) (hj : L[j]? = some (blk p [v] T)) (hagg : ∀ W, (isAgg t).run P W = .ok false W) : RV P W n f (.cell q t) v := by
 refine ⟨_, ha, ?_⟩
 have hc : W.cell? ⟨p, 0, none⟩ = some v := by rw [Joins.cell_of_block (H.blk_get j hj)]; rfl
 have h2 : (load ⟨p, 0, none⟩).run P W = .ok v W := by simp [load, Sem.run, hc]
 simp only [loadVar, Sem.run_bind, Result.andThen_ok, hagg, Bool.false_eq_true, if_false, h2]
theorem ev_getD2 (t : Nat) : (Fn n f).tmps[t]?.getD undef = ev n f (.tmp t) := by rw [← ev_getD, Array.getD_eq_getD_getElem?]
theorem rv_open (r : ResultVar) (h : RV P W n f r v) : (∃ t, r = .tmp t ∧ (Fn n f).tmps[t]?.getD undef = v) ∨ (∃ a t q, r = .cell a t ∧ (Fn n f).tmps[a]?.getD undef = .pointer (some q) ∧ (loadVar t q).run P W = .ok v W) := by
 cases r with
 | tmp t => exact .inl ⟨t, rfl, by rw [ev_getD2]; exact h⟩
 | cell a t =>
  obtain ⟨q, h1, h2⟩ := h
  exact .inr ⟨a, t, q, rfl, by rw [ev_getD2]; exact h1, h2⟩
theorem run_asAddr (q : Addr) : (asAddr (.pointer (some q))).run P W = .ok q W := rfl
theorem run_results1 {fn : Func} {r : ResultVar} (hr : fn.results = #[r]) (h : RV P W n f r v) : (results fn (Fn n f).tmps).run P W = .ok v W := by
 rcases rv_open r h with ⟨t, rfl, h1⟩ | ⟨a, t, q, rfl, h1, h2⟩ <;> simp_all [results, hr, Sem.run_bind, run_asAddr]
end
section
variable {P : Program} {ops : Array Oper} {rest : List Oper} {n : Sz} {k k2 : Nat} {f : Nat → Value} {W w0 : World} {F : List Nat} {L : List Ent} {Q : Exit → Act → World → Prop} {ty ty2 : TypeId} {pos pos2 : String} {af af2 : Array Edge} {g : Option (Nat × Bool)} {x y s : Operand} {v u : Value} {t e : TypeId}
theorem s_al1 {z : Value} {bytes : Nat} (H : Heap w0 F L W) (hw : Region.wanted ⟨some k, .alloc t, ty, pos, af, g⟩ (yl n f ops) = true) (hi : Inf P t z 1 bytes) (hz1 : z.oneCell' = true)
  (h : ∀ p W', Heap w0 F (blk p [z] t :: L) W' → SL P ops Q rest n (upd f k (.pointer (some ⟨p, 0, none⟩))) W') : SL P ops Q (⟨some k, .alloc t, ty, pos, af, g⟩ :: rest) n f W := by
 obtain ⟨i, h1, h2, _, _⟩ := hi.ex
 have hz : ∀ W, (zeroValue t).run P W = .ok z W := fun W => by simp [zeroValue, typeInfo, h1, h2]
 exact s_run rfl hw (W' := W.alloc (.cells [z].toArray t)) (by simp only [execOp, Instr.alloc, Sem.run_bind, hz, Result.andThen_ok, newVar, one_cells hz1]; rfl) (h _ _ (H.alloc [z] t))
end
end Go.Proofs.Ytdgmlfpikgjnlaa
end

section
namespace Go.Proofs.Ytdgmlfpikgjnlaa
open Go.RowKit
set_option maxHeartbeats 400000
set_option maxRecDepth 100000
end Go.Proofs.Ytdgmlfpikgjnlaa
end

section
namespace Go.Proofs.Ytdgmlfpikgjnlaa
open Go.RowKit
section
variable {P : Program} (w : World)
end
end Go.Proofs.Ytdgmlfpikgjnlaa
end

section
namespace Go.Proofs.Ytdgmlfpikgjnlaa
open Go.RowKit
section
variable {P : Program} {n : Sz} {f : Nat → Value} {W w0 : World} {F : List Nat} {L : List Ent} {dst : Option Tmp} {ty : TypeId} {pos : String} {af : Array Edge} {g : Option (Nat × Bool)} {x y : Operand} {v : Value} {k : IntKind} {a b : Int} {t t2 e T : TypeId} {p o m : Nat} {cs vs : List Value}
end
section
variable {P : Program} {ops : Array Oper} {rest : List Oper} {n : Sz} {k k2 : Nat} {f : Nat → Value} {W w0 : World} {F : List Nat} {L : List Ent} {Q : Exit → Act → World → Prop} {ty ty2 : TypeId} {pos pos2 : String} {af af2 : Array Edge} {g : Option (Nat × Bool)} {x y s : Operand} {v u : Value} {t e : TypeId}
end
end Go.Proofs.Ytdgmlfpikgjnlaa
end

section
namespace Go.Proofs.Ytdgmlfpikgjnlaa
open Go.RowKit
section
variable {P : Program} {n : Sz} {f : Nat → Value} {W w0 : World} {dst : Option Tmp} {ty : TypeId} {pos : String} {af : Array Edge} {g : Option (Nat × Bool)} {x y : Operand} {t t2 e e1 e2 : TypeId}
end
section
variable {P : Program} {ops : Array Oper} {rest : List Oper} {n : Sz} {k k2 : Nat} {f : Nat → Value} {W w0 : World} {F : List Nat} {L : List Ent} {Q : Exit → Act → World → Prop} {ty ty2 : TypeId} {pos pos2 : String} {af af2 : Array Edge} {g : Option (Nat × Bool)} {x y s : Operand} {v u : Value} {t e : TypeId}
end
end Go.Proofs.Ytdgmlfpikgjnlaa
end

section
namespace Go.Proofs.Ytdgmlfpikgjnlaa
open Go.RowKit
section
variable {P : Program} {n : Sz} {f : Nat → Value} {W : World} {dst : Option Tmp} {ty : TypeId} {pos : String} {af : Array Edge} {g : Option (Nat × Bool)} {x y : Operand} {t t2 : TypeId}
end
end Go.Proofs.Ytdgmlfpikgjnlaa
end

section
namespace Go.Proofs.Ytdgmlfpikgjnlaa
open Go.RowKit
/-- values of one cell -/
inductive C1 where
 | i (k : IntKind) (z : Int)
 | b (q : Bool)
 | s (A : Option Addr) (n c : Nat)
 | p (A : Option Addr)
def C1.v : C1 → Value
 | .i k z => .int k z
 | .b q => .bool q
 | .s A n c => .slice A n c
 | .p A => .pointer A
theorem C1.one (x : C1) : x.v.oneCell' = true := by cases x <;> rfl
theorem Sees.row {α : Type} {enc : α → Value} {w : World} {F : List Nat} {A : Option Addr} {n : Nat} {xs : List α} (h : Sees enc w F A xs) (hl : xs.length = n) : RowAt w w.heap.size A n (xs.map enc) :=
 ⟨by simpa using hl, fun h0 => by
  obtain ⟨b, o, rfl, _, hr⟩ := h (by omega)
  refine ⟨b, o, rfl, ?_, fun j u hu => ?_⟩
  ·have := hr 0 xs[0] (List.getElem?_eq_getElem (by omega))
   exact cell_lt this
  ·rw [List.getElem?_map] at hu
   cases hj : xs[j]? with
   | none => rw [hj] at hu; cases hu
   | some z => rw [hj] at hu; rw [hr j z hj]; simpa using hu⟩
section
variable {P : Program} {n : Sz} {f : Nat → Value} {W w0 : World} {dst : Option Tmp} {ty : TypeId} {pos : String} {af : Array Edge} {g : Option (Nat × Bool)} {x y : Operand} {t t2 e : TypeId} {v : Value}
end
section
variable {P : Program} {ops : Array Oper} {rest : List Oper} {n : Sz} {k k2 : Nat} {f : Nat → Value} {W w0 : World} {F : List Nat} {L : List Ent} {Q : Exit → Act → World → Prop} {ty ty2 : TypeId} {pos pos2 : String} {af af2 : Array Edge} {g : Option (Nat × Bool)} {x y s : Operand} {v u : Value} {t e : TypeId}
end
end Go.Proofs.Ytdgmlfpikgjnlaa
end

section
namespace Go.Proofs.Ytdgmlfpikgjnlaa
open Go.RowKit
section
variable {P : Program} {W : World}
end
section
variable {P : Program} {n : Sz} {f : Nat → Value} {W w0 : World} {dst : Option Tmp} {ty : TypeId} {pos : String} {af : Array Edge} {g : Option (Nat × Bool)} {x y : Operand} {t t2 e : TypeId} {v : Value} {k k2 : IntKind} {a b : Int}
end
section
variable {P : Program} {ops : Array Oper} {rest : List Oper} {n : Sz} {k k2 : Nat} {f : Nat → Value} {W w0 : World} {F : List Nat} {L : List Ent} {Q : Exit → Act → World → Prop} {ty ty2 : TypeId} {pos pos2 : String} {af af2 : Array Edge} {g : Option (Nat × Bool)} {x y s : Operand} {v u : Value} {t tn e : TypeId}
end
end Go.Proofs.Ytdgmlfpikgjnlaa
end

section
namespace Go.Proofs.Ytdgmlfpikgjnlaa
open Go.RowKit
section
variable {P : Program} {n : Sz} {f : Nat → Value} {W : World} {ty : TypeId} {pos : String} {af : Array Edge} {g : Option (Nat × Bool)} {c : Operand}
theorem r_mkf {i : Go.Fn} {xs : Array Operand} {dst : Option Tmp} {vs : List Value} (hv : xs.toList.map (ev n f) = vs) : (execOp (ev n f) ⟨dst, .makeFunc i #[] xs, ty, pos, af, g⟩).run P W = .ok (.value (.func i #[] vs.toArray)) W := by
 subst hv
 have h3 : xs.map (ev n f) = (xs.toList.map (ev n f)).toArray := by rw [← Array.toList_map]
 simp only [execOp, h3, Instr.makeFunc, Sem.run_bind, Sem.run_pure, Result.andThen_ok, Array.map_empty]
end
end Go.Proofs.Ytdgmlfpikgjnlaa
end

section
namespace Go.Proofs.Ytdgmlfpikgjnlaa
open Go.RowKit
/-- entries of cells alone -/
def Cel (E : Ent) : Prop := ∀ W, E.ok W → ∀ i ∈ E.ids, ∃ o : Obj, W.heap[i]? = some o ∧ o.isCells = true
theorem cl_blk (b : Nat) (cs : List Value) (T : TypeId) : Cel (blk b cs T) := fun W h i hi => by
 rw [List.mem_singleton.1 hi]; exact ⟨_, h, rfl⟩
theorem cl_nil : ∀ E ∈ ([] : List Ent), Cel E := fun _ h => by cases h
theorem cl_cons {E : Ent} {L : List Ent} (h : Cel E) (hL : ∀ E ∈ L, Cel E) : ∀ X ∈ E :: L, Cel X := fun X hX => by
 rcases List.mem_cons.1 hX with rfl | hX
 ·exact h
 ·exact hL X hX
theorem fm_range {α : Type _} (L : List α) : (List.range L.length).filterMap (fun i => L[i]?) = L := by
 induction L with
 | nil => rfl
 | cons a l ih =>
  rw [List.length_cons, List.range_succ_eq_map, List.filterMap_cons]
  simp only [List.getElem?_cons_zero, List.filterMap_map, Function.comp_def, List.getElem?_cons_succ]
  rw [ih]
/-- the entries in another order -/
theorem Heap.order {w0 W : World} {F : List Nat} {L L' : List Ent} (H : Heap w0 F L W) (p : List Nat) (hp : p.isPerm (List.range L.length) = true) (hL : p.filterMap (fun i => L[i]?) = L') : Heap w0 F L' W := by
 refine H.perm ?_
 rw [← hL]
 have h1 := (List.isPerm_iff.1 hp).filterMap (fun i => L[i]?)
 rw [fm_range] at h1
 exact h1.symm
/-- the block of a loop's deferred calls: there are none -/
def dfd (D : Nat) : Ent :=
 ⟨[D], fun W => W.heap[D]? = some (.deferred (some [])), fun W h i hi => by rw [List.mem_singleton.1 hi]; exact arr_lt h, fun W W' h hk => by rw [h D (by simp)]; exact hk⟩
/-- a block that is no cells changes -/
theorem Heap.turn {w0 W W' : World} {F : List Nat} {L : List Ent} {row : Option Nat} (H : Heap w0 F L W) (hc : ∀ E ∈ L, Cel E) (hg : W.grownBy W' row) (hr : ∀ r, row = some r → w0.heap.size ≤ r ∧ ∃ o : Obj, W.heap[r]? = some o ∧ o.isCells = false) : Heap w0 F L W' := by
 refine ⟨fun E hE => ?_, H.nd, H.own, ?_⟩
 ·refine E.loc W W' (fun i hi => ?_) (H.ok E hE)
  obtain ⟨o, ho, hoc⟩ := hc E hE W (H.ok E hE) i hi
  refine hg.block i (arr_lt ho) (fun e => ?_)
  obtain ⟨_, o2, ho2, hn⟩ := hr i e.symm
  rw [ho] at ho2; cases ho2; rw [hoc] at hn; cases hn
 ·refine ⟨hg.os.trans H.only.os, hg.tape.trans H.only.tape, hg.output.trans H.only.output, Nat.le_trans H.only.size hg.size, fun k hk hf => ?_⟩
  rw [hg.block k (Nat.lt_of_lt_of_le hk H.only.size) (fun e => by have := (hr k e.symm).1; omega)]
  exact H.only.block k hk hf
theorem only_grown {W W' : World} (h : Only [] W W') : W.grownBy W' none := ⟨h.os, h.tape, h.output, h.size, fun k hk _ => h.block k hk (by simp)⟩
/-- what an iterator wants kept: some blocks -/
def Kp (K : List Nat) (W W' : World) : Prop := ∀ i ∈ K, W'.heap[i]? = W.heap[i]?
theorem Kp.ents {A : List Ent} {W W' : World} (h : Kp (ids A) W W') (hA : Ents A W) : Ents A W' :=
 ⟨fun E hE => E.loc W W' (fun i hi => h i (mem_ids.2 ⟨E, hE, hi⟩)) (hA.1 E hE), hA.2⟩
theorem Kp.trans {K : List Nat} {A B C : World} (h : Kp K A B) (k : Kp K B C) : Kp K A C := fun i hi => (k i hi).trans (h i hi)
theorem abide {β : Type} {B : Nat} {J : β → World → Prop} (hJ : AbidesFrom B J) {s : β} {W W' : World} (h : J s W) (hO : Only [] W W') : J s W' := hJ s W W' none h (only_grown hO) (fun _ e => by cases e)
theorem seq_args (a : Value) (l : List Value) : #[a] ++ l.toArray = (a :: l).toArray := by simp
/-- how a round ends -/
def RQ {α : Type} (I : List α → List Ent → Prop) (Ix : Code → List α → List Ent → Prop) (pre : List α) (L : List Ent) (W : World) : Exit → Act → World → Prop
 | .normal, _, W' => ∃ L', I pre L' ∧ Heap W (ids L) L' W'
 | .ret, _, W' => ∃ L', Ix .ret pre L' ∧ Heap W (ids L) L' W'
 | .exit id, _, W' => ∃ L', Ix (.exit id) pre L' ∧ Heap W (ids L) L' W'
 | _, _, _ => False
def setAll (l : List (Nat × Value)) (f : Nat → Value) : Nat → Value := l.foldl (fun f p => upd f p.1 p.2) f
theorem setAll_tmps {ds : List Nat} (N : Nat) : ∀ (l : List (Nat × Value)) (f : Nat → Value), l.foldl (fun t p => t.setIfInBounds p.1 p.2) (Fn ⟨N, ds⟩ f).tmps = (Fn ⟨N, []⟩ (setAll l f)).tmps
 | [], f => rfl
 | (p, v) :: l, f => by
  have h : (Fn ⟨N, ds⟩ f).tmps.setIfInBounds p v = (Fn ⟨N, []⟩ (upd f p v)).tmps := congrArg Act.tmps (Fn_put ⟨N, []⟩ f p v)
  rw [List.foldl_cons, h]
  exact setAll_tmps N l _
section
variable {P : Program} {ops : Array Oper} {rest : List Oper} {n : Sz} {k id : Nat} {f : Nat → Value} {W w0 : World} {F : List Nat} {L : List Ent} {Q : Exit → Act → World → Prop} {v : Value} {o : Oper}
theorem rq_go {α : Type} {I : List α → List Ent → Prop} {Ix : Code → List α → List Ent → Prop} {pre : List α} {L0 : List Ent} {W0 : World} (h : ∃ L', I pre L' ∧ Heap W0 (ids L0) L' W) : PQ (RQ I Ix pre L0 W0) .normal n f W := ⟨h⟩
theorem rq_ret {α : Type} {I : List α → List Ent → Prop} {Ix : Code → List α → List Ent → Prop} {pre : List α} {L0 : List Ent} {W0 : World} (h : ∃ L', Ix .ret pre L' ∧ Heap W0 (ids L0) L' W) : PQ (RQ I Ix pre L0 W0) .ret n f W := ⟨h⟩
theorem asg_end {fx : Nat → Value} (h : f = fx) : PQ (fun e a W' => e = .normal ∧ a = Fn n fx ∧ W' = W) .normal n f W := ⟨by subst h; exact ⟨rfl, rfl, rfl⟩⟩
/-- for x := range g -/
theorem k_rf {α : Type} {g : Operand} {ps : Array Tmp} {assign body : Code} {gf : Nat} {G : Func} {lb : Array Value} {encs : α → Array Value} {S Sp : List α → Prop} {N : Nat} (Lb Lk : List Ent) (H : Heap w0 F (Lb ++ Lk) W) (hclk : ∀ E ∈ Lk, Cel E)
  (hg : ev n f g = .func (.func gf) #[] lb) (hf : P.funcs[gf]? = some G) (hn : (G.name == "runtime.NumGoroutine") = false) (hb : G.body.isNone = false)
  (hseq : SeqStopsK Fence.wide 4 P gf lb encs (Kp (ids Lk)) S Sp N W) (hps : ∀ x, (encs x).size = ps.size) (hrok : (rok assign && rok body) = true)
  (I : List α → List Ent → Prop) (Ix : Code → List α → List Ent → Prop) (hI : ∀ pre L, I pre L → ∀ E ∈ L, Cel E) (hIx : ∀ c pre L, Ix c pre L → ∀ E ∈ L, Cel E) (h0 : I [] Lb) (zs ss : α → List (Nat × Value)) (hz : ∀ x, (ps.zip (encs x)).toList = zs x)
  (hassign : ∀ x W, CW P assign (fun e a W' => e = .normal ∧ a = Fn ⟨n.n, []⟩ (setAll (ss x) (setAll (zs x) f)) ∧ W' = W) ⟨n.n, []⟩ (setAll (zs x) f) W)
  (hbody : ∀ pre x L W, I pre L → pre.length < N → Heap w0 F (L ++ Lk) W → Heap W (ids L) L W → CW P body (RQ I Ix (pre ++ [x]) L W) ⟨n.n, []⟩ (setAll (ss x) (setAll (zs x) f)) W)
  (hdone : ∀ D xs L W, S xs → I xs L → Heap w0 F (dfd D :: (L ++ Lk)) W → PQ Q .normal ⟨n.n, D :: n.d⟩ f W)
  (hstop : ∀ D c pre L W, Sp pre → Ix c pre L → Heap w0 F (dfd D :: (L ++ Lk)) W → CW P c Q ⟨n.n, D :: n.d⟩ f W) : CW P (Code.rangeFunc g ps assign body) Q n f W := by
 refine .alone rfl ((wpIn_wide (n := 5)).1 ?_)
 have hrok' : rok assign = true ∧ rok body = true := by simpa using hrok
 have hsz := H.only.size
 have hcl : ∀ {L : List Ent}, (∀ E ∈ L, Cel E) → ∀ E ∈ L ++ Lk, Cel E := fun hL E hE => by
  rcases List.mem_append.1 hE with h | h
  ·exact hL E h
  ·exact hclk E h
 have own : ∀ (J : List α → List Ent → Prop), (∀ pre L, J pre L → ∀ E ∈ L, Cel E) → OwnFrom W.heap.size (fun pre W' => ∃ L, J pre L ∧ Heap w0 F (L ++ Lk) W') := by
  intro J hJ pre A B row ⟨L, hL, hH⟩ hgb hr
  exact ⟨L, hL, hH.turn (hcl (hJ _ _ hL)) hgb (fun r e => ⟨Nat.le_trans hsz (hr r e).1, (hr r e).2⟩)⟩
 have mark : ∀ {D : Nat} {L : List Ent} {W' : World}, W.heap.size ≤ D → (∀ E ∈ L, Cel E) → Heap w0 F (L ++ Lk) W' → W'.heap[D]? = some (.deferred (some [])) → Heap w0 F (dfd D :: (L ++ Lk)) W' := by
  intro D L W' hD hL hH hK
  refine ⟨fun E hE => ?_, ?_, fun i hi => ?_, hH.only⟩
  ·rcases List.mem_cons.1 hE with rfl | hE
   ·exact hK
   ·exact hH.ok E hE
  ·rw [ids_cons]
   refine List.nodup_append.2 ⟨by simp [dfd], hH.nd, fun a ha b hb hab => ?_⟩
   subst hab
   obtain rfl : a = D := by simpa [dfd] using ha
   obtain ⟨E, hE, hm⟩ := mem_ids.1 hb
   obtain ⟨o, ho, hoc⟩ := hcl hL E hE W' (hH.ok E hE) a hm
   rw [hK] at ho; cases ho; cases hoc
  ·rw [ids_cons] at hi
   rcases List.mem_append.1 hi with hi | hi
   ·obtain rfl : i = D := by simpa [dfd] using hi
    exact .inr (Nat.le_trans hsz hD)
   ·exact hH.own i hi
 have hKlt : ∀ i ∈ ids Lk, i < W.heap.size := fun i hi => H.idlt i (by rw [ids_append]; exact List.mem_append_right _ hi)
 refine wpIn_rangeFunc_ownG (F := Fence.wide) rfl (by omega) (gf := gf) (lb := lb) (by rw [Fn_eval]; exact hg) trivial (fun args w => run_callFunc hf hn hb args) hseq
  (fun h1 h2 => h1.trans h2) (fun W' l o o' hl ho _ _ i hi => World.putObj_heap_other (by have := hKlt i hi; omega)) (Below.refl _ _) hps
  (fun pre W' => ∃ L, I pre L ∧ Heap w0 F (L ++ Lk) W') (fun c pre W' => ∃ L, Ix c pre L ∧ Heap w0 F (L ++ Lk) W') (own I hI) (fun c => own (Ix c) (hIx c)) ⟨Lb, h0, H⟩ (fun x => Fn ⟨n.n, []⟩ (setAll (ss x) (setAll (zs x) f))) ?_ ?_ ?_ ?_
 ·intro l x W' K hK
  have h1 := (hassign x W').inr hrok'.1 l 3
  have h2 : ({ tmps := (ps.zip (encs x)).foldl (fun t (p, v) => t.setIfInBounds p v) (Fn n f).tmps, defers := [] } : Act) = Fn ⟨n.n, []⟩ (setAll (zs x) f) := by
   have h3 := setAll_tmps (ds := n.d) n.n (ps.zip (encs x)).toList f
   rw [Array.foldl_toList, hz x] at h3
   exact congrArg (fun t => ({ tmps := t, defers := [] } : Act)) h3
  rw [h2]
  refine Code.wpIn_mono ?_ h1
  rintro e a W2 ⟨rfl, rfl, rfl⟩
  exact hK
 ·rintro l pre x W' ⟨L, hL, hH⟩ hlen
  have hE : Ents L W' := hH.part
  refine Code.wpIn_mono ?_ ((hbody pre x L W' hL hlen hH (Heap.start hE)).inr hrok'.2 l 3)
  have base : ∀ {L' : List Ent} {W2 : World}, Heap W' (ids L) L' W2 → KeepsFrom W.heap.size W' W2 ∧ Kp (ids Lk) W' W2 ∧ Heap w0 F (L' ++ Lk) W2 := by
   intro L' W2 h2
   refine ⟨⟨h2.only.size, fun k o _ hk ho => ?_⟩, fun i hi => ?_, hH.step h2 (fun _ h => h)⟩
   ·rw [h2.only.block k (arr_lt hk) (fun hm => ?_)]; exact hk
    obtain ⟨E, hE2, hm2⟩ := mem_ids.1 hm
    obtain ⟨o2, ho2, hoc⟩ := hI _ _ hL E hE2 W' (hE.1 E hE2) k hm2
    rw [hk] at ho2; cases ho2; rw [ho] at hoc; cases hoc
   ·refine h2.only.block i (hH.idlt i (by rw [ids_append]; exact List.mem_append_right _ hi)) (fun hm => ?_)
    have hnd := hH.nd
    rw [ids_append] at hnd
    exact (List.nodup_append.1 hnd).2.2 i hm i hi rfl
  rintro e a W2 h2
  cases e with
  | normal =>
   obtain ⟨L', hL', h3⟩ := h2
   obtain ⟨b1, b2, b3⟩ := base h3
   exact ⟨b1, b2, L', hL', b3⟩
  | ret =>
   obtain ⟨L', hL', h3⟩ := h2
   obtain ⟨b1, b2, b3⟩ := base h3
   exact ⟨b1, L', hL', b3⟩
  | exit i =>
   obtain ⟨L', hL', h3⟩ := h2
   obtain ⟨b1, b2, b3⟩ := base h3
   exact ⟨b1, L', hL', b3⟩
  | goto _ => exact h2.elim
  | panic _ => exact h2.elim
  | outgrown => exact h2.elim
 ·rintro D xs W' hD hS ⟨L, hL, hH⟩ hK
  exact (hdone D xs L W' hS hL (mark hD (hI _ _ hL) hH hK)).out
 ·rintro D c pre W' hD hS ⟨L, hL, hH⟩ hK
  exact wpIn_wide.2 (hstop D c pre L W' hS hL (mark hD (hIx _ _ _ hL) hH hK)).out
/-! the way out -/
def FIN (P : Program) (fn : Func) (R : Ending → World → Prop) (n : Sz) (f : Nat → Value) (W : World) : Prop := LeavesInM Fence.wide 5 P fn (Fn n f).tmps R (Fn n f).defers .returning W
abbrev bodyPostR (P : Program) (fn : Func) (R : Ending → World → Prop) := bodyPostM Fence.wide 5 P fn R
theorem k_inM {g : FuncId} {fn : Func} {c : Code} {l : List Value} {R : Ending → World → Prop} (hf : P.funcs[g]? = some fn) (hb : fn.body = some c) {N : Nat} (hN : fn.ntmps = N) (hl : Nat.ble l.length N = true)
  (h : CW P c (bodyPostR P fn R) ⟨N, []⟩ (args l) W) : Calls P g l.toArray W R := by
 have hl' : l.length ≤ N := Nat.le_of_ble_eq_true hl
 have e : ({ tmps := l.toArray ++ Array.replicate (fn.ntmps - l.toArray.size) undef, defers := [] } : Act) = Fn ⟨N, []⟩ (args l) := by
  simp only [Fn, List.map_nil, Act.mk.injEq, and_true]
  apply Array.ext_getElem?
  intro i
  rw [Array.getElem?_append]
  simp only [List.size_toArray, List.getElem?_toArray, List.getElem?_map, hN]
  split
  ·rename_i hi
   have hg : l[i]? = some l[i] := List.getElem?_eq_getElem hi
   have hiN : i < N := by omega
   have hr : (List.range N)[i]? = some i := by simp [hiN]
   rw [hg, hr, Option.map_some]; simp [args, List.getD, hg]
  ·rename_i hi
   by_cases hiN : i < N
   ·have hr : (List.range N)[i]? = some i := by simp [hiN]
    rw [hr, Option.map_some, Array.getElem?_replicate, if_pos (by omega)]
    simp [args, List.getD, List.getElem?_eq_none (Nat.le_of_not_lt hi)]
   ·have hr : (List.range N)[i]? = none := by simp; omega
    rw [hr, Option.map_none, Array.getElem?_replicate, if_neg (by omega)]
 refine (callsIn_wide (n := 5)).1 (callsIn_of_wp_marks hf hb trivial ?_)
 rw [e]
 exact wpIn_wide.2 h.out
theorem fin_r {fn : Func} {R : Ending → World → Prop} (h : FIN P fn R n f W) : PQ (bodyPostR P fn R) .ret n f W := ⟨h⟩
theorem fin_D {fn : Func} {R : Ending → World → Prop} {N D : Nat} {d : List Nat} (H : Heap w0 F L W) (j : Nat) (hj : L[j]? = some (dfd D)) (h : ∀ W', Heap w0 F (L.eraseIdx j) W' → FIN P fn R ⟨N, d⟩ f W') : FIN P fn R ⟨N, D :: d⟩ f W := by
 have hK : W.heap[D]? = some (.deferred (some [])) := H.ok _ (List.mem_of_getElem? hj)
 have H1 := H.pick j hj
 have hnd := H1.nd
 rw [ids_cons] at hnd
 refine ⟨by simp, .inl ⟨D, W.putObj D (.deferred none), rfl, run_takeDeferred hK, h _ ?_⟩⟩
 have hD : D ∈ F ∨ w0.heap.size ≤ D := H1.own D (by rw [ids_cons]; simp [dfd])
 have hne : ∀ i, i ≠ D → (W.putObj D (.deferred none)).heap[i]? = W.heap[i]? := fun i hi => World.putObj_heap_other hi
 refine ⟨fun E hE => ?_, (List.nodup_append.1 hnd).2.1, fun i hi => H1.own i (by rw [ids_cons]; exact List.mem_append_right _ hi), ?_⟩
 ·refine E.loc W _ (fun i hi => hne i (fun e => ?_)) (H1.ok E (List.mem_cons_of_mem _ hE))
  subst e
  exact (List.nodup_append.1 hnd).2.2 i (by simp [dfd]) i (mem_ids.2 ⟨E, hE, hi⟩) rfl
 ·refine ⟨H.only.os, H.only.tape, H.only.output, by have := H.only.size; simpa [World.putObj] using this, fun k hk hf => ?_⟩
  rw [hne k (fun e => by rcases hD with h | h; exact hf (e ▸ h); omega)]
  exact H.only.block k hk hf
theorem fm1 {fn : Func} {R : Ending → World → Prop} {N : Nat} {r : ResultVar} (hr : fn.results = #[r]) (h : RV P W ⟨N, []⟩ f r v) (hR : R (.returned v) W) : FIN P fn R ⟨N, []⟩ f W := ⟨_, run_results1 hr h, hR⟩
/-! an iterator calls yield -/
structure SLY (P : Program) (ops : Array Oper) (Q : Exit → Act → World → Prop) (l : List Oper) (n : Sz) (f : Nat → Value) (W : World) : Prop where
 out : wpListIn Fence.wide 4 P ops Q l (Fn n f) W
theorem k_rgY {l : List Oper} (hno : rok (Code.region id l.toArray false) = false) (h : SLY P l.toArray Q l n f W) : CW P (Code.region id l.toArray false) Q n f W := .alone hno ((wpIn_wide (n := 4)).1 (wpIn_region_lit h.out))
theorem y_nil (h : PQ Q .normal n f W) : SLY P ops Q [] n f W := ⟨wpListIn_nil h.out⟩
theorem y_run {W' : World} (hd : o.dst = some k) (hw : Region.wanted o (yl n f ops) = true) (hr : (execOp (ev n f) o).run P W = .ok (.value v) W') (h : SLY P ops Q rest n (upd f k v) W') : SLY P ops Q (o :: rest) n f W := by
 have hy : yielded ops (Fn n f).tmps = yl n f ops := funext (yl_eq n f ops)
 constructor
 unfold wpListIn
 rw [hy, if_pos hw]
 refine ⟨fun _ _ => trivial, ?_⟩
 rw [Fence.wide_round, Oper.semAt_none, Fn_eval, hr, Oper.uponIn_value, hd, Fn_put]
 exact h.out
theorem y_yield {ty : TypeId} {pos : String} {af : Array Edge} {g : Option (Nat × Bool)} {c : Operand} {xs : Array Operand} {tys : Array TypeId} {vs : List Value} {l : Nat} {R : Ending → World → Prop} (hw : Region.wanted ⟨some k, .call ⟨.value c, xs, tys⟩, ty, pos, af, g⟩ (yl n f ops) = true)
  (hx : ev n f c = .func (.yield l) #[] #[]) (hv : xs.toList.map (ev n f) = vs) (hY : YieldAt Fence.wide 3 P l vs.toArray W R)
  (h : ∀ e W', R e W' → ∃ v, e = .returned v ∧ SLY P ops Q rest n (upd f k v) W') : SLY P ops Q (⟨some k, .call ⟨.value c, xs, tys⟩, ty, pos, af, g⟩ :: rest) n f W := by
 subst hv
 obtain ⟨fn, tmps, assign, body, hy0, hR⟩ := hY
 have h3 : xs.map (ev n f) = (xs.toList.map (ev n f)).toArray := by rw [← Array.toList_map]
 have hrun : (execOp (ev n f) ⟨some k, .call ⟨.value c, xs, tys⟩, ty, pos, af, g⟩).run P W = .ok (.round l fn tmps assign body) W := by
  simp only [execOp, resolve, hx, Deferred.ofValue, invoke, Sem.run_bind, Sem.run_pure, Result.andThen_ok, h3, Array.empty_append, Array.append_empty, hy0]
 have hy : yielded ops (Fn n f).tmps = yl n f ops := funext (yl_eq n f ops)
 constructor
 unfold wpListIn
 rw [hy, if_pos hw]
 refine ⟨fun _ _ => trivial, ?_⟩
 rw [Fence.wide_round, Oper.semAt_none, Fn_eval, hrun, Oper.uponIn_round]
 refine ⟨(fun hh => nomatch hh), hR.mono fun e W' hR' => ?_⟩
 obtain ⟨v, rfl, h2⟩ := h e W' hR'
 show wpListIn Fence.wide 4 P ops Q rest ((Fn n f).put (some k) v) W'
 rw [Fn_put]; exact h2.out
/-- a function value against nil -/
theorem r_fnil {x y : Operand} {dst : Option Tmp} {t t2 ty : TypeId} {pos : String} {af : Array Edge} {g : Option (Nat × Bool)} {fv : Go.Fn} {c1 c2 : Array Value} (hx : ev n f x = .func fv c1 c2) (hy : ev n f y = .nilFunc) {p1 p2 : Array TypeId} {vr : Bool} (ht : P.underlying t = some (.func p1 p2 vr)) : (execOp (ev n f) ⟨dst, .binOp .eql t x y t2, ty, pos, af, g⟩).run P W = .ok (.value (.bool false)) W := by
 have h : ∀ d : Nat, (Op.equalIn (d + 1) t (.func fv c1 c2) .nilFunc).run P W = .ok false W := fun d => by
  simp [Op.equalIn, run_underlying ht]
 have h2 : (binOp .eql t (.func fv c1 c2) .nilFunc).run P W = .ok (.bool false) W := by
  simp only [binOp]
  simp [Op.equal, Op.maxDepth, h 9999]
 have h3 : (eqGuard .eql t x y (.func fv c1 c2) .nilFunc).run P W = .ok () W := by simp [eqGuard]
 simp only [execOp, hx, hy, Sem.run_bind, h3, h2, Result.andThen_ok]; rfl
end
end Go.Proofs.Ytdgmlfpikgjnlaa
end

section
namespace Go.Proofs.Ytdgmlfpikgjnlaa
open Go.RowKit
theorem ag3 (W : World) : (isAgg 3).run Try.prog W = .ok false W := by kernel_rfl
theorem sz3 (W : World) : (Go.sizeOf 3).run Try.prog W = .ok 1 W := by kernel_rfl
theorem ag4 (W : World) : (isAgg 4).run Try.prog W = .ok false W := by kernel_rfl
theorem sz4 (W : World) : (Go.sizeOf 4).run Try.prog W = .ok 1 W := by kernel_rfl
theorem ag52 (W : World) : (isAgg 52).run Try.prog W = .ok true W := by kernel_rfl
theorem sz52 (W : World) : (Go.sizeOf 52).run Try.prog W = .ok 1 W := by kernel_rfl
theorem inf3 : Inf Try.prog 3 (.int .i64 0) 1 8 := inf_of (by kernel_rfl)
theorem inf4 : Inf Try.prog 4 (.bool false) 1 1 := inf_of (by kernel_rfl)
theorem bd52_0 (z0 : Int) (W : World) : (Instr.build 52 ([(0, .int .i64 z0)] : List (Nat × Value)).toArray).run Try.prog W = .ok (.agg ([(.int .i64 z0)] : List Value).toArray) W := by kernel_rfl
theorem bd88_0_1 (z0 : Int) (z1 : Int) (W : World) : (Instr.build 88 ([(0, .int .i64 z0), (1, .int .i64 z1)] : List (Nat × Value)).toArray).run Try.prog W = .ok (.agg ([(.int .i64 z0), (.int .i64 z1)] : List Value).toArray) W := by kernel_rfl
theorem mixed : Try.prog.follows .mixedOrders = true := by kernel_rfl
variable {n : Nat} {f : Nat → Value} {ty : TypeId} {pos : String} {af : Array Edge} {g : Option (Nat × Bool)} {xs : Array Operand} {tys : Array TypeId} {dst : Option Tmp} {vs : List Value}
theorem ca30 {n : Sz} {f : Nat → Value} {ty : TypeId} {pos : String} {af : Array Edge} {g : Option (Nat × Bool)} {xs : Array Operand} {tys : Array TypeId} {dst : Option Tmp} {vs : List Value} (hv : xs.toList.map (ev n f) = vs) (W : World) : (execOp (ev n f) ⟨dst, .call ⟨.value (.func 30), xs, tys⟩, ty, pos, af, g⟩).run Try.prog W = .ok (.enter 30 vs.toArray) W := r_call Try.func30 (by kernel_rfl) (by kernel_rfl) hv W
theorem ca31 {n : Sz} {f : Nat → Value} {ty : TypeId} {pos : String} {af : Array Edge} {g : Option (Nat × Bool)} {xs : Array Operand} {tys : Array TypeId} {dst : Option Tmp} {vs : List Value} (hv : xs.toList.map (ev n f) = vs) (W : World) : (execOp (ev n f) ⟨dst, .call ⟨.value (.func 31), xs, tys⟩, ty, pos, af, g⟩).run Try.prog W = .ok (.enter 31 vs.toArray) W := r_call Try.func31 (by kernel_rfl) (by kernel_rfl) hv W
theorem ca34 {n : Sz} {f : Nat → Value} {ty : TypeId} {pos : String} {af : Array Edge} {g : Option (Nat × Bool)} {xs : Array Operand} {tys : Array TypeId} {dst : Option Tmp} {vs : List Value} (hv : xs.toList.map (ev n f) = vs) (W : World) : (execOp (ev n f) ⟨dst, .call ⟨.value (.func 34), xs, tys⟩, ty, pos, af, g⟩).run Try.prog W = .ok (.enter 34 vs.toArray) W := r_call Try.func34 (by kernel_rfl) (by kernel_rfl) hv W
theorem ca35 {n : Sz} {f : Nat → Value} {ty : TypeId} {pos : String} {af : Array Edge} {g : Option (Nat × Bool)} {xs : Array Operand} {tys : Array TypeId} {dst : Option Tmp} {vs : List Value} (hv : xs.toList.map (ev n f) = vs) (W : World) : (execOp (ev n f) ⟨dst, .call ⟨.value (.func 35), xs, tys⟩, ty, pos, af, g⟩).run Try.prog W = .ok (.enter 35 vs.toArray) W := r_call Try.func35 (by kernel_rfl) (by kernel_rfl) hv W
theorem ca60 {n : Sz} {f : Nat → Value} {ty : TypeId} {pos : String} {af : Array Edge} {g : Option (Nat × Bool)} {xs : Array Operand} {tys : Array TypeId} {dst : Option Tmp} {vs : List Value} (hv : xs.toList.map (ev n f) = vs) (W : World) : (execOp (ev n f) ⟨dst, .call ⟨.value (.func 60), xs, tys⟩, ty, pos, af, g⟩).run Try.prog W = .ok (.enter 60 vs.toArray) W := r_call Try.func60 (by kernel_rfl) (by kernel_rfl) hv W
end Go.Proofs.Ytdgmlfpikgjnlaa
end

section
namespace Go.Proofs.Ytdgmlfpikgjnlaa
open Go.RowKit

end Go.Proofs.Ytdgmlfpikgjnlaa
end

section
namespace Go.Proofs.Ytdgmlfpikgjnlaa.Cl
open Go Go.RowKit
def szs : List Int := [2, 3, 4, 5, 6, 7, 8, 10, 12, 14, 16, 18, 20, 24, 28, 32, 36, 40, 46, 51, 56, 64, 73, 85, 92, 102, 113, 128, 146, 170, 204, 256]
def sz (j : Nat) : Int := szs.getD j 0
def SZ : Value := .agg (szs.map (Value.int .i64)).toArray
/-- words of a class -/
def words (k : Int) : Int := if 0 ≤ k ∧ k < 32 then sz k.toNat else 0
theorem words_out (k : Int) (h : k < 0 ∨ 32 ≤ k) : words k = 0 := by unfold words; rw [if_neg (by omega)]
theorem words_in (k : Int) (h : 0 ≤ k) (h2 : k < 32) : words k = sz k.toNat := by unfold words; rw [if_pos ⟨h, h2⟩]
theorem sz_bd : ∀ j < 32, 2 ≤ sz j ∧ sz j ≤ 256 := by decide
theorem words_bd (k : Int) : 0 ≤ words k ∧ words k ≤ 256 := by
 unfold words; split
 ·have := sz_bd k.toNat (by omega); omega
 ·omega
theorem words_pos (k : Int) (h : 0 ≤ k) (h2 : k < 32) : 2 ≤ words k := by rw [words_in k h h2]; exact (sz_bd k.toNat (by omega)).1
theorem SZ_at (k : Int) (h : 0 ≤ k) (h2 : k < 32) : (szs.map (Value.int .i64)).toArray[k.toNat]? = some (.int .i64 (words k)) := by
 rw [words_in k h h2]
 have hl : szs.length = 32 := rfl
 have : k.toNat < szs.length := by omega
 simp [sz, List.getElem?_eq_getElem this]
/-- the least class whose cells have so many words; -1: none -/
def Least (n k : Int) : Prop := 0 ≤ k ∧ k < 32 ∧ n ≤ words k ∧ ∀ j, 0 ≤ j → j < k → words j < n
theorem Least.lt {n k : Int} (h : Least n k) (j : Int) (h0 : 0 ≤ j) (h1 : j < k) : words j < n := h.2.2.2 j h0 h1
/-- cells of a class -/
def cells (k : Int) : Int := if 0 ≤ k ∧ k < 32 then 512 / words k else 0
theorem cells_out (k : Int) (h : k < 0 ∨ 32 ≤ k) : cells k = 0 := by unfold cells; rw [if_neg (by omega)]
theorem cells_in (k : Int) (h : 0 ≤ k) (h2 : k < 32) : cells k = 512 / words k := by unfold cells; rw [if_pos ⟨h, h2⟩]
theorem cells_bd (k : Int) : 0 ≤ cells k ∧ cells k ≤ 256 := by
 unfold cells; split
 ·rename_i h
  have := words_pos k h.1 h.2
  refine ⟨Int.ediv_nonneg (by omega) (by omega), ?_⟩
  have h3 : 512 / words k < 257 := (Int.ediv_lt_iff_lt_mul (show 0 < words k by omega)).2 (by omega)
  omega
 ·omega
theorem cells_mul (k : Int) (h : 0 ≤ k) (h2 : k < 32) : 0 ≤ cells k * words k ∧ cells k * words k ≤ 512 ∧ 512 - cells k * words k < words k := by
 have hp := words_pos k h h2
 rw [cells_in k h h2]
 have e := Int.mul_ediv_add_emod 512 (words k)
 have m := Int.emod_nonneg 512 (show words k ≠ 0 by omega)
 have m2 := Int.emod_lt_of_pos 512 (show 0 < words k by omega)
 rw [Int.mul_comm] at e
 have b := Int.mul_nonneg (Int.ediv_nonneg (show (0 : Int) ≤ 512 by omega) (show 0 ≤ words k by omega)) (show 0 ≤ words k by omega)
 omega
theorem cells_more (k n : Int) (h : 0 ≤ k) (h2 : k < 32) (hn : 0 ≤ n) : (n + 1) * words k ≤ 512 ↔ n < cells k := by
 have hp := words_pos k h h2
 rw [cells_in k h h2]
 constructor
 ·intro hh
  have := (Int.le_ediv_iff_mul_le (show 0 < words k by omega)).2 hh
  omega
 ·intro hh
  exact (Int.le_ediv_iff_mul_le (show 0 < words k by omega)).1 (by omega)
/-- an object's words -/
def size (p d : Int) : Int := if p < 0 ∨ p > 63 ∨ d < 0 ∨ d > 16384 then 0 else 1 + p + d
def rightB (k : Int) : Bool := decide (0 ≤ k ∧ k < 32)
theorem rightB_yes (k : Int) (h : 0 ≤ k) (h2 : k < 32) : rightB k = true := by unfold rightB; simp; omega
theorem rightB_no (k : Int) (h : k < 0 ∨ 32 ≤ k) : rightB k = false := by unfold rightB; simp; omega
def BelowAll (n j : Int) : Prop := ∀ i : Int, 0 ≤ i → i < j → words i < n
theorem BelowAll.zero (n : Int) : BelowAll n 0 := fun i a b => by omega
theorem BelowAll.succ {n j : Int} (h : BelowAll n j) (hj : words j < n) : BelowAll n (j + 1) := fun i a b => by
 by_cases hi : i < j
 ·exact h i a hi
 ·obtain rfl : i = j := by omega
  exact hj
theorem BelowAll.least {n j : Int} (h : BelowAll n j) (h0 : 0 ≤ j) (h1 : j < 32) (h2 : n ≤ words j) : Least n j := ⟨h0, h1, h2, h⟩
end Go.Proofs.Ytdgmlfpikgjnlaa.Cl
end

section
namespace Go.Proofs.Ytdgmlfpikgjnlaa
open Go.RowKit
set_option maxHeartbeats 400000
set_option maxRecDepth 100000
theorem SZ_one : ∀ v ∈ (Cl.szs.map (Value.int .i64)).toArray.toList, v.oneCell' = true := by
 intro v hv
 obtain ⟨z, _, rfl⟩ := List.mem_map.1 (by simpa using hv)
 rfl
theorem isSome32 : (Try.prog.info? 89).isSome = true := by kernel_rfl
theorem sizes_any (w : World) : Calls Try.prog 65 #[] w fun e w' => e = .returned Cl.SZ ∧ Below w.heap.size w w' := by
 obtain ⟨i32, info32⟩ := Option.isSome_iff_exists.1 isSome32
 go_enter Try.func65, Try.ntmps65
 go_wp2_with (refine wpList_store_row (P := Try.prog) rfl 89 (.tmp 0) (.tmp 1) rfl w.heap.size _ (Cl.szs.map (Value.int .i64)).toArray 89 rfl rfl (heap_alloc_new w _) rfl info32 (by kernel_rfl) SZ_one ?_)
 exact bodyPost_ret (v := Cl.SZ) (results_cell_row rfl _ _ w.heap.size 89 (Cl.szs.map (Value.int .i64)).toArray (0, 0) _ rfl (setRow_heap _ _ _ _ _ _ (heap_alloc_new w _)) Try.underlying89 rfl (by kernel_rfl)) rfl ⟨rfl, below_setRow ((Below.refl _ _).alloc (Nat.le_refl _) _) (Nat.le_refl _) _⟩
theorem right_any (k : Int) (w : World) (h1 : -9223372036854775808 ≤ k) (h2 : k ≤ 9223372036854775807) : Calls Try.prog 64 #[.int .i64 k] w fun e w' => e = .returned (.bool (Cl.rightB k)) ∧ w = w' := by
 by_cases c1 : k < 0
 ·have e := Lib.hid (Cl.rightB_no k (.inl c1))
  go_enter Try.func64, Try.ntmps64
  go_wp2
  go_ret
  exact ⟨ret_bool e.out.symm, rfl⟩
 ·by_cases c2 : k < 32
  ·have e := Lib.hid (Cl.rightB_yes k (by omega) c2)
   go_enter Try.func64, Try.ntmps64
   go_wp2
   go_ret
   exact ⟨ret_bool (by rw [e.out]), rfl⟩
  ·have e := Lib.hid (Cl.rightB_no k (.inr (by omega)))
   go_enter Try.func64, Try.ntmps64
   go_wp2
   go_ret
   exact ⟨ret_bool (by rw [e.out]), rfl⟩
theorem words_any (k : Int) (w : World) (h1 : -9223372036854775808 ≤ k) (h2 : k ≤ 9223372036854775807) : Calls Try.prog 34 #[.int .i64 k] w fun e w' => e = .returned (.int .i64 (Cl.words k)) ∧ Below w.heap.size w w' := by
 by_cases c : 0 ≤ k ∧ k < 32
 ·obtain ⟨c1, c2⟩ := c
  have hr := Cl.rightB_yes k c1 c2
  obtain ⟨i0, hi0, _, _, _⟩ := info_parts info_int
  have hx : ∀ W, (Instr.index 89 Cl.SZ (.int .i64 k)).run Try.prog W = .ok (.int .i64 (Cl.words k)) W := fun W =>
   run_index_ints W Try.underlying89 Try.underlying3 (by kernel_rfl) hi0 _ _ _ _ c1 c2 (Cl.SZ_at k c1 c2)
  clear hi0
  go_enter Try.func34, Try.ntmps34
  go_wp2_with (first
   | (go_at_call 65; refine (sizes_any _).mono ?_; rintro e w1 ⟨rfl, hb⟩)
   | (go_at_call 64; refine (right_any _ _ (by omega) (by omega)).mono ?_; rintro e w' ⟨rfl, rfl⟩))
  go_ret
  exact ⟨rfl, hb⟩
 ·have e := Lib.hid (Cl.words_out k (by omega))
  have hr := Cl.rightB_no k (by omega)
  go_enter Try.func34, Try.ntmps34
  go_wp2_with (first
   | (go_at_call 64; refine (right_any _ _ (by omega) (by omega)).mono ?_; rintro e w' ⟨rfl, rfl⟩))
  go_ret
  exact ⟨ret_int e.out.symm, Below.refl _ _⟩
theorem cells_any (k : Int) (w : World) (h1 : -9223372036854775808 ≤ k) (h2 : k ≤ 9223372036854775807) : Calls Try.prog 35 #[.int .i64 k] w fun e w' => e = .returned (.int .i64 (Cl.cells k)) ∧ Below w.heap.size w w' := by
 by_cases c : 0 ≤ k ∧ k < 32
 ·obtain ⟨c1, c2⟩ := c
  have hr := Cl.rightB_yes k c1 c2
  have hp := Cl.words_pos k c1 c2
  have hbd := Cl.words_bd k
  have e := Lib.hid (Cl.cells_in k c1 c2)
  go_enter Try.func35, Try.ntmps35
  go_wp2_with (first
   | (go_at_call 34; refine (words_any _ _ (by omega) (by omega)).mono ?_; rintro e w1 ⟨rfl, hb⟩)
   | (go_at_call 64; refine (right_any _ _ (by omega) (by omega)).mono ?_; rintro e w' ⟨rfl, rfl⟩))
  go_ret
  exact ⟨ret_int e.out.symm, hb⟩
 ·have e := Lib.hid (Cl.cells_out k (by omega))
  have hr := Cl.rightB_no k (by omega)
  go_enter Try.func35, Try.ntmps35
  go_wp2_with (first
   | (go_at_call 64; refine (right_any _ _ (by omega) (by omega)).mono ?_; rintro e w' ⟨rfl, rfl⟩))
  go_ret
  exact ⟨ret_int e.out.symm, Below.refl _ _⟩
end Go.Proofs.Ytdgmlfpikgjnlaa
end

section
namespace Go.Proofs.Ytdgmlfpikgjnlaa
open Go.RowKit
set_option maxHeartbeats 400000
set_option maxRecDepth 100000
end Go.Proofs.Ytdgmlfpikgjnlaa
end

section
namespace Go.Proofs.Ytdgmlfpikgjnlaa.Ce
open Go Go.RowKit
def first (n bl : Int) : Int := if 0 ≤ bl ∧ bl < n then bl * 512 else -1
theorem first_out (n bl : Int) (h : bl < 0 ∨ n ≤ bl) : first n bl = -1 := by unfold first; rw [if_neg (by omega)]
theorem first_in (n bl : Int) (h : 0 ≤ bl) (h2 : bl < n) : first n bl = bl * 512 := by unfold first; rw [if_pos ⟨h, h2⟩]
def address (n k b i : Int) : Int := if 0 ≤ k ∧ k < 32 ∧ 1 ≤ b ∧ b < n ∧ 0 ≤ i ∧ i < Cl.cells k then b * 512 + i * Cl.words k else -1
theorem address_in (n k b i : Int) (h1 : 0 ≤ k) (h2 : k < 32) (h3 : 1 ≤ b) (h4 : b < n) (h5 : 0 ≤ i) (h6 : i < Cl.cells k) : address n k b i = b * 512 + i * Cl.words k := by unfold address; rw [if_pos ⟨h1, h2, h3, h4, h5, h6⟩]
theorem address_out (n k b i : Int) (h : ¬ (0 ≤ k ∧ k < 32 ∧ 1 ≤ b ∧ b < n ∧ 0 ≤ i ∧ i < Cl.cells k)) : address n k b i = -1 := by unfold address; rw [if_neg h]
theorem addr_code (b x : Int) (h : 0 ≤ b) (h2 : b ≤ 1000000) (h3 : 0 ≤ x) (h4 : x ≤ 512) : IntKind.i64.wrap (b * 512 + IntKind.i64.wrap x) = b * 512 + x := by
 rw [IntKind.wrap_i64, IntKind.wrap_i64]; omega
theorem mul_bd (k i : Int) (h1 : 0 ≤ k) (h2 : k < 32) (h5 : 0 ≤ i) (h6 : i < Cl.cells k) : 0 ≤ i * Cl.words k ∧ i * Cl.words k + Cl.words k ≤ 512 := by
 have hp := Cl.words_pos k h1 h2
 have a := (Cl.cells_more k i h1 h2 h5).2 h6
 rw [Int.add_mul, Int.one_mul] at a
 exact ⟨Int.mul_nonneg h5 (by omega), a⟩
/-- the addresses of a block's cells -/
def all (n k b : Int) : List Int := if 1 ≤ b ∧ b < n then (List.range (Cl.cells k).toNat).map fun (i : Nat) => 512 * b + (i : Int) * Cl.words k else []
theorem all_out (n k b : Int) (h : ¬ (1 ≤ b ∧ b < n)) : all n k b = [] := by unfold all; rw [if_neg h]
def upto (k b : Int) (m : Nat) : List Int := (List.range m).map fun (i : Nat) => 512 * b + (i : Int) * Cl.words k
theorem all_in (n k b : Int) (h1 : 1 ≤ b) (h2 : b < n) : all n k b = upto k b (Cl.cells k).toNat := by unfold all upto; rw [if_pos ⟨h1, h2⟩]
theorem upto_succ (k b : Int) (m : Nat) : upto k b (m + 1) = upto k b m ++ [512 * b + (m : Int) * Cl.words k] := by simp [upto, List.range_succ]
theorem upto_len (k b : Int) (m : Nat) : (upto k b m).length = m := by simp [upto]
theorem upto_get (k b : Int) (m i : Nat) (h : i < m) : (upto k b m)[i]? = some (512 * b + (i : Int) * Cl.words k) := by simp [upto, h]
theorem all_get (n k b : Int) (i : Nat) (x : Int) (h : (all n k b)[i]? = some x) : 1 ≤ b ∧ b < n ∧ 0 ≤ k ∧ k < 32 ∧ (i : Int) < Cl.cells k ∧ x = 512 * b + (i : Int) * Cl.words k := by
 by_cases hb : 1 ≤ b ∧ b < n
 ·rw [all_in n k b hb.1 hb.2] at h
  have hl := (List.getElem?_eq_some_iff.1 h).1
  rw [upto_len] at hl
  rw [upto_get _ _ _ _ hl] at h
  have hc : (i : Int) < Cl.cells k := by omega
  have hk : 0 ≤ k ∧ k < 32 := by
   rcases Int.lt_or_le k 0 with g | g
   ·rw [Cl.cells_out k (.inl g)] at hc; omega
   ·rcases Int.lt_or_le k 32 with g2 | g2
    ·exact ⟨g, g2⟩
    ·rw [Cl.cells_out k (.inr g2)] at hc; omega
  exact ⟨hb.1, hb.2, hk.1, hk.2, hc, (Option.some.inj h).symm⟩
 ·rw [all_out n k b hb] at h; simp at h
end Go.Proofs.Ytdgmlfpikgjnlaa.Ce
end

section
namespace Go.Proofs.Ytdgmlfpikgjnlaa
open Go.RowKit
set_option maxHeartbeats 1000000
set_option maxRecDepth 100000
theorem gFirst_any (n bl : Int) (w : World) (h1 : -9223372036854775808 ≤ bl) (h3 : n ≤ 1000000) :
  Calls Try.prog 80 #[.agg #[.int .i64 n], .int .i64 bl] w fun e w' => e = .returned (.int .i64 (Ce.first n bl)) ∧ Below w.heap.size w w' := by
 by_cases c1 : bl < 0
 ·have e := Lib.hid (Ce.first_out n bl (.inl c1))
  go_enter Try.func80, Try.ntmps80
  go_wp2
  go_ret
  exact ⟨ret_int e.out.symm, by (repeat (first | exact Below.refl _ _ | (refine Below.alloc ?_ (by first | exact Nat.le_refl _ | (simp; done) | (simp; omega)) _)))⟩
 ·by_cases c2 : bl < n
  ·have e := Lib.hid (Ce.first_in n bl (by omega) c2)
   go_enter Try.func80, Try.ntmps80
   go_wp2
   go_ret
   exact ⟨ret_int e.out.symm, by (repeat (first | exact Below.refl _ _ | (refine Below.alloc ?_ (by first | exact Nat.le_refl _ | (simp; done) | (simp; omega)) _)))⟩
  ·have e := Lib.hid (Ce.first_out n bl (.inr (by omega)))
   go_enter Try.func80, Try.ntmps80
   go_wp2
   go_ret
   exact ⟨ret_int e.out.symm, by (repeat (first | exact Below.refl _ _ | (refine Below.alloc ?_ (by first | exact Nat.le_refl _ | (simp; done) | (simp; omega)) _)))⟩
theorem addrS_keep {w : World} {n b i : Int} {W w' : World} (hb : Below W.heap.size W w')
  (h : W.cell? ⟨w.heap.size, 0, none⟩ = some (.int .i64 n) ∧ W.cell? ⟨w.heap.size + 1, 0, none⟩ = some (.int .i64 b) ∧ W.cell? ⟨w.heap.size + 1, 1, none⟩ = some (.int .i64 i) ∧ w.heap.size + 1 < W.heap.size ∧ Below w.heap.size w W) :
  w'.cell? ⟨w.heap.size, 0, none⟩ = some (.int .i64 n) ∧ w'.cell? ⟨w.heap.size + 1, 0, none⟩ = some (.int .i64 b) ∧ w'.cell? ⟨w.heap.size + 1, 1, none⟩ = some (.int .i64 i) ∧ w.heap.size + 1 < w'.heap.size ∧ Below w.heap.size w w' := by
 obtain ⟨h1, h2, h3, h4, h5⟩ := h
 have hs := hb.size
 exact ⟨(hb.cell (p := ⟨w.heap.size, 0, none⟩) (by simp; omega)).trans h1, (hb.cell (p := ⟨w.heap.size + 1, 0, none⟩) (by simp; omega)).trans h2, (hb.cell (p := ⟨w.heap.size + 1, 1, none⟩) (by simp; omega)).trans h3, by omega, h5.trans (hb.mono (by omega))⟩
theorem addrS_drew {w : World} {n b i : Int} {W : World}
  (h : W.cell? ⟨w.heap.size, 0, none⟩ = some (.int .i64 n) ∧ W.cell? ⟨w.heap.size + 1, 0, none⟩ = some (.int .i64 b) ∧ W.cell? ⟨w.heap.size + 1, 1, none⟩ = some (.int .i64 i) ∧ w.heap.size + 1 < W.heap.size ∧ Below w.heap.size w W) :
  W.drew.cell? ⟨w.heap.size, 0, none⟩ = some (.int .i64 n) ∧ W.drew.cell? ⟨w.heap.size + 1, 0, none⟩ = some (.int .i64 b) ∧ W.drew.cell? ⟨w.heap.size + 1, 1, none⟩ = some (.int .i64 i) ∧ w.heap.size + 1 < W.drew.heap.size ∧ Below w.heap.size w W.drew :=
 ⟨h.1, h.2.1, h.2.2.1, h.2.2.2.1, h.2.2.2.2.drew⟩
theorem address_any (n k b i : Int) (w : World) (h0 : 0 ≤ n) (h3 : n ≤ 1000000) (k1 : -9223372036854775808 ≤ k) (k2 : k ≤ 9223372036854775807) (b1 : -9223372036854775808 ≤ b) (b2 : b ≤ 9223372036854775807) (i1 : -9223372036854775808 ≤ i) (i2 : i ≤ 9223372036854775807) :
  Calls Try.prog 60 #[.agg #[.int .i64 n], .int .i64 k, .agg #[.int .i64 b, .int .i64 i]] w fun e w' => e = .returned (.int .i64 (Ce.address n k b i)) ∧ Below w.heap.size w w' := by
 have hB : Below w.heap.size w ((w.alloc (.cells #[.int .i64 n] 52)).alloc (.cells #[.int .i64 b, .int .i64 i] 88)) := ((Below.refl _ _).alloc (Nat.le_refl _) _).alloc (by simp) _
 have hwb := Cl.words_bd k
 have hcb := Cl.cells_bd k
 rcases (show (0 ≤ k ∧ k < 32 ∧ 1 ≤ b ∧ b < n ∧ 0 ≤ i ∧ i < Cl.cells k) ∨ (k < 0 ∨ 32 ≤ k) ∨ (0 ≤ k ∧ k < 32 ∧ b < 1) ∨ (0 ≤ k ∧ k < 32 ∧ 1 ≤ b ∧ n ≤ b) ∨ (0 ≤ k ∧ k < 32 ∧ 1 ≤ b ∧ b < n ∧ i < 0) ∨ (0 ≤ k ∧ k < 32 ∧ 1 ≤ b ∧ b < n ∧ 0 ≤ i ∧ Cl.cells k ≤ i) from by omega) with
  ⟨c0, c1, c2, c3, c4, c5⟩ | c1 | ⟨c0, c1, c2⟩ | ⟨c0, c1, c2, c3⟩ | ⟨c0, c1, c2, c3, c4⟩ | ⟨c0, c1, c2, c3, c4, c5⟩
 ·have hr := Cl.rightB_yes k c0 c1
  have e := Lib.hid (Ce.address_in n k b i c0 c1 c2 c3 c4 c5)
  have ef := Ce.first_in n b (by omega) c3
  have hm := Ce.mul_bd k i c0 c1 c4 c5
  have d1 : decide (b < 1) = false := by simp; omega
  have d2 : decide (n ≤ b) = false := by simp; omega
  have d3 : decide (i < 0) = false := by simp; omega
  have d4 : decide (Cl.cells k ≤ i) = false := by simp; omega
  go_enter Try.func60, Try.ntmps60
  go_wp2_with fail
  go_region_held3 (fun w' => w'.cell? ⟨w.heap.size, 0, none⟩ = some (.int .i64 n) ∧ w'.cell? ⟨w.heap.size + 1, 0, none⟩ = some (.int .i64 b) ∧ w'.cell? ⟨w.heap.size + 1, 1, none⟩ = some (.int .i64 i) ∧ w.heap.size + 1 < w'.heap.size ∧ Below w.heap.size w w')
   (first | assumption | (refine ⟨?_, ?_, ?_, ?_, ?_⟩ <;> first | exact hB.drew | (simp; done)))
   (first
    | (go_at_call 64; refine (right_any _ _ (by omega) (by omega)).mono ?_; rintro e w' ⟨rfl, rfl⟩)
    | (go_at_call 35; refine (cells_any _ _ (by omega) (by omega)).mono ?_; rintro e w' ⟨rfl, hb'⟩; have hS' := addrS_keep hb' (by assumption)))
  go_wp2_with fail
  go_region_held3 (fun w' => w'.cell? ⟨w.heap.size, 0, none⟩ = some (.int .i64 n) ∧ w'.cell? ⟨w.heap.size + 1, 0, none⟩ = some (.int .i64 b) ∧ w'.cell? ⟨w.heap.size + 1, 1, none⟩ = some (.int .i64 i) ∧ w.heap.size + 1 < w'.heap.size ∧ Below w.heap.size w w')
   (first | assumption | exact addrS_drew (by assumption))
   (first
    | (go_at_call 80; refine (gFirst_any _ _ _ (by omega) (by omega)).mono ?_; rintro e w' ⟨rfl, hb'⟩; have hS' := addrS_keep hb' (by assumption))
    | (go_at_call 34; refine (words_any _ _ (by omega) (by omega)).mono ?_; rintro e w' ⟨rfl, hb'⟩; have hS' := addrS_keep hb' (by assumption)))
  go_wp2
  go_ret
  exact ⟨ret_int (by rw [e.out]; exact Ce.addr_code b _ (by omega) (by omega) (by omega) (by omega)), hS'.2.2.2.2⟩
 ·have e := Lib.hid (Ce.address_out n k b i (by omega))
  have hr := Cl.rightB_no k c1
  go_enter Try.func60, Try.ntmps60
  go_wp2_with fail
  go_quiet ((go_at_call 64; exact Calls.quiet_of_same (quiet_l (right_any _ _ (by omega) (by omega)))))
  go_wp2_with fail
  go_ret
  exact ⟨ret_int e.out.symm, below_drewN hB _⟩
 ·have e := Lib.hid (Ce.address_out n k b i (by omega))
  have hr := Cl.rightB_yes k c0 c1
  have d1 : decide (b < 1) = true := by simpa using c2
  go_enter Try.func60, Try.ntmps60
  go_wp2_with fail
  go_quiet ((go_at_call 64; exact Calls.quiet_of_same (quiet_l (right_any _ _ (by omega) (by omega)))))
  go_wp2_with fail
  go_ret
  exact ⟨ret_int e.out.symm, below_drewN hB _⟩
 ·have e := Lib.hid (Ce.address_out n k b i (by omega))
  have hr := Cl.rightB_yes k c0 c1
  have d1 : decide (b < 1) = false := by simp; omega
  have d2 : decide (n ≤ b) = true := by simpa using c3
  go_enter Try.func60, Try.ntmps60
  go_wp2_with fail
  go_quiet ((go_at_call 64; exact Calls.quiet_of_same (quiet_l (right_any _ _ (by omega) (by omega)))))
  go_wp2_with fail
  go_ret
  exact ⟨ret_int e.out.symm, below_drewN hB _⟩
 ·have e := Lib.hid (Ce.address_out n k b i (by omega))
  have hr := Cl.rightB_yes k c0 c1
  have d1 : decide (b < 1) = false := by simp; omega
  have d2 : decide (n ≤ b) = false := by simp; omega
  have d3 : decide (i < 0) = true := by simpa using c4
  go_enter Try.func60, Try.ntmps60
  go_wp2_with fail
  go_quiet ((go_at_call 64; exact Calls.quiet_of_same (quiet_l (right_any _ _ (by omega) (by omega)))))
  go_wp2_with fail
  go_ret
  exact ⟨ret_int e.out.symm, below_drewN hB _⟩
 ·have e := Lib.hid (Ce.address_out n k b i (by omega))
  have hr := Cl.rightB_yes k c0 c1
  have d1 : decide (b < 1) = false := by simp; omega
  have d2 : decide (n ≤ b) = false := by simp; omega
  have d3 : decide (i < 0) = false := by simp; omega
  have d4 : decide (Cl.cells k ≤ i) = true := by simpa using c5
  go_enter Try.func60, Try.ntmps60
  go_wp2_with fail
  go_region_held3 (fun w' => w'.cell? ⟨w.heap.size, 0, none⟩ = some (.int .i64 n) ∧ w'.cell? ⟨w.heap.size + 1, 0, none⟩ = some (.int .i64 b) ∧ w'.cell? ⟨w.heap.size + 1, 1, none⟩ = some (.int .i64 i) ∧ w.heap.size + 1 < w'.heap.size ∧ Below w.heap.size w w')
   (first | assumption | (refine ⟨?_, ?_, ?_, ?_, ?_⟩ <;> first | exact hB.drew | (simp; done)))
   (first
    | (go_at_call 64; refine (right_any _ _ (by omega) (by omega)).mono ?_; rintro e w' ⟨rfl, rfl⟩)
    | (go_at_call 35; refine (cells_any _ _ (by omega) (by omega)).mono ?_; rintro e w' ⟨rfl, hb'⟩; have hS' := addrS_keep hb' (by assumption)))
  go_wp2_with fail
  go_ret
  exact ⟨ret_int e.out.symm, by first | assumption | exact (by assumption : _ ∧ _ ∧ _ ∧ _ ∧ Below w.heap.size w _).2.2.2.2⟩
theorem awake9_any (w : World) : Calls Try.prog 30 #[] w fun e w' => e = .returned (.bool true) ∧ Below w.heap.size w w' := by
 have e1 : Ce.address 4 0 2 3 = 1030 := by decide
 go_enter Try.func30, Try.ntmps30
 go_wp2_with (first
  | (go_at_call 60; refine (address_any _ _ _ _ _ (by omega) (by omega) (by omega) (by omega) (by omega) (by omega) (by omega) (by omega)).mono ?_; rintro e w1 ⟨rfl, hb⟩))
 go_ret
 exact ⟨rfl, hb⟩
end Go.Proofs.Ytdgmlfpikgjnlaa
end

section
namespace Go.Proofs.Ytdgmlfpikgjnlaa
open Go.RowKit
set_option maxHeartbeats 400000
set_option maxRecDepth 100000
end Go.Proofs.Ytdgmlfpikgjnlaa
end

section
namespace Go.Proofs.Ytdgmlfpikgjnlaa.Xp
open Go Go.RowKit
def okC (l c k : Int) : Prop := 0 ≤ l ∧ l ≤ 65536 ∧ 1 ≤ c ∧ c ≤ 256 ∧ 0 ≤ k
instance (l c k : Int) : Decidable (okC l c k) := by unfold okC; infer_instance
/-- the number of digits, the lowest first -/
def nval (c : Int) : List Int → Int
 | [] => 0
 | d :: l => d + c * nval c l
def okD (c : Int) (l : List Int) : Prop := ∀ d ∈ l, 0 ≤ d ∧ d < c
/-- the number that the page says; -1: none -/
def cOk (c : Int) : Prop := 1 ≤ c ∧ c ≤ 256
instance (c : Int) : Decidable (cOk c) := by unfold cOk; infer_instance
instance (c : Int) (l : List Int) : Decidable (okD c l) := by unfold okD; infer_instance
def numOk (c : Int) (l : List Int) : Prop := cOk c ∧ okD c l ∧ nval c l ≤ 1099511627776
instance (c : Int) (l : List Int) : Decidable (numOk c l) := by unfold numOk; infer_instance
def number (c : Int) (l : List Int) : Int := if numOk c l then nval c l else -1
/-- what the code keeps: the number, and what is over -/
def over (w n : Int) (i : Nat) : Int := (i : Int) * w % n
/-- how many are told -/
def many (v m : Int) : Int := min (min v m) 4096
end Go.Proofs.Ytdgmlfpikgjnlaa.Xp
end

section
namespace Go.Proofs.Ytdgmlfpikgjnlaa
open Go.RowKit
set_option maxHeartbeats 400000
set_option maxRecDepth 100000
end Go.Proofs.Ytdgmlfpikgjnlaa
end

section
namespace Go.Proofs.Ytdgmlfpikgjnlaa
open Go.RowKit
set_option maxHeartbeats 400000
set_option maxRecDepth 100000
/-- the call returns a row of its own, these integers -/
def OwnInts (k : IntKind) (T : TypeId) (xs : List Int) (w : World) (e : Ending) (w' : World) : Prop :=
 ∃ v, e = .returned v ∧ w'.ownsRow w.heap.size T 1 v xs.length (xs.map (Value.int k)) ∧ Below w.heap.size w w'
theorem OwnInts.mk {k : IntKind} {T : TypeId} {xs : List Int} {w : World} {e : Ending} {w' : World} (v : Value) (he : e = .returned v) (n : Nat) (hn : xs.length = n) (ho : w'.ownsRow w.heap.size T 1 v n (xs.map (Value.int k))) (hb : Below w.heap.size w w') : OwnInts k T xs w e w' :=
 ⟨v, he, by rw [hn]; exact ho, hb⟩
theorem OwnInts.nil {k : IntKind} {T : TypeId} {xs : List Int} {w : World} {w' : World} (hx : xs = []) (hb : Below w.heap.size w w') : OwnInts k T xs w (.returned (.slice none 0 0)) w' := by
 subst hx; exact ⟨_, rfl, World.ownsRow_nil _ _ _ _, hb⟩
end Go.Proofs.Ytdgmlfpikgjnlaa
end

section
namespace Go.Proofs.Ytdgmlfpikgjnlaa
open Go.RowKit
end Go.Proofs.Ytdgmlfpikgjnlaa
end

section
namespace Go.Proofs.Ytdgmlfpikgjnlaa
open Go.RowKit
set_option maxHeartbeats 2000000
set_option maxRecDepth 100000
end Go.Proofs.Ytdgmlfpikgjnlaa
end

section
namespace Go.Proofs.Ytdgmlfpikgjnlaa
open Go.RowKit
set_option maxRecDepth 100000
set_option maxHeartbeats 1000000
def cellsE (n k b : Int) (p3 p4 p5 : Nat) : List Ent := [blk p5 [.int .i64 b] 3, blk p4 [.int .i64 k] 3, blk p3 [.int .i64 n] 52]
theorem cellsAll_any (n k b : Int) (w : World) : Calls Try.prog 31 [.agg [.int .i64 n].toArray, .int .i64 k, .int .i64 b].toArray w fun e w' => ∃ p3 p4 p5, e = .returned (.func (.func 61) #[] [.pointer (some ⟨p4, 0, none⟩), .pointer (some ⟨p3, 0, none⟩), .pointer (some ⟨p5, 0, none⟩)].toArray) ∧ Heap w [] (cellsE n k b p3 p4 p5) w' := by
 have H := Heap.nil w
 refine k_in (N := 8) Try.func31 rfl rfl rfl ?_
 refine k_sg ?_
 refine s_box H rfl rfl ?_
 intro p3 _ H'; clear H; have H := H'; clear H'
 refine s_box1 H rfl rfl rfl ?_
 intro p4 _ H'; clear H; have H := H'; clear H'
 refine s_box1 H rfl rfl rfl ?_
 intro p5 _ H'; clear H; have H := H'; clear H'
 refine s_run rfl rfl (r_as (v := .nilFunc) rfl) ?_
 refine k_nc ?_
 refine k_sg ?_
 refine s_run rfl rfl (r_mkf rfl) ?_
 refine s_run rfl rfl (r_as (v := .func _ _ _) rfl) ?_
 refine k_nc ?_
 refine k_ret ?_
 refine fin1r (v := .func _ _ _) rfl rfl ?_
 exact ⟨_, _, _, rfl, H⟩
theorem upto_pre (k b : Int) (j m : Nat) (h : j ≤ m) : Ce.upto k b j <+: Ce.upto k b m := by
 obtain ⟨d, rfl⟩ := Nat.exists_eq_add_of_le h
 induction d with
 | zero => exact List.prefix_refl _
 | succ d ih => exact (ih (by omega)).trans (by rw [← Nat.add_assoc, Ce.upto_succ]; exact List.prefix_append _ _)
theorem cellsAll_seq (n k b : Int) (p3 p4 p5 : Nat) (W : World) (h1 : 0 ≤ n) (h3 : n ≤ 1000000) (k1 : -9223372036854775808 ≤ k) (k2 : k ≤ 9223372036854775807) (b1 : -9223372036854775808 ≤ b) (b2 : b ≤ 9223372036854775807) (hE : Ents (cellsE n k b p3 p4 p5) W) :
  SeqStopsK Fence.wide 4 Try.prog 61 [.pointer (some ⟨p4, 0, none⟩), .pointer (some ⟨p3, 0, none⟩), .pointer (some ⟨p5, 0, none⟩)].toArray (fun x : Int => #[.int .i64 x]) (Kp (ids (cellsE n k b p3 p4 p5))) (fun xs => xs = Ce.all n k b) (fun pre => pre <+: Ce.all n k b) (Ce.all n k b).length W := by
 intro l J Jx W1 hB hJ hJx hY hJ0
 refine (callsIn_wide (n := 4)).2 ?_
 have hE1 : Ents (cellsE n k b p3 p4 p5) W1 := ((Heap.start hE).same (Only.of_below hB [])).ents
 clear hE hB
 have hcb := Cl.cells_bd k
 obtain ⟨m, hm⟩ := Int.eq_ofNat_of_zero_le hcb.1
 have H := Heap.start hE1
 clear hE1
 rw [seq_args]
 unfold cellsE at H
 refine k_in (N := 27) Try.func61 rfl rfl rfl ?_
 refine k_sg ?_
 refine s_run rfl rfl (r_lo H 1 rfl rfl rfl ag3) ?_
 refine s_call rfl (cells_any k _ k1 k2) (ca35 rfl) ?_
 rintro e W1 ⟨rfl, HB⟩
 refine ⟨_, rfl, ?_⟩
 have HO := Only.of_below HB []; have H := H.same HO; replace hJ0 := abide hJ hJ0 HO; clear HB HO
 refine s_run rfl rfl (rmi rfl) ?_
 refine k_nc ?_
 refine k_b ?_
 have hH := H.ents
 clear H
 rw [hm]
 refine k_loop (fun z f W => ∃ j : Nat, j ≤ m ∧ (∀ i : Nat, i < j → 1 ≤ b ∧ b < n) ∧ z = m - j ∧ f 0 = .func (.yield l) #[] #[] ∧ f 1 = .pointer (some ⟨p4, 0, none⟩) ∧ f 2 = .pointer (some ⟨p3, 0, none⟩) ∧ f 3 = .pointer (some ⟨p5, 0, none⟩) ∧ f 8 = .int .i64 m ∧ f 9 = .int .i64 j ∧ J (Ce.upto k b j) W ∧ Ents (cellsE n k b p3 p4 p5) W) m ⟨0, by omega, by omega, rfl, rfl, rfl, rfl, rfl, rfl, rfl, hJ0, hH⟩ ?_
 clear hJ0 hH
 rintro z f W ⟨j, hj, hin, rfl, f0, f1, f2, f3, f8, f9, hJ0, hE⟩
 obtain ⟨f, rfl⟩ := live6 f0 f1 f2 f3 f8 f9
 clear f0 f1 f2 f3 f8 f9
 by_cases hlt : j < m
 ·have hk : 0 ≤ k ∧ k < 32 := by
   rcases (show k < 0 ∨ 32 ≤ k ∨ (0 ≤ k ∧ k < 32) from by omega) with g | g | g
   ·rw [Cl.cells_out k (.inl g)] at hm; omega
   ·rw [Cl.cells_out k (.inr g)] at hm; omega
   ·exact g
  have hmul := Ce.mul_bd k j hk.1 hk.2 (by omega) (by omega)
  have hwb := Cl.words_bd k
  have hA := fun W => address_any n k b j W h1 h3 k1 k2 b1 b2 (by omega) (by omega)
  have H := Heap.start hE
  unfold cellsE at H
  by_cases hb : 1 ≤ b ∧ b < n
  ·have e1 := Ce.address_in n k b j hk.1 hk.2 hb.1 hb.2 (by omega) (by omega)
   have e0 : Ce.all n k b = Ce.upto k b m := by rw [Ce.all_in n k b hb.1 hb.2, hm]; rfl
   have e2 : Ce.address n k b j = 512 * b + (j : Int) * Cl.words k := by omega
   have hge : 0 ≤ Ce.address n k b j := by omega
   have hsu : Ce.upto k b (j + 1) = Ce.upto k b j ++ [Ce.address n k b j] := by rw [Ce.upto_succ, e2]
   generalize Ce.address n k b j = ad at *
   refine k_sg ?_
   refine s_run rfl rfl (r_lssT rfl rfl (by omega)) ?_
   refine k_nc ?_
   refine k_seq ?_
   refine k_t rfl ?_
   refine k_skip ?_
   refine c_norm ?_
   refine k_seq ?_
   refine k_b ?_
   refine k_sg ?_
   refine s_run rfl rfl (rmi rfl) ?_
   refine s_run rfl rfl (rai rfl) ?_
   refine k_nc ?_
   refine k_sg ?_
   refine s_run rfl rfl (r_la H 2 rfl rfl rfl ag52 sz52) ?_
   refine s_run rfl rfl (r_lo H 1 rfl rfl rfl ag3) ?_
   refine s_run rfl rfl (r_lo H 0 rfl rfl rfl ag3) ?_
   refine s_run rfl rfl (rmi rfl) ?_
   refine s_run rfl rfl (r_bd (bd88_0_1 _ _) rfl) ?_
   refine s_call rfl (hA _) (ca60 rfl) ?_
   rintro e W1 ⟨rfl, HB⟩
   refine ⟨_, rfl, ?_⟩
   have HO := Only.of_below HB []; have H := H.same HO; replace hJ0 := abide hJ hJ0 HO; clear HB HO
   refine s_run rfl rfl (rai rfl) ?_
   refine k_nc ?_
   refine k_seq ?_
   refine k_rgY (by kernel_rfl) ?_
   refine y_run rfl rfl (rmi rfl) ?_
   refine y_run rfl rfl (r_lssF rfl rfl (by omega)) ?_
   refine y_run rfl rfl (rmb rfl) ?_
   refine y_run rfl (g_on 20 (by kernel_rfl) rfl) (r_mv (v := .func _ _ _) rfl) ?_
   refine y_run rfl (g_on 20 (by kernel_rfl) rfl) (rmi rfl) ?_
   refine y_yield (g_on 20 (by kernel_rfl) rfl) rfl rfl (hY _ ad _ hJ0 (by rw [e0, Ce.upto_len, Ce.upto_len]; omega)) ?_
   rintro e W2 (⟨rfl, hJ1, hk1⟩ | ⟨rfl, hJ1⟩)
   ·refine ⟨_, rfl, ?_⟩
    have hE2 := hk1.ents H.ents
    have H := Heap.start hE2
    refine y_run rfl (g_on 20 (by kernel_rfl) rfl) (r_notT rfl) ?_
    refine y_run rfl rfl (r_pkF (v := .bool _) rfl rfl) ?_
    refine y_nil ?_
    refine c_norm ?_
    refine k_f rfl ?_
    refine k_skip ?_
    refine b_norm ?_
    refine c_norm ?_
    refine k_rg ?_
    refine s_run rfl rfl (r_add rfl rfl (wI (by omega))) ?_
    refine s_run rfl rfl (rmi rfl) ?_
    refine k_nil ?_
    refine c_round ?_
    refine ⟨_, _, ?_, rfl, j + 1, by omega, fun _ _ => hb, rfl, rfl, rfl, rfl, rfl, rfl, by simp [upd], by rw [hsu]; exact hJ1, hE2⟩
    omega
   ·refine ⟨_, rfl, ?_⟩
    refine y_run rfl (g_on 20 (by kernel_rfl) rfl) (r_notF rfl) ?_
    refine y_run rfl rfl (r_pkF (v := .bool _) rfl rfl) ?_
    refine y_nil ?_
    refine c_norm ?_
    refine k_t rfl ?_
    refine k_ret ?_
    refine b_ret ?_
    refine c_ret ?_
    refine c_ret ?_
    refine b_ret ?_
    refine fin0r  rfl ?_
    exact ⟨⟨_, rfl⟩, .inr ⟨_, by rw [e0, ← hsu]; exact upto_pre k b _ _ (by omega), hJ1⟩⟩
  ·have e1 := Ce.address_out n k b j (by omega)
   obtain rfl : j = 0 := by
    rcases Nat.eq_zero_or_pos j with h | h
    ·exact h
    ·exact absurd (hin 0 h) hb
   rw [e1] at hA
   refine k_sg ?_
   refine s_run rfl rfl (r_lssT rfl rfl (by omega)) ?_
   refine k_nc ?_
   refine k_seq ?_
   refine k_t rfl ?_
   refine k_skip ?_
   refine c_norm ?_
   refine k_seq ?_
   refine k_b ?_
   refine k_sg ?_
   refine s_run rfl rfl (rmi rfl) ?_
   refine s_run rfl rfl (rai rfl) ?_
   refine k_nc ?_
   refine k_sg ?_
   refine s_run rfl rfl (r_la H 2 rfl rfl rfl ag52 sz52) ?_
   refine s_run rfl rfl (r_lo H 1 rfl rfl rfl ag3) ?_
   refine s_run rfl rfl (r_lo H 0 rfl rfl rfl ag3) ?_
   refine s_run rfl rfl (rmi rfl) ?_
   refine s_run rfl rfl (r_bd (bd88_0_1 _ _) rfl) ?_
   refine s_call rfl (hA _) (ca60 rfl) ?_
   rintro e W1 ⟨rfl, HB⟩
   refine ⟨_, rfl, ?_⟩
   have HO := Only.of_below HB []; have H := H.same HO; replace hJ0 := abide hJ hJ0 HO; clear HB HO
   refine s_run rfl rfl (rai rfl) ?_
   refine k_nc ?_
   refine k_sg ?_
   refine s_run rfl rfl (rmi rfl) ?_
   refine s_run rfl rfl (r_lssT rfl rfl (by omega)) ?_
   refine s_run rfl rfl (rmb rfl) ?_
   refine s_off rfl (g_off 20 (by kernel_rfl) rfl rfl) ?_
   refine s_off rfl (g_off 20 (by kernel_rfl) rfl rfl) ?_
   refine s_off rfl (g_off 20 (by kernel_rfl) rfl rfl) ?_
   refine s_off rfl (g_off 20 (by kernel_rfl) rfl rfl) ?_
   refine s_run rfl rfl (r_pkT (v := .bool _) rfl rfl) ?_
   refine k_nc ?_
   refine k_t rfl ?_
   refine k_ret ?_
   refine b_ret ?_
   refine c_ret ?_
   refine c_ret ?_
   refine b_ret ?_
   refine fin0r  rfl ?_
   exact ⟨⟨_, rfl⟩, .inl ⟨_, (Ce.all_out n k b hb).symm, hJ0⟩⟩
 ·obtain rfl : j = m := by omega
  refine k_sg ?_
  refine s_run rfl rfl (r_lssF rfl rfl (by omega)) ?_
  refine k_nc ?_
  refine k_seq ?_
  refine k_f rfl ?_
  refine k_exit ?_
  refine c_exit ?_
  refine c_exit ?_
  refine b_hit ?_
  refine fin0  rfl ?_
  refine ⟨⟨_, rfl⟩, .inl ⟨_, ?_, hJ0⟩⟩
  by_cases hb : 1 ≤ b ∧ b < n
  ·rw [Ce.all_in n k b hb.1 hb.2, hm]; rfl
  ·rw [Ce.all_out n k b hb]
   rcases Nat.eq_zero_or_pos j with h | h
   ·subst h; rfl
   ·exact absurd (hin 0 h) hb
end Go.Proofs.Ytdgmlfpikgjnlaa
end

section
namespace Go.Proofs.Ytdgmlfpikgjnlaa
open Go.RowKit
set_option maxRecDepth 100000
theorem Sees.take {α : Type} {enc : α → Value} {w : World} {F : List Nat} {A : Option Addr} {xs : List α} (h : Sees enc w F A xs) (k : Nat) : Sees enc w F A (xs.take k) := by
 intro h0
 simp at h0
 obtain ⟨b, o, e, hb, hr⟩ := h (by intro h2; exact h0.2 (List.eq_nil_of_length_eq_zero h2))
 refine ⟨b, o, e, hb, fun i z hz => hr i z ?_⟩
 rw [List.getElem?_take] at hz
 split at hz
 ·exact hz
 ·cases hz
theorem cellsE_cel (n k b : Int) (p3 p4 p5 : Nat) : ∀ E ∈ cellsE n k b p3 p4 p5, Cel E := cl_cons (cl_blk _ _ _) (cl_cons (cl_blk _ _ _) (cl_cons (cl_blk _ _ _) cl_nil))
end Go.Proofs.Ytdgmlfpikgjnlaa
end

section
namespace Go.Proofs.Ytdgmlfpikgjnlaa
open Go.RowKit
set_option maxRecDepth 100000
def cbL (k : Int) (p4 p5 p8 p9 : Nat) (many last : Int) : List Ent := [blk p9 [.int .i64 many] 3, blk p8 [.int .i64 last] 3, blk p5 [.int .i64 k] 3, blk p4 [.bool false] 4]
theorem cbL_cel (k : Int) (p4 p5 p8 p9 : Nat) (many last : Int) : ∀ E ∈ cbL k p4 p5 p8 p9 many last, Cel E := cl_cons (cl_blk _ _ _) (cl_cons (cl_blk _ _ _) (cl_cons (cl_blk _ _ _) (cl_cons (cl_blk _ _ _) cl_nil)))
theorem pre_last {xs pre : List Int} {x : Int} (h : pre ++ [x] <+: xs) : pre <+: xs ∧ xs[pre.length]? = some x := by
 obtain ⟨t, rfl⟩ := h
 refine ⟨⟨[x] ++ t, by simp⟩, by simp⟩
theorem walk_CellsApart (a0 a1 : Int) (w : World) (w0 : (Lit.int .u8 a0).wf = true) (w1 : (Lit.int .u8 a1).wf = true) :
  Calls Try.prog 9 [.int .u8 a0, .int .u8 a1].toArray w fun e w' => e = .returned (.bool true) ∧ Below w.heap.size w w' := by
 have g0 : 0 ≤ a0 ∧ a0 ≤ 255 := bounds_u8 w0
 have g1 : 0 ≤ a1 ∧ a1 ≤ 255 := bounds_u8 w1
 obtain ⟨k, hk⟩ : ∃ k, a0 % 32 = k := ⟨_, rfl⟩
 obtain ⟨b, hb⟩ : ∃ b, 1 + a1 % 255 = b := ⟨_, rfl⟩
 have k0 : 0 ≤ k ∧ k < 32 := by omega
 have b0 : 1 ≤ b ∧ b < 256 := by omega
 have hall := Ce.all_in 256 k b b0.1 b0.2
 have hcb := Cl.cells_bd k
 have hwb := Cl.words_bd k
 have hmul := Cl.cells_mul k k0.1 k0.2
 have H := Heap.nil w
 refine k_inM (N := 50) Try.func9 rfl rfl rfl ?_
 refine k_sg ?_
 refine s_al1 H rfl inf4 rfl ?_
 intro p4 _ H'; clear H; have H := H'; clear H'
 refine k_nc ?_
 refine k_seq ?_
 refine k_sg ?_
 refine s_call rfl (awake9_any _) (ca30 rfl) ?_
 rintro e W1 ⟨rfl, H'⟩
 refine ⟨_, rfl, ?_⟩
 have H := H.same (Only.of_below H' []); clear H'
 refine s_run rfl rfl (r_notT rfl) ?_
 refine k_nc ?_
 refine k_f rfl ?_
 refine k_skip ?_
 refine c_norm ?_
 refine k_sg ?_
 refine s_run rfl rfl (rmi rfl) ?_
 refine s_run rfl rfl (r_rem rfl rfl (by omega)) ?_
 refine s_run rfl rfl (r_cv (c := k) rfl (by kernel_rfl) Try.underlying3 (by rw [hk]; exact wI (by omega))) ?_
 refine s_run rfl rfl (rmi rfl) ?_
 refine s_run rfl rfl (r_cv rfl (by kernel_rfl) Try.underlying3 (wI (by omega))) ?_
 refine s_run rfl rfl (r_rem rfl rfl (by omega)) ?_
 refine s_run rfl rfl (r_add (c := b) rfl rfl (by rw [hb]; exact wI (by omega))) ?_
 refine s_al1 H rfl inf3 rfl ?_
 intro p5 _ H'; clear H; have H := H'; clear H'
 refine s_st (u := .int _ _) H 0 rfl rfl rfl rfl rfl rfl sz3 ?_
 clear H; intro _ H; simp only [jA, jB, jC, jD, jE, jF, jG, jH, jI, jJ, jK, Nat.reduceAdd] at H
 refine s_run rfl rfl (rai rfl) ?_
 refine k_nc ?_
 refine k_sg ?_
 refine s_run rfl rfl (r_bd (bd52_0 _) rfl) ?_
 refine s_run rfl rfl (r_lo H 0 rfl rfl rfl ag3) ?_
 refine s_run rfl rfl (rmi rfl) ?_
 refine s_call rfl (cellsAll_any 256 k b _) (ca31 rfl) ?_
 rintro e W1 ⟨q3, q4, q5, rfl, H'⟩
 refine ⟨_, rfl, ?_⟩
 have H := H.more H'; clear H'
 refine s_run rfl rfl (r_as (v := .func _ _ _) rfl) ?_
 refine k_nc ?_
 refine k_seq ?_
 refine k_sg ?_
 refine s_run rfl rfl (r_mv (v := .func _ _ _) rfl) ?_
 refine s_run rfl rfl (r_fnil rfl rfl Try.underlying48) ?_
 refine k_nc ?_
 refine k_f rfl ?_
 refine k_skip ?_
 refine c_norm ?_
 refine k_sg ?_
 refine s_run rfl rfl (rmi rfl) ?_
 refine s_run rfl rfl (r_mul rfl rfl (wI (by omega))) ?_
 refine s_al1 H rfl inf3 rfl ?_
 intro p8 _ H'; clear H; have H := H'; clear H'
 refine s_al1 H rfl inf3 rfl ?_
 intro p9 _ H'; clear H; have H := H'; clear H'
 refine s_st (u := .int _ _) H 1 rfl rfl rfl rfl rfl rfl sz3 ?_
 clear H; intro _ H; simp only [jA, jB, jC, jD, jE, jF, jG, jH, jI, jJ, jK, Nat.reduceAdd] at H
 refine s_st (u := .int _ _) H 0 rfl rfl rfl rfl rfl rfl sz3 ?_
 clear H; intro _ H; simp only [jA, jB, jC, jD, jE, jF, jG, jH, jI, jJ, jK, Nat.reduceAdd] at H
 refine k_nc ?_
 refine k_seq ?_
 refine k_sg ?_
 refine s_run rfl rfl (r_mv (v := .func _ _ _) rfl) ?_
 refine k_nc ?_
 refine k_b ?_
 replace H : Heap w [] (cbL k p4 p5 p8 p9 0 (512 * b) ++ cellsE 256 k b q3 q4 q5) _ := H.order [0, 1, 5, 6, 2, 3, 4] rfl rfl
 have HK : Ents (cellsE 256 k b q3 q4 q5) _ := (H.order [4, 5, 6, 0, 1, 2, 3] rfl rfl : Heap w [] (cellsE 256 k b q3 q4 q5 ++ _) _).part
 refine k_rf (N := (Ce.all 256 k b).length) (cbL k p4 p5 p8 p9 0 (512 * b)) (cellsE 256 k b q3 q4 q5) H (cellsE_cel _ _ _ _ _ _) rfl Try.func61 (by kernel_rfl) (by kernel_rfl)
  (cellsAll_seq 256 k b q3 q4 q5 _ (by omega) (by omega) (by omega) (by omega) (by omega) (by omega) HK) (fun _ => rfl) (by kernel_rfl)
  (fun pre L => ∃ many last, L = cbL k p4 p5 p8 p9 many last ∧ (pre <+: Ce.all 256 k b → many = pre.length ∧ last = 512 * b + pre.length * Cl.words k))
  (fun q pre L => q = .ret ∧ ¬ pre <+: Ce.all 256 k b ∧ ∃ many last, L = cbL k p4 p5 p8 p9 many last)
  (by rintro pre L ⟨_, _, rfl, _⟩; exact cbL_cel _ _ _ _ _ _ _) (by rintro q pre L ⟨_, _, _, _, rfl⟩; exact cbL_cel _ _ _ _ _ _ _) ⟨_, _, rfl, fun _ => ⟨rfl, by simp⟩⟩ (fun x => [(29, .int .i64 x)]) (fun x => [(10, .int .i64 x)]) (fun _ => by simp) ?assign ?body ?done ?stop
 case assign =>
  intro x W
  refine k_rg ?_
  refine s_run rfl rfl (rai rfl) ?_
  refine k_nil ?_
  exact asg_end rfl
 case body =>
  rintro pre x L W ⟨many, last, rfl, hp⟩ hlen HO H
  clear HO
  have hgood : pre ++ [x] <+: Ce.all 256 k b → (many = pre.length ∧ last = 512 * b + pre.length * Cl.words k) ∧ x = 512 * b + pre.length * Cl.words k ∧ (pre.length : Int) < 256 := by
   intro h
   obtain ⟨h1, h2⟩ := pre_last h
   obtain ⟨_, _, _, _, h3, h4⟩ := Ce.all_get 256 k b _ _ h2
   exact ⟨hp h1, h4, by omega⟩
  unfold cbL at H
  by_cases hlt : x < last
  ·refine k_b ?_
   refine k_seq ?_
   refine k_sg ?_
   refine s_run rfl rfl (rmi rfl) ?_
   refine s_run rfl rfl (r_lo H 1 rfl rfl rfl ag3) ?_
   refine s_run rfl rfl (r_lssT rfl rfl (by omega)) ?_
   refine k_nc ?_
   refine k_t rfl ?_
   refine k_sg ?_
   refine s_st (u := .bool _) H 3 rfl rfl rfl rfl rfl rfl sz4 ?_
   clear H; intro _ H; simp only [jA, jB, jC, jD, jE, jF, jG, jH, jI, jJ, jK, Nat.reduceAdd] at H
   refine k_nc ?_
   refine k_ret ?_
   refine c_ret ?_
   refine b_ret ?_
   refine rq_ret ?_
   refine ⟨_, ⟨rfl, fun h => ?_, _, _, rfl⟩, H⟩
   obtain ⟨⟨h1, h2⟩, h3, _⟩ := hgood h
   omega
  ·refine k_b ?_
   refine k_seq ?_
   refine k_sg ?_
   refine s_run rfl rfl (rmi rfl) ?_
   refine s_run rfl rfl (r_lo H 1 rfl rfl rfl ag3) ?_
   refine s_run rfl rfl (r_lssF rfl rfl (by omega)) ?_
   refine k_nc ?_
   refine k_f rfl ?_
   refine k_skip ?_
   refine c_norm ?_
   refine k_sg ?_
   refine s_run rfl rfl (rmi rfl) ?_
   refine s_run rfl rfl (r_lo H 2 rfl rfl rfl ag3) ?_
   refine s_call rfl (words_any k _ (by omega) (by omega)) (ca34 rfl) ?_
   rintro e W1 ⟨rfl, H'⟩
   refine ⟨_, rfl, ?_⟩
   have H := H.same (Only.of_below H' []); clear H'
   refine s_run rfl rfl (r_add rfl rfl rfl) ?_
   refine s_st (u := .int _ _) H 1 rfl rfl rfl rfl rfl rfl sz3 ?_
   clear H; intro _ H; simp only [jA, jB, jC, jD, jE, jF, jG, jH, jI, jJ, jK, Nat.reduceAdd] at H
   refine k_nc ?_
   refine k_rg ?_
   refine s_run rfl rfl (r_lo H 0 rfl rfl rfl ag3) ?_
   refine s_run rfl rfl (r_add rfl rfl rfl) ?_
   refine s_st (u := .int _ _) H 0 rfl rfl rfl rfl rfl rfl sz3 ?_
   clear H; intro _ H; simp only [jA, jB, jC, jD, jE, jF, jG, jH, jI, jJ, jK, Nat.reduceAdd] at H
   refine k_nil ?_
   refine b_norm ?_
   refine rq_go ?_
   refine ⟨_, ⟨_, _, rfl, fun h => ?_⟩, H⟩
   obtain ⟨⟨h1, h2⟩, h3, h4⟩ := hgood h
   have h5 : 0 ≤ (pre.length : Int) * Cl.words k ∧ (pre.length : Int) * Cl.words k ≤ 512 := by
    have := Ce.mul_bd k pre.length k0.1 k0.2 (by omega) (by
     obtain ⟨_, h6⟩ := pre_last h
     exact (Ce.all_get 256 k b _ _ h6).2.2.2.2.1)
    omega
   rw [h1, h3, List.length_append, List.length_singleton, wI (by omega), wI (by omega)]
   refine ⟨by simp, ?_⟩
   have : ((pre.length + 1 : Nat) : Int) * Cl.words k = pre.length * Cl.words k + Cl.words k := by rw [Int.natCast_add, Int.add_mul]; simp
   omega
 case done =>
  rintro D xs L W rfl ⟨many, last, rfl, hp⟩ H
  obtain ⟨h1, h2⟩ := hp (List.prefix_refl _)
  have hl : ((Ce.all 256 k b).length : Int) = Cl.cells k := by rw [hall, Ce.upto_len]; omega
  have h3 : last = 512 * b + Cl.cells k * Cl.words k := by rw [h2, hl]
  unfold cbL at H
  refine b_norm ?_
  refine c_norm ?_
  refine k_seq ?_
  refine k_qt 11 mixed (by kernel_rfl) H rfl rfl ?_
  refine q_run rfl rfl (fun _ H => r_lo H 2 rfl rfl rfl ag3) ?_
  refine q_run rfl rfl (fun _ H => r_mv (v := .int _ _) rfl) ?_
  refine q_run rfl rfl (fun _ H => r_mul rfl rfl (wI (by omega))) ?_
  refine q_run rfl rfl (fun _ H => r_add rfl rfl (wI (by omega))) ?_
  refine q_run rfl rfl (fun _ H => r_leqT rfl rfl (by omega)) ?_
  refine q_run rfl rfl (fun _ H => r_mv (v := .bool _) rfl) ?_
  refine q_run rfl (g_on 44 (by kernel_rfl) rfl) (fun _ H => r_lo H 1 rfl rfl rfl ag3) ?_
  refine q_run rfl (g_on 44 (by kernel_rfl) rfl) (fun _ H => r_lo H 3 rfl rfl rfl ag3) ?_
  refine q_call rfl (g_on 44 (by kernel_rfl) rfl) (fun _ H => (cells_any k _ (by omega) (by omega)).mono fun _ _ h => ⟨h.1, Only.of_below h.2 []⟩) (ca35 rfl) ?_
  refine q_run rfl (g_on 44 (by kernel_rfl) rfl) (fun _ H => r_eqlT rfl rfl (by omega)) ?_
  refine q_run rfl rfl (fun _ H => r_pkT (v := .bool _) rfl rfl) ?_
  refine q_nil ?_
  intro _ H'; clear H; have H := H'; clear H'
  refine s_st (u := .bool _) H 4 rfl rfl rfl rfl rfl rfl sz4 ?_
  clear H; intro _ H; simp only [jA, jB, jC, jD, jE, jF, jG, jH, jI, jJ, jK, Nat.reduceAdd] at H
  refine k_nc ?_
  refine k_ret ?_
  refine fin_r ?_
  refine fin_D H 0 rfl ?_
  intro _ H'; simp only [List.eraseIdx_cons_zero, List.eraseIdx_cons_succ] at H'; clear H; have H := H'; clear H'
  refine fm1 rfl (rv_c H 3 rfl rfl ag4) ?_
  exact ⟨rfl, H.below⟩
 case stop =>
  rintro D q pre L W hS ⟨rfl, hp, _⟩ H
  exact absurd hS hp
end Go.Proofs.Ytdgmlfpikgjnlaa
end

section
namespace Go.Proofs.Ytdgmlfpikgjnlaa.lCellsApart
open Go.ChangeShapes Go.WideShapes Go.ChangeAt Go.RowKit
theorem own : ownKnob Try.prog.godebug = none := by kernel_rfl
theorem laidOut : laidOutB Try.prog = true := by kernel_rfl
set_option maxRecDepth 100000 in
theorem lifted (os : Os) (started : os.Started) (H : Type) (enc : TypeId × Value → H) :
  ReturnsInHanded {} Try.checked os 9 .any (Rows.cellsApartSpec.pre6 enc Try.prog Try.f9 Rows.cellsApartRow.domain false) (Rows.cellsApartSpec.post enc Try.prog Try.f9 false true false false) := by
 refine returnsInHanded_of_change (C := Try.checked) own started (by kernel_rfl) Try.func9
  (ChangeSpec.witness6 (enc := enc) (C := Try.checked) false ⟨#[], #[.int .u8 0, .int .u8 0], []⟩ 8 (by kernel_rfl) (by kernel_rfl) (by kernel_rfl) (by kernel_rfl)) ?_
 intro W base args ds gs before hval0 hW hcnd _
 have hval : ∀ (j : Nat) t v, Try.f9.params[j]? = some t → args[j]? = some v → Value.okWide Try.prog W .any base t v := hval0
 have hW' := hW
 obtain ⟨p, q, hA0, hV, rfl, hfz, hnd⟩ := hW
 have hA : DataW.TrodAll enc Try.prog W 0 (fun _ => true) true Try.f9.params.toList args.toList ds p := hA0
 rw [Try.params9] at hA hval
 obtain ⟨v0, vs0, d0, ds0, p0, q0, hargs, rfl, rfl, h0, r0⟩ := trodAll_cons hA
 obtain ⟨v1, vs1, d1, ds1, p1, q1, rfl, rfl, rfl, h1, r1⟩ := trodAll_cons r0
 obtain ⟨rfl, rfl, rfl⟩ := trodAll_nil r1
 obtain rfl : args = #[v0, v1] := by cases args; simp_all
 obtain ⟨rfl, rfl⟩ := trodVars_none hV
 have k0 := h0
 have lt0 : ∀ x ∈ p0, x.block < W.heap.size := by obtain ⟨m, hm⟩ := k0; exact DataW.trod_lt m _ _ _ hm
 have k1 := h1
 have lt1 : ∀ x ∈ p1, x.block < W.heap.size := by obtain ⟨m, hm⟩ := k1; exact DataW.trod_lt m _ _ _ hm
 obtain ⟨a0, rfl, rfl, rfl, w0⟩ := open_int Try.underlying5 (hval 0 5 v0 rfl rfl) h0
 obtain ⟨a1, rfl, rfl, rfl, w1⟩ := open_int Try.underlying5 (hval 1 5 v1 rfl rfl) h1
 clear hA0 hval0
 refine (walk_CellsApart a0 a1 W w0 w1).mono fun e W' ⟨he, bel⟩ => ?_
 subst he
 exact ⟨_, rfl, _, _, _, [], _, [], hW', trodAll_mk1 (shut_bool Try.underlying4 _), (trodAll_cons_mk (Below.trod laidOut (by kernel_rfl) (of_decide_eq_true (by kernel_rfl)) k0 bel lt0) (trodAll_cons_mk (Below.trod laidOut (by kernel_rfl) (of_decide_eq_true (by kernel_rfl)) k1 bel lt1) trodAll_mk0)), rfl, bel.frame _, fun h => by cases h⟩
theorem over : Rows.cellsApartRow.holds Try.pinned (OpenSpec.ofChange Rows.cellsApartSpec) :=
 OpenClaim.holds_of_wide 9 Try.f9 rfl rfl rfl rfl rfl rfl rfl ⟨rfl, rfl, rfl, rfl, rfl⟩ rfl rfl rfl rfl rfl (by kernel_rfl) Try.func9 (by kernel_rfl)
  (of_decide_eq_true (by kernel_rfl)) (by unfold Func.isWrapper; first | (rw [if_pos (by decide +kernel)]; kernel_rfl) | (rw [if_neg (by decide +kernel)]; exact ⟨rfl, rfl⟩))
  (fun os started H enc _ => lifted os started H enc)
theorem proved : Rows.CellsApartSaid := over
#print axioms proved
end Go.Proofs.Ytdgmlfpikgjnlaa.lCellsApart
end
