/- Parts of the proof, one behind the other. -/
import Derived.Test.YtlakbclnilakbaaRows
import Derived.WalkKit
import Derived.WalkLawsBesides
import Derived.WalkSpells
import Derived.Laws.BitsAllLaws
import Derived.Lib.Hide
import Derived.ProofKit
import Derived.OpenShut
import Derived.ShutString
import Derived.ChangeOld
import Derived.Below
import Derived.Lib.SmallJoins
import Derived.BigQuiet
import Derived.Outline
import Derived.Deep.QuietTactic
import Derived.Laws.AppendOwnNone
import Derived.ChangeKeysEq
import Derived.Laws.CopyOwn
import Derived.Deep.RegionHeld3
import Derived.Deep.Quiet
import Derived.RangeFuncNested
import Derived.RangeFuncLeaves
import Derived.StillTail
import Derived.ArgAppend
import Derived.Deep.RegionHeld
import Derived.Laws.StructEq
import Derived.Lib.AppendZeros
import Derived.Maps.Keyed
import Derived.Maps.RangeRun
import Derived.Carry
set_option linter.unusedSimpArgs false
set_option linter.unusedVariables false
set_option linter.unusedSectionVars false
section
namespace Go.Proofs.Ytlakbclnilakbaa
open Go.RowKit
theorem ret_int {k : IntKind} {a b : Int} (h : a = b) : Ending.returned (.int k a) = .returned (.int k b) := by rw [h]
theorem ret_bool {a b : Bool} (h : a = b) : Ending.returned (.bool a) = .returned (.bool b) := by rw [h]
section
variable {H : Type} {enc : TypeId × Value → H} {P : Program} {w : World} {base : Nat} {spare : Nat → Bool} {held : Bool}
open Go.ChangeShapes Go.WideShapes
end
end Go.Proofs.Ytlakbclnilakbaa
end

section
namespace Go.Proofs.Ytlakbclnilakbaa
open Go.RowKit
/-- a slice value over A holds the cells xs (m of them), below block B -/
def RowAt (w : World) (B : Nat) (A : Option Addr) (m : Nat) (xs : List Value) : Prop :=
  xs.length = m ∧ (0 < m → ∃ b off, A = some ⟨b, off, none⟩ ∧ b < B ∧ ∀ j u, xs[j]? = some u → w.cell? ⟨b, off + j, none⟩ = some u)
theorem cell_lt {w : World} {p : Addr} {u : Value} (h : w.cell? p = some u) : p.block < w.heap.size := by
  rcases Nat.lt_or_ge p.block w.heap.size with h1 | h1
  · exact h1
  · exfalso
    simp [World.cell?, Array.getElem?_eq_none h1] at h
theorem RowAt.len {w : World} {B m : Nat} {A : Option Addr} {xs : List Value} (h : RowAt w B A m xs) : xs.length = m := h.1
theorem RowAt.at_ {w : World} {B m : Nat} {A : Option Addr} {xs : List Value} (h : RowAt w B A m xs) {j : Nat} (hj : j < m) :
    ∃ b off u, A = some ⟨b, off, none⟩ ∧ b < B ∧ xs[j]? = some u ∧ w.cell? ⟨b, off + j, none⟩ = some u := by
  obtain ⟨b, off, e, hb, hc⟩ := h.2 (by omega)
  have hl : j < xs.length := by rw [h.1]; exact hj
  exact ⟨b, off, xs[j], e, hb, List.getElem?_eq_getElem hl, hc j _ (List.getElem?_eq_getElem hl)⟩
theorem RowAt.keep {w w' : World} {B m : Nat} {A : Option Addr} {xs : List Value} (h : RowAt w B A m xs) (hk : ∀ p : Addr, p.block < B → w'.cell? p = w.cell? p) : RowAt w' B A m xs :=
  ⟨h.1, fun hm => by
    obtain ⟨b, off, e, hb, hc⟩ := h.2 hm
    exact ⟨b, off, e, hb, fun j u hu => (hk _ hb).trans (hc j u hu)⟩⟩
theorem RowAt.more {w : World} {B B' m : Nat} {A : Option Addr} {xs : List Value} (h : RowAt w B A m xs) (hB : B ≤ B') : RowAt w B' A m xs :=
  ⟨h.1, fun hm => by
    obtain ⟨b, off, e, hb, hc⟩ := h.2 hm
    exact ⟨b, off, e, by omega, hc⟩⟩
theorem RowAt.below {w w' : World} {B m : Nat} {A : Option Addr} {xs : List Value} (h : RowAt w B A m xs) (hb : Below B w w') : RowAt w' B A m xs := h.keep fun _ hp => hb.cell hp
theorem RowAt.alloc {w : World} {B m : Nat} {A : Option Addr} {xs : List Value} (h : RowAt w B A m xs) (hB : B ≤ w.heap.size) (o : Obj) : RowAt (w.alloc o) B A m xs :=
  h.keep fun p hp => World.cell?_alloc_lt w o p (by omega)
theorem RowAt.drewN {w : World} {B m : Nat} {A : Option Addr} {xs : List Value} (h : RowAt w B A m xs) (n : Nat) : RowAt (w.drewN n) B A m xs := h
theorem RowAt.nil {w : World} {B : Nat} {A : Option Addr} : RowAt w B A 0 [] := ⟨rfl, fun h => absurd h (by omega)⟩
/-- the integers of an argument's slice -/
def Ints (k : IntKind) (zs : List Int) : Prop := ∀ z ∈ zs, (Lit.int k z).wf = true
theorem RowAt.int {k : IntKind} {w : World} {B m : Nat} {A : Option Addr} {xs : List Int} (h : RowAt w B A m (xs.map (Value.int k))) (hi : Ints k xs) {j : Nat} (hj : j < m) :
    ∃ b off z, A = some ⟨b, off, none⟩ ∧ b < B ∧ xs[j]? = some z ∧ (Lit.int k z).wf = true ∧ w.cell? ⟨b, off + j, none⟩ = some (.int k z) := by
  obtain ⟨b, off, u, e, hb, hx, hc⟩ := h.at_ hj
  rw [List.getElem?_map] at hx
  cases hz : xs[j]? with
  | none => rw [hz] at hx; simp at hx
  | some z =>
    rw [hz] at hx
    simp at hx
    exact ⟨b, off, z, e, hb, rfl, hi z (List.mem_of_getElem? hz), by rw [hc, hx]⟩
theorem wf_i64 {z : Int} (h : -9223372036854775808 ≤ z ∧ z ≤ 9223372036854775807) : (Lit.int .i64 z).wf = true := by
  simp [Lit.wf, IntKind.min, IntKind.max, IntKind.signed, IntKind.bits]; omega
end Go.Proofs.Ytlakbclnilakbaa
end

section
namespace Go.Proofs.Ytlakbclnilakbaa
open Go.RowKit
/-- block b of W is these cells, none of them frozen -/
def Blk (W : World) (b : Nat) (cs : Array Value) (T : TypeId) : Prop := W.heap[b]? = some (.cells cs T (0, 0))
theorem Blk.lt {W : World} {b : Nat} {cs : Array Value} {T : TypeId} (h : Blk W b cs T) : b < W.heap.size := by
  rcases Nat.lt_or_ge b W.heap.size with h1 | h1
  · exact h1
  · unfold Blk at h; rw [Array.getElem?_eq_none h1] at h; cases h
theorem Blk.cell {W : World} {b : Nat} {cs : Array Value} {T : TypeId} (h : Blk W b cs T) (i : Nat) (u : Value) (hu : cs[i]? = some u) : W.cell? ⟨b, i, none⟩ = some u := by
  rw [Joins.cell_of_block h]; exact hu
theorem Blk.frozen {W : World} {b : Nat} {cs : Array Value} {T : TypeId} (h : Blk W b cs T) (i : Nat) : W.frozen? ⟨b, i, none⟩ = false := frozen_of_row W b i cs T h
theorem Blk.below {W W' : World} {B b : Nat} {cs : Array Value} {T : TypeId} (h : Blk W b cs T) (hb : Below B W W') (hB : b < B) : Blk W' b cs T := by
  unfold Blk at *; rw [hb.block b hB]; exact h
theorem Blk.new (w : World) (cs : Array Value) (T : TypeId) : Blk (w.alloc (.cells cs T)) w.heap.size cs T := heap_alloc_new w _
theorem Blk.alloc {W : World} {b : Nat} {cs : Array Value} {T : TypeId} (h : Blk W b cs T) (o : Obj) : Blk (W.alloc o) b cs T :=
  h.below ((Below.refl W.heap.size W).alloc (Nat.le_refl _) o) h.lt
theorem Blk.drewN {W : World} {b : Nat} {cs : Array Value} {T : TypeId} (h : Blk W b cs T) (n : Nat) : Blk (W.drewN n) b cs T := h
theorem Blk.drew {W : World} {b : Nat} {cs : Array Value} {T : TypeId} (h : Blk W b cs T) : Blk W.drew b cs T := h
theorem Blk.set {W : World} {b : Nat} {cs : Array Value} {T : TypeId} (h : Blk W b cs T) (j : Nat) (u : Value) : Blk (W.setCell ⟨b, j, none⟩ u) b (cs.setIfInBounds j u) T := heap_setCell_same W b j cs T u h
theorem Blk.other {W : World} {b : Nat} {cs : Array Value} {T : TypeId} (h : Blk W b cs T) (p : Addr) (u : Value) (hp : p.block ≠ b) : Blk (W.setCell p u) b cs T := by
  unfold Blk; rw [heap_setCell_other W p b u (by simpa using fun e => hp e.symm)]; exact h
end Go.Proofs.Ytlakbclnilakbaa
end

section
namespace Go.Proofs.Ytlakbclnilakbaa
open Go.RowKit
end Go.Proofs.Ytlakbclnilakbaa
end

section
namespace Go.Proofs.Ytlakbclnilakbaa
open Go.RowKit
theorem Blk.setRow {W : World} {b : Nat} {old : Array Value} {T : TypeId} (h : Blk W b old T) (cs : Array Value) : Blk (W.setRow b cs) b cs T := setRow_heap W b old cs T (0, 0) h
theorem Blk.setRow_other {W : World} {b g : Nat} {old : Array Value} {T : TypeId} (h : Blk W b old T) (cs : Array Value) (hne : b ≠ g) : Blk (W.setRow g cs) b old T := by
  unfold Blk; rw [Go.setRow_other W g b cs hne]; exact h
end Go.Proofs.Ytlakbclnilakbaa
end

section
namespace Go.Proofs.Ytlakbclnilakbaa
open Go.RowKit
/-! frames -/
def upd (f : Nat → Value) (k : Nat) (v : Value) : Nat → Value := fun t => bif Nat.beq t k then v else f t
/-- how many temporaries, and the marks of the loops over functions that are done -/
structure Sz where
  n : Nat
  d : List Nat
def Fn (n : Sz) (f : Nat → Value) : Act := ⟨((List.range n.n).map f).toArray, n.d.map fun D => { target := .collected D, args := #[] }⟩
def ev (n : Sz) (f : Nat → Value) : Operand → Value
  | .tmp t => bif Nat.blt t n.n then f t else undef
  | .const v => v
  | .global g => .pointer (some ⟨g, 0, none⟩)
  | .func g => .func (.func g) #[] #[]
theorem upd_same {f : Nat → Value} {k : Nat} {v : Value} (h : f k = v) : upd f k v = f := by
  funext t
  unfold upd
  cases hb : Nat.beq t k
  · rfl
  · have : t = k := Nat.eq_of_beq_eq_true hb
    subst this; exact h.symm
theorem Fn_get (n : Sz) (f : Nat → Value) (t : Nat) : (Fn n f).tmps[t]? = if t < n.n then some (f t) else none := by
  simp only [Fn, List.getElem?_toArray, List.getElem?_map]
  by_cases h : t < n.n
  · simp [h]
  · simp [h]
theorem Fn_eval (n : Sz) (f : Nat → Value) : (Fn n f).eval = ev n f := by
  funext x
  cases x with
  | tmp t =>
    simp only [Act.eval, ev, Array.getD_eq_getD_getElem?, Fn_get]
    by_cases h : t < n.n
    · have : Nat.blt t n.n = true := by simpa [Nat.blt_eq] using h
      simp [h, this]
    · have : Nat.blt t n.n = false := by rw [Bool.eq_false_iff]; simpa [Nat.blt_eq] using h
      simp [h, this]
  | const v => rfl
  | global g => rfl
  | func g => rfl
theorem Fn_put (n : Sz) (f : Nat → Value) (k : Nat) (v : Value) : (Fn n f).put (some k) v = Fn n (upd f k v) := by
  simp only [Act.put, Fn, Act.mk.injEq, and_true]
  apply Array.ext_getElem?
  intro i
  rw [Array.getElem?_setIfInBounds]
  simp only [List.getElem?_toArray, List.getElem?_map, List.size_toArray, List.length_map, List.length_range]
  by_cases hi : i < n.n
  · by_cases e : k = i
    · subst e; simp [upd, hi]
    · have : Nat.beq i k = false := by rw [Bool.eq_false_iff]; intro h; exact e (Nat.eq_of_beq_eq_true h).symm
      simp [upd, hi, e, this]
  · have h1 : (List.range n.n)[i]? = none := by simp; omega
    simp only [h1, Option.map_none]
    split
    · split
      · omega
      · rfl
    · rfl
def yl (n : Sz) (f : Nat → Value) (ops : Array Oper) (j : Nat) : Option Bool :=
  match (ops[j]?).bind (·.dst) with
  | some k => (match ev n f (.tmp k) with | .bool b => some b | _ => none)
  | none => none
theorem yl_eq (n : Sz) (f : Nat → Value) (ops : Array Oper) (j : Nat) : yielded ops (Fn n f).tmps j = yl n f ops j := by
  unfold yielded yl
  cases h : (ops[j]?).bind (·.dst) with
  | none => simp
  | some k =>
    simp only [Option.bind_some, Fn_get]
    by_cases hk : k < n.n
    · have : Nat.blt k n.n = true := by simpa [Nat.blt_eq] using hk
      simp only [hk, if_true, ev, this, cond_true]
      cases f k <;> rfl
    · have : Nat.blt k n.n = false := by rw [Bool.eq_false_iff]; simpa [Nat.blt_eq] using hk
      simp only [hk, if_false, ev, this, cond_false]
      rfl
/-! code -/
section
variable {P : Program} {ops : Array Oper} {rest : List Oper} {n : Sz} {k id : Nat} {f : Nat → Value} {W W' : World} {Q : Exit → Act → World → Prop} {a : Act} {v : Value} {o : Oper}
/-- code that a round of a loop over a function may hold -/
def opOk (o : Oper) : Bool := match o.op with
  | .call c => (match c.callee with | .value (.tmp _) => false | _ => true)
  | _ => true
def rok : Code → Bool
  | .skip => true
  | .region _ ops draw => !draw && ops.all opOk
  | .seq x y => rok x && rok y
  | .cond _ x y => rok x && rok y
  | .block _ x => rok x
  | .loop x => rok x
  | .exit _ => true
  | .ret => true
  | _ => false
abbrev RF (l0 : Nat) : Fence := Fence.wide.inRound l0
/-- by itself, and in a round -/
def wpB (P : Program) (c : Code) (Q : Exit → Act → World → Prop) (a : Act) (w : World) : Prop := c.wp P Q a w ∧ (rok c = true → ∀ l0 m, c.wpIn (RF l0) m P Q a w)
theorem wpB.mono {P : Program} {c : Code} {Q Q' : Exit → Act → World → Prop} {a : Act} {w : World} (h : wpB P c Q a w) (hq : ∀ e a w, Q e a w → Q' e a w) : wpB P c Q' a w :=
  ⟨Code.wp_mono hq h.1, fun ho l0 m => Code.wpIn_mono hq (h.2 ho l0 m)⟩
theorem then_mono {K K' : Act → World → Prop} {Q : Exit → Act → World → Prop} (h : ∀ a w, K a w → K' a w) : ∀ e a w, Exit.then K Q e a w → Exit.then K' Q e a w := by
  intro e a w hh; cases e <;> first | exact h _ _ hh | exact hh
/-- words that no tactic looks behind -/
structure CW (P : Program) (c : Code) (Q : Exit → Act → World → Prop) (n : Sz) (f : Nat → Value) (W : World) : Prop where
  outB : wpB P c Q (Fn n f) W
theorem CW.out {c : Code} (h : CW P c Q n f W) : c.wp P Q (Fn n f) W := h.outB.1
theorem CW.inr {c : Code} (h : CW P c Q n f W) (ho : rok c = true) (l0 m : Nat) : c.wpIn (RF l0) m P Q (Fn n f) W := h.outB.2 ho l0 m
theorem CW.alone {c : Code} (hr : rok c = false) (h : c.wp P Q (Fn n f) W) : CW P c Q n f W := ⟨h, fun ho => by rw [hr] at ho; cases ho⟩
structure SL (P : Program) (ops : Array Oper) (Q : Exit → Act → World → Prop) (l : List Oper) (n : Sz) (f : Nat → Value) (W : World) : Prop where
  out : wpList P ops Q l (Fn n f) W
  inr : ∀ l0 m, wpListIn (RF l0) m P ops Q l (Fn n f) W
structure PQ (Q : Exit → Act → World → Prop) (e : Exit) (n : Sz) (f : Nat → Value) (W : World) : Prop where
  out : Q e (Fn n f) W
theorem c_norm {y : Code} (h : CW P y Q n f W) : PQ (Exit.then (wpB P y Q) Q) .normal n f W := ⟨h.outB⟩
theorem c_round {K : Act → World → Prop} (h : K (Fn n f) W) : PQ (Exit.then K Q) .normal n f W := ⟨h⟩
theorem c_exit {K : Act → World → Prop} {i : Nat} (h : PQ Q (.exit i) n f W) : PQ (Exit.then K Q) (.exit i) n f W := ⟨h.out⟩
theorem c_ret {K : Act → World → Prop} (h : PQ Q .ret n f W) : PQ (Exit.then K Q) .ret n f W := ⟨h.out⟩
theorem b_norm (h : PQ Q .normal n f W) : PQ (Exit.inBlock id Q) .normal n f W := ⟨h.out⟩
theorem b_ret (h : PQ Q .ret n f W) : PQ (Exit.inBlock id Q) .ret n f W := ⟨h.out⟩
theorem b_hit (h : PQ Q .normal n f W) : PQ (Exit.inBlock id Q) (.exit id) n f W := ⟨by simp only [Exit.inBlock, if_true]; exact h.out⟩
theorem k_seq {x y : Code} (h : CW P x (Exit.then (wpB P y Q) Q) n f W) : CW P (Code.seq x y) Q n f W :=
  ⟨wp_seq (Code.wp_mono (then_mono fun _ _ h => h.1) h.out), fun ho l0 m => by
    have ho' : rok x = true ∧ rok y = true := by simpa [rok] using ho
    exact wpIn_seq (Code.wpIn_mono (then_mono fun _ _ h => h.2 ho'.2 l0 m) (h.inr ho'.1 l0 m))⟩
theorem k_rg {l : List Oper} (h : SL P l.toArray Q l n f W) : CW P (Code.region id l.toArray false) Q n f W := ⟨wp_region_lit h.out, fun _ l0 m => wpIn_region_lit (h.inr l0 m)⟩
theorem k_nil (h : PQ Q .normal n f W) : SL P ops Q [] n f W := ⟨h.out, fun _ _ => wpListIn_nil h.out⟩
theorem k_t {c : Operand} {x y : Code} (hc : ev n f c = .bool true) (h : CW P x Q n f W) : CW P (Code.cond c x y) Q n f W :=
  ⟨wp_cond_true (by rw [Fn_eval]; exact hc) h.out, fun ho l0 m => by
    have ho' : rok x = true ∧ rok y = true := by simpa [rok] using ho
    exact wpIn_cond_true (by rw [Fn_eval]; exact hc) (h.inr ho'.1 l0 m)⟩
theorem k_f {c : Operand} {x y : Code} (hc : ev n f c = .bool false) (h : CW P y Q n f W) : CW P (Code.cond c x y) Q n f W :=
  ⟨wp_cond_false (by rw [Fn_eval]; exact hc) h.out, fun ho l0 m => by
    have ho' : rok x = true ∧ rok y = true := by simpa [rok] using ho
    exact wpIn_cond_false (by rw [Fn_eval]; exact hc) (h.inr ho'.2 l0 m)⟩
theorem k_b {c : Code} (h : CW P c (Exit.inBlock id Q) n f W) : CW P (Code.block id c) Q n f W := ⟨wp_block h.out, fun ho l0 m => wpIn_block (h.inr (by simpa [rok] using ho) l0 m)⟩
theorem k_skip (h : PQ Q .normal n f W) : CW P Code.skip Q n f W := ⟨wp_skip h.out, fun _ _ _ => wpIn_skip h.out⟩
theorem k_exit (h : PQ Q (.exit id) n f W) : CW P (Code.exit id) Q n f W := ⟨wp_exit h.out, fun _ _ _ => wpIn_exit h.out⟩
theorem k_ret (h : PQ Q .ret n f W) : CW P Code.ret Q n f W := ⟨wp_ret h.out, fun _ _ _ => wpIn_ret h.out⟩
theorem k_enter {g : FuncId} {fn : Func} {c : Code} {l : List Value} {R : Ending → World → Prop} (hf : P.funcs[g]? = some fn) (hb : fn.body = some c) {N : Nat} (hN : fn.ntmps = N) (hl : l.length ≤ N)
    (f0 : Nat → Value) (h0 : ∀ i v, l[i]? = some v → f0 i = v) (h1 : ∀ i, l.length ≤ i → f0 i = undef)
    (h : c.wp P (bodyPost P fn R) (Fn ⟨N, []⟩ f0) W) : Calls P g l.toArray W R := by
  refine calls_of_wp hf hb ?_
  have e : ({ tmps := l.toArray ++ Array.replicate (fn.ntmps - l.toArray.size) undef, defers := [] } : Act) = Fn ⟨N, []⟩ f0 := by
    simp only [Fn, List.map_nil, Act.mk.injEq, and_true]
    apply Array.ext_getElem?
    intro i
    rw [Array.getElem?_append]
    simp only [List.size_toArray, List.getElem?_toArray, List.getElem?_map, hN]
    split
    · rename_i hi
      have hg : l[i]? = some l[i] := List.getElem?_eq_getElem hi
      have hiN : i < N := by omega
      have hr : (List.range N)[i]? = some i := by simp [hiN]
      rw [hg, hr, Option.map_some, h0 i _ hg]
    · rename_i hi
      by_cases hiN : i < N
      · have hr : (List.range N)[i]? = some i := by simp [hiN]
        rw [hr, Option.map_some, h1 i (by omega), Array.getElem?_replicate, if_pos (by omega)]
      · have hr : (List.range N)[i]? = none := by simp; omega
        rw [hr, Option.map_none, Array.getElem?_replicate, if_neg (by omega)]
  rw [e]; exact h
def args (l : List Value) : Nat → Value := fun i => l.getD i undef
theorem k_in {g : FuncId} {fn : Func} {c : Code} {l : List Value} {R : Ending → World → Prop} (hf : P.funcs[g]? = some fn) (hb : fn.body = some c) {N : Nat} (hN : fn.ntmps = N) (hl : Nat.ble l.length N = true)
    (h : CW P c (bodyPost P fn R) ⟨N, []⟩ (args l) W) : Calls P g l.toArray W R :=
  k_enter hf hb hN (Nat.le_of_ble_eq_true hl) _ (fun i v h => by simp [args, List.getD, h]) (fun i hi => by simp [args, List.getD, List.getElem?_eq_none hi]) h.out
theorem fin0 {fn : Func} {N : Nat} {R : Ending → World → Prop} (hr : fn.results = #[]) (hR : R (.returned (.tuple #[])) W) : PQ (bodyPost P fn R) .normal ⟨N, []⟩ f W :=
  ⟨bodyPost_end (results_none hr _ _ _) rfl hR⟩
theorem fin0r {fn : Func} {N : Nat} {R : Ending → World → Prop} (hr : fn.results = #[]) (hR : R (.returned (.tuple #[])) W) : PQ (bodyPost P fn R) .ret ⟨N, []⟩ f W :=
  ⟨bodyPost_ret (results_none hr _ _ _) rfl hR⟩
theorem ev_getD (t : Nat) : (Fn n f).tmps.getD t undef = ev n f (.tmp t) := congrFun (Fn_eval n f) (.tmp t)
theorem fin1r {fn : Func} {N : Nat} {R : Ending → World → Prop} {t : Nat} (hr : fn.results = #[.tmp t]) (hv : ev ⟨N, []⟩ f (.tmp t) = v) (hR : R (.returned v) W) : PQ (bodyPost P fn R) .ret ⟨N, []⟩ f W :=
  ⟨bodyPost_ret (by rw [results_tmp hr, ev_getD, hv]) rfl hR⟩
theorem least {p : Nat → Prop} (h : ∃ m, p m) : ∃ m, p m ∧ ∀ k, p k → m ≤ k := by
  classical
  obtain ⟨m, hm⟩ := h
  induction m using Nat.strongRecOn with
  | _ m ih =>
    by_cases h2 : ∃ k, k < m ∧ p k
    · obtain ⟨k, hk, hp⟩ := h2; exact ih k hk hp
    · exact ⟨m, hm, fun k hk => Nat.le_of_not_lt fun hlt => h2 ⟨k, hlt, hk⟩⟩
/-- a loop with a number that every round lowers -/
theorem k_loop {c : Code} (I : Nat → (Nat → Value) → World → Prop) (m0 : Nat) (h0 : I m0 f W)
    (round : ∀ m f W, I m f W → CW P c (Exit.then (fun a' W' => ∃ m' f', m' < m ∧ a' = Fn n f' ∧ I m' f' W') Q) n f W) : CW P (Code.loop c) Q n f W := by
  classical
  let J : Act → World → Nat → Prop := fun a W m => ∃ f', a = Fn n f' ∧ I m f' W
  let μ : Act → World → Nat := fun a W => if h : ∃ m, J a W m then (least h).choose else 0
  have step : ∀ {a' : Act} {W W' : World} {f1 : Nat → Value} {k : Nat} (hJ : ∃ m, J (Fn n f1) W m), k = (least hJ).choose → (∃ m' f', m' < k ∧ a' = Fn n f' ∧ I m' f' W') → (∃ m, J a' W' m) ∧ μ a' W' < μ (Fn n f1) W := by
    rintro a' W W' f1 k hJ rfl ⟨m', f', hlt, rfl, hI'⟩
    have hJ' : ∃ m, J (Fn n f') W' m := ⟨m', f', rfl, hI'⟩
    refine ⟨hJ', ?_⟩
    show (if h : ∃ m, J (Fn n f') W' m then (least h).choose else 0) < (if h : ∃ m, J (Fn n f1) W m then (least h).choose else 0)
    rw [dif_pos hJ', dif_pos hJ]
    exact Nat.lt_of_le_of_lt ((least hJ').choose_spec.2 _ ⟨f', rfl, hI'⟩) hlt
  refine ⟨?_, fun ho l0 m => ?_⟩
  · refine wp_loop (fun a W => ∃ m, J a W m) μ ⟨m0, f, rfl, h0⟩ ?_
    intro a W hJ
    have hJ0 := hJ
    obtain ⟨f1, rfl, hI⟩ := (least hJ).choose_spec.1
    refine Code.wp_mono ?_ (round _ f1 W hI).out
    intro e a' W' hq
    cases e with
    | normal => exact step hJ0 rfl hq
    | _ => exact hq
  · have ho' : rok c = true := by simpa [rok] using ho
    refine wpIn_loop (fun a W => ∃ m, J a W m) μ ⟨m0, f, rfl, h0⟩ ?_
    intro a W hJ
    have hJ0 := hJ
    obtain ⟨f1, rfl, hI⟩ := (least hJ).choose_spec.1
    refine Code.wpIn_mono ?_ ((round _ f1 W hI).inr ho' l0 m)
    intro e a' W' hq
    cases e with
    | normal => exact step hJ0 rfl hq
    | _ => exact hq
theorem live1 {f : Nat → Value} {k1 : Nat} {v1 : Value} (h1 : f k1 = v1) : ∃ g, f = upd g k1 v1 := ⟨f, (upd_same h1).symm⟩
theorem live2 {f : Nat → Value} {k1 k2 : Nat} {v1 v2 : Value} (h1 : f k1 = v1) (h2 : f k2 = v2) : ∃ g, f = upd (upd g k1 v1) k2 v2 := ⟨f, by rw [upd_same h1, upd_same h2]⟩
theorem live3 {f : Nat → Value} {k1 k2 k3 : Nat} {v1 v2 v3 : Value} (h1 : f k1 = v1) (h2 : f k2 = v2) (h3 : f k3 = v3) : ∃ g, f = upd (upd (upd g k1 v1) k2 v2) k3 v3 := ⟨f, by rw [upd_same h1, upd_same h2, upd_same h3]⟩
theorem live4 {f : Nat → Value} {k1 k2 k3 k4 : Nat} {v1 v2 v3 v4 : Value} (h1 : f k1 = v1) (h2 : f k2 = v2) (h3 : f k3 = v3) (h4 : f k4 = v4) : ∃ g, f = upd (upd (upd (upd g k1 v1) k2 v2) k3 v3) k4 v4 := ⟨f, by rw [upd_same h1, upd_same h2, upd_same h3, upd_same h4]⟩
theorem live5 {f : Nat → Value} {k1 k2 k3 k4 k5 : Nat} {v1 v2 v3 v4 v5 : Value} (h1 : f k1 = v1) (h2 : f k2 = v2) (h3 : f k3 = v3) (h4 : f k4 = v4) (h5 : f k5 = v5) : ∃ g, f = upd (upd (upd (upd (upd g k1 v1) k2 v2) k3 v3) k4 v4) k5 v5 := ⟨f, by rw [upd_same h1, upd_same h2, upd_same h3, upd_same h4, upd_same h5]⟩
theorem live6 {f : Nat → Value} {k1 k2 k3 k4 k5 k6 : Nat} {v1 v2 v3 v4 v5 v6 : Value} (h1 : f k1 = v1) (h2 : f k2 = v2) (h3 : f k3 = v3) (h4 : f k4 = v4) (h5 : f k5 = v5) (h6 : f k6 = v6) : ∃ g, f = upd (upd (upd (upd (upd (upd g k1 v1) k2 v2) k3 v3) k4 v4) k5 v5) k6 v6 := ⟨f, by rw [upd_same h1, upd_same h2, upd_same h3, upd_same h4, upd_same h5, upd_same h6]⟩
/-! operations -/
theorem no_defer_value {ρ : Operand → Value} {o : Oper} {r : Next} (h : (execOp ρ o).run P W = .ok r W') (hr : ∀ d, r ≠ .defer d) : ∀ c, o.op ≠ .defer c := by
  intro c hc
  unfold execOp at h
  rw [hc] at h
  simp only [Sem.run_bind] at h
  generalize (resolve ρ c o.type).run P W = x at h
  cases x with
  | ok d w1 =>
    simp only [Result.andThen_ok, Sem.run_pure] at h
    injection h with h1 _
    exact hr _ h1.symm
  | halt _ _ => cases h
theorem inr_step {r : Next} {l0 m : Nat} {K : Act → World → Prop} {a : Act} (h : (execOp a.eval o).run P W = .ok r W') (hr : ∀ d, r ≠ .defer d) (hk : o.uponIn (RF l0) m P a K Q (.ok r W')) : o.wpIn (RF l0) m P a W K Q := by
  unfold Oper.wpIn
  refine ⟨fun _ _ => trivial, ?_⟩
  rw [show (RF l0).round = some l0 from rfl, Oper.semAt_some l0 _ _ (no_defer_value h hr), h]
  exact hk
theorem s_run (hd : o.dst = some k) (hw : Region.wanted o (yl n f ops) = true) (hr : (execOp (ev n f) o).run P W = .ok (.value v) W')
    (h : SL P ops Q rest n (upd f k v) W') : SL P ops Q (o :: rest) n f W := by
  have hy : yielded ops (Fn n f).tmps = yl n f ops := funext (yl_eq n f ops)
  have hr' : (execOp (Fn n f).eval o).run P W = .ok (.value v) W' := by rw [Fn_eval]; exact hr
  refine ⟨?_, fun l0 m => ?_⟩
  · unfold wpList
    rw [hy, if_pos hw]
    refine .inl ?_
    unfold Oper.wp
    rw [hr', Oper.upon_value, hd, Fn_put]
    exact h.out
  · unfold wpListIn
    rw [hy, if_pos hw]
    refine inr_step hr' (fun d => by intro e; cases e) ?_
    rw [Oper.uponIn_value, hd, Fn_put]
    exact h.inr l0 m
theorem s_do (hd : o.dst = none) (hw : Region.wanted o (yl n f ops) = true) (hr : (execOp (ev n f) o).run P W = .ok .skip W')
    (h : SL P ops Q rest n f W') : SL P ops Q (o :: rest) n f W := by
  have hy : yielded ops (Fn n f).tmps = yl n f ops := funext (yl_eq n f ops)
  have hr' : (execOp (Fn n f).eval o).run P W = .ok .skip W' := by rw [Fn_eval]; exact hr
  refine ⟨?_, fun l0 m => ?_⟩
  · unfold wpList
    rw [hy, if_pos hw]
    refine .inl ?_
    unfold Oper.wp
    rw [hr', Oper.upon_skip, hd]
    exact h.out
  · unfold wpListIn
    rw [hy, if_pos hw]
    refine inr_step hr' (fun d => by intro e; cases e) ?_
    rw [Oper.uponIn_skip, hd]
    exact h.inr l0 m
theorem s_off (hd : o.dst = some k) (hw : Region.wanted o (yl n f ops) = false)
    (h : SL P ops Q rest n (upd f k undef) W) : SL P ops Q (o :: rest) n f W := by
  have hy : yielded ops (Fn n f).tmps = yl n f ops := funext (yl_eq n f ops)
  refine ⟨?_, fun l0 m => ?_⟩
  · unfold wpList
    rw [hy, hw, hd, Fn_put]
    exact h.out
  · unfold wpListIn
    rw [hy, hw, hd, Fn_put]
    exact ⟨fun _ _ => trivial, h.inr l0 m⟩
/-- a function is entered, and returns -/
theorem s_enter {fn : FuncId} {vs : Array Value} {R : Ending → World → Prop} (hd : o.dst = some k) (hw : Region.wanted o (yl n f ops) = true) (hr : (execOp (ev n f) o).run P W = .ok (.enter fn vs) W) (hc : Calls P fn vs W R)
    (h : ∀ e W', R e W' → ∃ v, e = .returned v ∧ SL P ops Q rest n (upd f k v) W') : SL P ops Q (o :: rest) n f W := by
  have hy : yielded ops (Fn n f).tmps = yl n f ops := funext (yl_eq n f ops)
  have hr' : (execOp (Fn n f).eval o).run P W = .ok (.enter fn vs) W := by rw [Fn_eval]; exact hr
  refine ⟨?_, fun l0 m => ?_⟩
  · unfold wpList
    rw [hy, if_pos hw]
    refine .inl ?_
    unfold Oper.wp
    rw [hr', Oper.upon_enter]
    refine hc.mono fun e W' hR => ?_
    obtain ⟨v, rfl, h2⟩ := h e W' hR
    show wpList P ops Q rest ((Fn n f).put o.dst v) W'
    rw [hd, Fn_put]; exact h2.out
  · unfold wpListIn
    rw [hy, if_pos hw]
    refine inr_step hr' (fun d => by intro e; cases e) ?_
    rw [Oper.uponIn_enter]
    refine ⟨(fun hh => nomatch hh), CallsIn.inRound l0 (callsIn_wide.2 (hc.mono fun e W' hR => ?_))⟩
    obtain ⟨v, rfl, h2⟩ := h e W' hR
    show wpListIn (RF l0) m P ops Q rest ((Fn n f).put o.dst v) W'
    rw [hd, Fn_put]; exact h2.inr l0 m
end
end Go.Proofs.Ytlakbclnilakbaa
end

section
namespace Go.Proofs.Ytlakbclnilakbaa
open Go.RowKit
end Go.Proofs.Ytlakbclnilakbaa
end

section
namespace Go.Proofs.Ytlakbclnilakbaa
open Go.RowKit
/-- what is known of some blocks -/
structure Ent where
  ids : List Nat
  ok : World → Prop
  lt : ∀ W, ok W → ∀ i ∈ ids, i < W.heap.size
  loc : ∀ W W' : World, (∀ i ∈ ids, W'.heap[i]? = W.heap[i]?) → ok W → ok W'
def ids (L : List Ent) : List Nat := L.flatMap Ent.ids
theorem ids_append (A B : List Ent) : ids (A ++ B) = ids A ++ ids B := by simp [ids]
theorem ids_cons (E : Ent) (B : List Ent) : ids (E :: B) = E.ids ++ ids B := by simp [ids]
theorem mem_ids {L : List Ent} {i : Nat} : i ∈ ids L ↔ ∃ E ∈ L, i ∈ E.ids := by simp [ids, List.mem_flatMap]
/-- only the blocks of F, and new ones, may have changed -/
structure Only (F : List Nat) (w w' : World) : Prop where
  os : w'.os = w.os
  tape : w'.tape = w.tape
  output : w'.output = w.output
  size : w.heap.size ≤ w'.heap.size
  block : ∀ k, k < w.heap.size → k ∉ F → w'.heap[k]? = w.heap[k]?
theorem Only.refl (F : List Nat) (w : World) : Only F w w := ⟨rfl, rfl, rfl, Nat.le_refl _, fun _ _ _ => rfl⟩
theorem Only.trans {F : List Nat} {a b c : World} (h : Only F a b) (k : Only F b c) : Only F a c :=
  ⟨k.os.trans h.os, k.tape.trans h.tape, k.output.trans h.output, Nat.le_trans h.size k.size, fun i hi hf => (k.block i (Nat.lt_of_lt_of_le hi h.size) hf).trans (h.block i hi hf)⟩
theorem Only.mono {F F' : List Nat} {a b : World} (h : Only F a b) (hs : ∀ i ∈ F, i ∈ F') : Only F' a b :=
  ⟨h.os, h.tape, h.output, h.size, fun k hk hf => h.block k hk fun hm => hf (hs k hm)⟩
theorem Only.of_below {w w' : World} (h : Below w.heap.size w w') (F : List Nat) : Only F w w' := ⟨h.os, h.tape, h.output, h.size, fun k hk _ => h.block k hk⟩
theorem Only.below {w w' : World} (h : Only [] w w') : Below w.heap.size w w' := ⟨h.os, h.tape, h.output, h.size, fun k hk => h.block k hk (by simp)⟩
def Ents (A : List Ent) (W : World) : Prop := (∀ E ∈ A, E.ok W) ∧ (ids A).Nodup
structure Heap (w0 : World) (F : List Nat) (L : List Ent) (W : World) : Prop where
  ok : ∀ E ∈ L, E.ok W
  nd : (ids L).Nodup
  own : ∀ i ∈ ids L, i ∈ F ∨ w0.heap.size ≤ i
  only : Only F w0 W
theorem Heap.ents {w0 W : World} {F : List Nat} {L : List Ent} (h : Heap w0 F L W) : Ents L W := ⟨h.ok, h.nd⟩
theorem Heap.start {L : List Ent} {w : World} (h : Ents L w) : Heap w (ids L) L w := ⟨h.1, h.2, fun _ hi => .inl hi, Only.refl _ _⟩
theorem Heap.nil (w : World) : Heap w [] [] w := ⟨by simp, by simp [ids], by simp [ids], Only.refl _ _⟩
theorem Heap.idlt {w0 W : World} {F : List Nat} {L : List Ent} (h : Heap w0 F L W) : ∀ i ∈ ids L, i < W.heap.size := by
  intro i hi
  obtain ⟨E, hE, hm⟩ := mem_ids.1 hi
  exact E.lt W (h.ok E hE) i hm
theorem Ents.part {A L : List Ent} {W : World} (h : Ents (A ++ L) W) : Ents A W :=
  ⟨fun E hE => h.1 E (List.mem_append_left _ hE), by have := h.2; rw [ids_append] at this; exact (List.nodup_append.1 this).1⟩
theorem Heap.part {w0 W : World} {F : List Nat} {A L : List Ent} (h : Heap w0 F (A ++ L) W) : Ents A W := h.ents.part
/-- a piece of the memory, and what is known of it, is replaced -/
theorem Heap.step {w0 W W' : World} {F F' : List Nat} {A A' L : List Ent} (h : Heap w0 F (A ++ L) W) (h' : Heap W F' A' W') (hF : ∀ i ∈ F', i ∈ ids A) : Heap w0 F (A' ++ L) W' := by
  have hlt := h.idlt
  have hnd := h.nd
  rw [ids_append] at hnd hlt
  obtain ⟨nA, nL, dis⟩ := List.nodup_append.1 hnd
  have hA : ∀ i ∈ ids L, i ∉ F' := fun i hi hf => dis i (hF i hf) i hi rfl
  refine ⟨fun E hE => ?_, ?_, fun i hi => ?_, ?_⟩
  · rcases List.mem_append.1 hE with h1 | h1
    · exact h'.ok E h1
    · refine E.loc W W' (fun i hi => ?_) (h.ok E (List.mem_append_right _ h1))
      have hm : i ∈ ids L := mem_ids.2 ⟨E, h1, hi⟩
      exact h'.only.block i (hlt i (List.mem_append_right _ hm)) (hA i hm)
  · rw [ids_append]
    refine List.nodup_append.2 ⟨h'.nd, nL, fun a ha b hb hab => ?_⟩
    subst hab
    rcases h'.own a ha with h1 | h1
    · exact hA a hb h1
    · have := hlt a (List.mem_append_right _ hb); omega
  · rw [ids_append] at hi
    rcases List.mem_append.1 hi with h1 | h1
    · rcases h'.own i h1 with h2 | h2
      · exact h.own i (by rw [ids_append]; exact List.mem_append_left _ (hF i h2))
      · exact .inr (Nat.le_trans h.only.size h2)
    · exact h.own i (by rw [ids_append]; exact List.mem_append_right _ h1)
  · refine ⟨h'.only.os.trans h.only.os, h'.only.tape.trans h.only.tape, h'.only.output.trans h.only.output, Nat.le_trans h.only.size h'.only.size, fun k hk hf => ?_⟩
    rw [h'.only.block k (Nat.lt_of_lt_of_le hk h.only.size) ?_]
    · exact h.only.block k hk hf
    · intro hm
      rcases h.own k (by rw [ids_append]; exact List.mem_append_left _ (hF k hm)) with h1 | h1
      · exact hf h1
      · omega
theorem perm_ids {L L' : List Ent} (h : L.Perm L') : (ids L).Perm (ids L') := by
  induction h with
  | nil => exact .refl _
  | cons x _ ih => rw [ids_cons, ids_cons]; exact ih.append_left _
  | swap x y l =>
    rw [ids_cons, ids_cons, ids_cons, ids_cons, ← List.append_assoc, ← List.append_assoc]
    exact List.perm_append_comm.append_right _
  | trans _ _ a b => exact a.trans b
theorem Heap.perm {w0 W : World} {F : List Nat} {L L' : List Ent} (h : Heap w0 F L W) (hp : L.Perm L') : Heap w0 F L' W :=
  ⟨fun E hE => h.ok E (hp.mem_iff.2 hE), (perm_ids hp).nodup_iff.1 h.nd, fun i hi => h.own i ((perm_ids hp).mem_iff.2 hi), h.only⟩
theorem pick_perm {α : Type _} : ∀ (L : List α) (k : Nat) (h : k < L.length), L.Perm (L[k] :: L.eraseIdx k)
  | a :: l, 0, _ => .refl _
  | a :: l, k + 1, h => by
    have := pick_perm l k (by simpa using h)
    exact (this.cons a).trans (.swap _ _ _)
/-- the k-th entry to the head -/
theorem Heap.pick {w0 W : World} {F : List Nat} {L : List Ent} (h : Heap w0 F L W) (k : Nat) {E : Ent} (hk : L[k]? = some E) : Heap w0 F (E :: L.eraseIdx k) W := by
  refine h.perm ?_
  obtain ⟨hlt, rfl⟩ := List.getElem?_eq_some_iff.1 hk
  exact pick_perm L k hlt
/-- the k-th entry is put back where it was -/
theorem Heap.back {w0 W : World} {F : List Nat} {L : List Ent} {E : Ent} (k : Nat) (h : Heap w0 F (E :: L.eraseIdx k) W) (hk : k < L.length) : Heap w0 F (L.set k E) W := by
  refine h.perm ?_
  have : (L.set k E).eraseIdx k = L.eraseIdx k := by
    apply List.ext_getElem?
    intro i
    simp only [List.getElem?_eraseIdx, List.getElem?_set]
    split
    · rw [if_neg (by omega)]
    · rw [if_neg (by omega)]
  rw [← this]
  have h2 := pick_perm (L.set k E) k (by simpa using hk)
  rw [List.getElem_set_self] at h2
  exact h2.symm
theorem Heap.drop {w0 W : World} {F : List Nat} {E : Ent} {L : List Ent} (h : Heap w0 F (E :: L) W) : Heap w0 F L W := by
  have hnd := h.nd
  rw [ids_cons] at hnd
  exact ⟨fun X hX => h.ok X (List.mem_cons_of_mem _ hX), (List.nodup_append.1 hnd).2.1, fun i hi => h.own i (by rw [ids_cons]; exact List.mem_append_right _ hi), h.only⟩
theorem Heap.drops {w0 W : World} {F : List Nat} {A L : List Ent} (h : Heap w0 F (A ++ L) W) : Heap w0 F A W := by
  have hnd := h.nd
  rw [ids_append] at hnd
  exact ⟨fun X hX => h.ok X (List.mem_append_left _ hX), (List.nodup_append.1 hnd).1, fun i hi => h.own i (by rw [ids_append]; exact List.mem_append_left _ hi), h.only⟩
theorem Heap.clear {w0 W : World} {F : List Nat} {L : List Ent} (h : Heap w0 F L W) : Heap w0 F [] W := ⟨by simp, by simp [ids], by simp [ids], h.only⟩
theorem Heap.below {w0 W : World} {L : List Ent} (h : Heap w0 [] L W) : Below w0.heap.size w0 W := h.only.below
/-- the k-th entry is replaced, by what changes its blocks alone -/
theorem Heap.at {w0 W W' : World} {F F' : List Nat} {L : List Ent} (h : Heap w0 F L W) (k : Nat) {E E' : Ent} (hk : L[k]? = some E) (h' : Heap W F' [E'] W') (hF : ∀ i ∈ F', i ∈ E.ids) : Heap w0 F (L.set k E') W' := by
  obtain ⟨hlt, _⟩ := List.getElem?_eq_some_iff.1 hk
  have h1 : Heap w0 F ([E] ++ L.eraseIdx k) W := h.pick k hk
  exact (h1.step h' (by simpa [ids] using hF)).back k hlt
theorem Heap.whole {w0 W W' : World} {F : List Nat} {A A' : List Ent} (h : Heap w0 F A W) (h' : Heap W (ids A) A' W') : Heap w0 F A' W' := by
  have := Heap.step (L := []) (by simpa using h) h' (fun _ hi => hi)
  simpa using this
/-- a call that makes memory alone -/
theorem Heap.more {w0 W W' : World} {F : List Nat} {A L : List Ent} (h : Heap w0 F L W) (h' : Heap W [] A W') : Heap w0 F (A ++ L) W' := Heap.step (A := []) (by simpa using h) h' (by simp)
theorem Heap.same {w0 W W' : World} {F : List Nat} {L : List Ent} (h : Heap w0 F L W) (h' : Only [] W W') : Heap w0 F L W' := h.more (A := []) ⟨by simp, by simp [ids], by simp [ids], h'⟩
theorem Heap.drew {w0 W : World} {F : List Nat} {L : List Ent} (h : Heap w0 F L W) : Heap w0 F L W.drew := h.same ⟨rfl, rfl, rfl, Nat.le_refl _, fun _ _ _ => rfl⟩
/-! entries -/
theorem arr_lt {α : Type} {a : Array α} {i : Nat} {x : α} (h : a[i]? = some x) : i < a.size := (Array.getElem?_eq_some_iff.1 h).1
/-- a block known whole -/
def blk (b : Nat) (cs : List Value) (T : TypeId) : Ent :=
  ⟨[b], fun W => W.heap[b]? = some (.cells cs.toArray T (0, 0)), fun W h i hi => by rw [List.mem_singleton.1 hi]; exact arr_lt h, fun W W' h hk => by rw [h b (by simp)]; exact hk⟩
/-- a row at the head of block b, xs in its first cells (nothing is said of an empty one) -/
def vec {α : Type} (enc : α → Value) (b : Nat) (xs : List α) (T : TypeId) : Ent :=
  ⟨if xs.length = 0 then [] else [b], fun W => xs.length ≠ 0 → ∃ rest : List Value, W.heap[b]? = some (.cells (xs.map enc ++ rest).toArray T (0, 0)), by
    intro W h i hi
    by_cases h0 : xs.length = 0
    · rw [if_pos h0] at hi; simp at hi
    · rw [if_neg h0] at hi
      obtain ⟨r, hr⟩ := h h0
      rw [List.mem_singleton.1 hi]; exact arr_lt hr, by
    intro W W' h hk h0
    rw [h b (by rw [if_neg h0]; simp)]; exact hk h0⟩
/-- a row of the call's own, that may be appended to -/
def own (v : Value) (xs : List Value) (T : TypeId) : Ent :=
  ⟨v.ownBlock.toList, fun W => W.ownsRow 0 T 1 v xs.length xs, by
    intro W h i hi
    exact (h.lt i (by simpa using hi)).2, by
    intro W W' h hk
    refine ⟨hk.1, ?_⟩
    rcases hk.2 with h1 | ⟨g, cap, cur, rfl, hg, hh, r⟩
    · exact .inl h1
    · refine .inr ⟨g, cap, cur, rfl, hg, ?_, r⟩
      rw [h g (by simp [Value.ownBlock])]; exact hh⟩
theorem Heap.blk_get {w0 W : World} {F : List Nat} {L : List Ent} (h : Heap w0 F L W) (j : Nat) {b : Nat} {cs : List Value} {T : TypeId} (hj : L[j]? = some (blk b cs T)) : W.heap[b]? = some (.cells cs.toArray T (0, 0)) :=
  h.ok _ (List.mem_of_getElem? hj)
theorem Heap.vec_get {α : Type} {enc : α → Value} {w0 W : World} {F : List Nat} {L : List Ent} (h : Heap w0 F L W) (j : Nat) {b : Nat} {xs : List α} {T : TypeId} (hj : L[j]? = some (vec enc b xs T)) (h0 : xs.length ≠ 0) :
    ∃ rest : List Value, W.heap[b]? = some (.cells (xs.map enc ++ rest).toArray T (0, 0)) := h.ok _ (List.mem_of_getElem? hj) h0
theorem vec_cell {α : Type} {enc : α → Value} {W : World} {b : Nat} {xs : List α} {T : TypeId} {rest : List Value} (h : W.heap[b]? = some (.cells (xs.map enc ++ rest).toArray T (0, 0))) {i : Nat} {x : α} (hx : xs[i]? = some x) : W.cell? ⟨b, i, none⟩ = some (enc x) := by
  rw [Joins.cell_of_block h]
  have hi : i < xs.length := (List.getElem?_eq_some_iff.1 hx).1
  simp only [List.getElem?_toArray]
  rw [List.getElem?_append_left (by simpa using hi), List.getElem?_map, hx]; rfl
theorem heap_set {W : World} {b i : Nat} {cs : List Value} {T : TypeId} {u : Value} (h : W.heap[b]? = some (.cells cs.toArray T (0, 0))) : (W.setCell ⟨b, i, none⟩ u).heap[b]? = some (.cells (cs.set i u).toArray T (0, 0)) := by
  have := heap_setCell_same W b i cs.toArray T u h
  rw [this]; simp
theorem only_set (W : World) (b i : Nat) (u : Value) : Only [b] W (W.setCell ⟨b, i, none⟩ u) :=
  ⟨rfl, rfl, rfl, by simp [World.setCell], fun k hk hf => Below.heap_setCell _ _ _ _ (by intro e; exact hf (by simp [e]))⟩
theorem Heap.blk_set {w0 W : World} {F : List Nat} {L : List Ent} (h : Heap w0 F L W) (j : Nat) {b i : Nat} {cs : List Value} {T : TypeId} {u : Value} (hj : L[j]? = some (blk b cs T)) : Heap w0 F (L.set j (blk b (cs.set i u) T)) (W.setCell ⟨b, i, none⟩ u) := by
  refine h.at j hj (F' := [b]) ⟨?_, by simp [ids, blk], by simp [ids, blk], only_set W b i u⟩ (by simp [blk])
  intro E hE
  rw [List.mem_singleton.1 hE]
  exact heap_set (h.blk_get j hj)
theorem Heap.vec_set {α : Type} {enc : α → Value} {w0 W : World} {F : List Nat} {L : List Ent} (h : Heap w0 F L W) (j : Nat) {b i : Nat} {xs : List α} {T : TypeId} {x : α} (hj : L[j]? = some (vec enc b xs T)) (hi : i < xs.length) : Heap w0 F (L.set j (vec enc b (xs.set i x) T)) (W.setCell ⟨b, i, none⟩ (enc x)) := by
  have h0 : xs.length ≠ 0 := by omega
  refine h.at j hj (F' := [b]) ⟨?_, by simp [ids, vec, h0], by simp [ids, vec, h0], only_set W b i _⟩ (by simp [vec, h0])
  intro E hE
  rw [List.mem_singleton.1 hE]
  intro _
  obtain ⟨rest, hr⟩ := h.vec_get j hj h0
  refine ⟨rest, ?_⟩
  rw [heap_set hr]
  congr 2
  rw [List.set_append_left _ _ (by simpa using hi)]
  simp
/-- a new block -/
theorem Heap.alloc {w0 W : World} {F : List Nat} {L : List Ent} (h : Heap w0 F L W) (cs : List Value) (T : TypeId) : Heap w0 F (blk W.heap.size cs T :: L) (W.alloc (.cells cs.toArray T)) := by
  refine h.more (A := [blk W.heap.size cs T]) ⟨?_, by simp [ids, blk], by simp [ids, blk], ?_⟩
  · intro E hE
    rw [List.mem_singleton.1 hE]
    exact heap_alloc_new W _
  · exact Only.of_below ((Below.refl _ _).alloc (Nat.le_refl _) _) _
theorem blk_vec {α : Type} (enc : α → Value) (b : Nat) (xs : List α) (rest : List Value) (T : TypeId) {w0 W : World} {F : List Nat} {L : List Ent} {cs : List Value} (h : Heap w0 F (blk b cs T :: L) W) (hc : cs = xs.map enc ++ rest) : Heap w0 F (vec enc b xs T :: L) W := by
  subst hc
  refine Heap.step (A := [blk b (xs.map enc ++ rest) T]) h (A' := [vec enc b xs T]) (F' := [b]) ⟨?_, ?_, ?_, Only.refl _ _⟩ (by simp [ids, blk])
  · intro E hE
    rw [List.mem_singleton.1 hE]
    exact fun _ => ⟨rest, h.ok (blk b (xs.map enc ++ rest) T) (by simp)⟩
  · simp [ids, vec]; split <;> simp
  · intro i hi; simp [ids, vec] at hi; left; simp [hi.2]
end Go.Proofs.Ytlakbclnilakbaa
end

section
namespace Go.Proofs.Ytlakbclnilakbaa
open Go.RowKit
theorem wI {z : Int} (h : -9223372036854775808 ≤ z ∧ z ≤ 9223372036854775807) : IntKind.i64.wrap z = z := IntWalk.i64_in _ h
theorem wU {z : Int} (h : 0 ≤ z ∧ z ≤ 18446744073709551615) : IntKind.u64.wrap z = z := IntWalk.u64_in _ h
theorem add_plain (b o m : Nat) : (⟨b, o, none⟩ : Addr).add m = ⟨b, o + m, none⟩ := by
  unfold Addr.add; split
  · subst_vars; rfl
  · rfl
section
variable {P : Program} {n : Sz} {f : Nat → Value} {W : World} {dst : Option Tmp} {ty : TypeId} {pos : String} {af : Array Edge} {g : Option (Nat × Bool)} {x y : Operand} {v u : Value} {k : IntKind} {a b c d : Int} {t t2 e : TypeId}
theorem r_mv (hx : ev n f x = v) : (execOp (ev n f) ⟨dst, .move x, ty, pos, af, g⟩).run P W = .ok (.value v) W := by simp only [execOp, hx]; rfl
theorem r_as (hx : ev n f x = v) : (execOp (ev n f) ⟨dst, .assign x, ty, pos, af, g⟩).run P W = .ok (.value v) W := by simp only [execOp, hx]; rfl
theorem r_pkT {z : Operand} (hx : ev n f x = .bool true) (hy : ev n f y = v) : (execOp (ev n f) ⟨dst, .pick x y z, ty, pos, af, g⟩).run P W = .ok (.value v) W := by simp only [execOp, hx, hy]; rfl
theorem r_pkF {z : Operand} (hx : ev n f x = .bool false) (hz : ev n f z = v) : (execOp (ev n f) ⟨dst, .pick x y z, ty, pos, af, g⟩).run P W = .ok (.value v) W := by simp only [execOp, hx, hz]; rfl
theorem r_nc {p : Addr} (hx : ev n f x = .pointer (some p)) : (execOp (ev n f) ⟨dst, .nilCheck x, ty, pos, af, g⟩).run P W = .ok (.value (.pointer (some p))) W := by simp only [execOp, hx]; rfl
theorem r_fa {p o m i : Nat} (hx : ev n f x = .pointer (some ⟨p, o, none⟩)) (hf : ∀ (a : Addr) (W : World), (Instr.fieldAt t (.pointer (some a)) i).run P W = .ok (.pointer (some (a.add m))) W) :
    (execOp (ev n f) ⟨dst, .fieldAddr t x i, ty, pos, af, g⟩).run P W = .ok (.value (.pointer (some ⟨p, o + m, none⟩))) W := by
  simp only [execOp, hx, Sem.run_bind, hf, Result.andThen_ok, add_plain]; rfl
theorem r_fa0 {p m i : Nat} (hx : ev n f x = .pointer (some ⟨p, 0, none⟩)) (hf : ∀ (a : Addr) (W : World), (Instr.fieldAt t (.pointer (some a)) i).run P W = .ok (.pointer (some (a.add m))) W) :
    (execOp (ev n f) ⟨dst, .fieldAddr t x i, ty, pos, af, g⟩).run P W = .ok (.value (.pointer (some ⟨p, m, none⟩))) W := by
  have := r_fa (P := P) (W := W) (dst := dst) (ty := ty) (pos := pos) (af := af) (g := g) hx hf
  rw [this, Nat.zero_add]
/-! memory -/
theorem r_lo {L : List Ent} {w0 : World} {F : List Nat} (H : Heap w0 F L W) (j : Nat) {p o : Nat} {cs : List Value} {T : TypeId} (hx : ev n f x = .pointer (some ⟨p, o, none⟩)) (hj : L[j]? = some (blk p cs T)) (hv : cs[o]? = some v)
    (hagg : ∀ W, (isAgg t).run P W = .ok false W) : (execOp (ev n f) ⟨dst, .load t x, ty, pos, af, g⟩).run P W = .ok (.value v) W := by
  have hc : W.cell? ⟨p, o, none⟩ = some v := by rw [Joins.cell_of_block (H.blk_get j hj)]; simpa using hv
  have h2 : (load ⟨p, o, none⟩).run P W = .ok v W := by simp [load, Sem.run, hc]
  simp only [execOp, Instr.loadAt, loadVar, hx, Instr.sureAddr, Sem.run_bind, Sem.run_pure, Result.andThen_ok, hagg, Bool.false_eq_true, if_false, h2]
theorem r_lv {α : Type} {enc : α → Value} {L : List Ent} {w0 : World} {F : List Nat} (H : Heap w0 F L W) (j : Nat) {p i : Nat} {xs : List α} {T : TypeId} {z : α} (hx : ev n f x = .pointer (some ⟨p, i, none⟩)) (hj : L[j]? = some (vec enc p xs T)) (hv : xs[i]? = some z)
    (hagg : ∀ W, (isAgg t).run P W = .ok false W) : (execOp (ev n f) ⟨dst, .load t x, ty, pos, af, g⟩).run P W = .ok (.value (enc z)) W := by
  have h0 : xs.length ≠ 0 := by have := (List.getElem?_eq_some_iff.1 hv).1; omega
  obtain ⟨rest, hr⟩ := H.vec_get j hj h0
  have hc := vec_cell hr hv
  have h2 : (load ⟨p, i, none⟩).run P W = .ok (enc z) W := by simp [load, Sem.run, hc]
  simp only [execOp, Instr.loadAt, loadVar, hx, Instr.sureAddr, Sem.run_bind, Sem.run_pure, Result.andThen_ok, hagg, Bool.false_eq_true, if_false, h2]
/-- a cell of an old block -/
theorem r_lr {L : List Ent} {w0 : World} {F : List Nat} (H : Heap w0 F L W) {p i : Nat} (hx : ev n f x = .pointer (some ⟨p, i, none⟩)) (hc : w0.cell? ⟨p, i, none⟩ = some v) (hF : p ∉ F)
    (hagg : ∀ W, (isAgg t).run P W = .ok false W) : (execOp (ev n f) ⟨dst, .load t x, ty, pos, af, g⟩).run P W = .ok (.value v) W := by
  have hlt : p < w0.heap.size := cell_lt hc
  have hc2 : W.cell? ⟨p, i, none⟩ = some v := by
    rw [World.cell?_of_block (w := w0) (H.only.block p hlt hF)]; exact hc
  have h2 : (load ⟨p, i, none⟩).run P W = .ok v W := by simp [load, Sem.run, hc2]
  simp only [execOp, Instr.loadAt, loadVar, hx, Instr.sureAddr, Sem.run_bind, Sem.run_pure, Result.andThen_ok, hagg, Bool.false_eq_true, if_false, h2]
/-! integers -/
theorem r_add (hx : ev n f x = .int k a) (hy : ev n f y = .int k b) (hr : k.wrap (a + b) = c) : (execOp (ev n f) ⟨dst, .binOp .add t x y t2, ty, pos, af, g⟩).run P W = .ok (.value (.int k c)) W := by
  simp [execOp, hx, hy, eqGuard, binOp, Op.intArith, hr]
theorem r_sub (hx : ev n f x = .int k a) (hy : ev n f y = .int k b) (hr : k.wrap (a - b) = c) : (execOp (ev n f) ⟨dst, .binOp .sub t x y t2, ty, pos, af, g⟩).run P W = .ok (.value (.int k c)) W := by
  simp [execOp, hx, hy, eqGuard, binOp, Op.intArith, hr]
theorem r_mul (hx : ev n f x = .int k a) (hy : ev n f y = .int k b) (hr : k.wrap (a * b) = c) : (execOp (ev n f) ⟨dst, .binOp .mul t x y t2, ty, pos, af, g⟩).run P W = .ok (.value (.int k c)) W := by
  simp [execOp, hx, hy, eqGuard, binOp, Op.intArith, hr]
theorem r_quo (hx : ev n f x = .int k a) (hy : ev n f y = .int k b) (h0 : 0 ≤ a ∧ 0 < b) (hr : k.wrap (a / b) = c) : (execOp (ev n f) ⟨dst, .binOp .quo t x y t2, ty, pos, af, g⟩).run P W = .ok (.value (.int k c)) W := by
  have hb : b ≠ 0 := by omega
  simp [execOp, hx, hy, eqGuard, binOp, Op.intDiv, hb, Int.tdiv_eq_ediv_of_nonneg h0.1, hr]
theorem r_lssT (hx : ev n f x = .int k a) (hy : ev n f y = .int k b) (h : a < b) : (execOp (ev n f) ⟨dst, .binOp .lss t x y t2, ty, pos, af, g⟩).run P W = .ok (.value (.bool true)) W := by
  simp [execOp, hx, hy, eqGuard, binOp, Op.intCmp, h]; try omega
theorem r_lssF (hx : ev n f x = .int k a) (hy : ev n f y = .int k b) (h : ¬ a < b) : (execOp (ev n f) ⟨dst, .binOp .lss t x y t2, ty, pos, af, g⟩).run P W = .ok (.value (.bool false)) W := by
  simp [execOp, hx, hy, eqGuard, binOp, Op.intCmp, h]; try omega
theorem r_leqT (hx : ev n f x = .int k a) (hy : ev n f y = .int k b) (h : a ≤ b) : (execOp (ev n f) ⟨dst, .binOp .leq t x y t2, ty, pos, af, g⟩).run P W = .ok (.value (.bool true)) W := by
  simp [execOp, hx, hy, eqGuard, binOp, Op.intCmp, h]; try omega
theorem r_leqF (hx : ev n f x = .int k a) (hy : ev n f y = .int k b) (h : ¬ a ≤ b) : (execOp (ev n f) ⟨dst, .binOp .leq t x y t2, ty, pos, af, g⟩).run P W = .ok (.value (.bool false)) W := by
  simp [execOp, hx, hy, eqGuard, binOp, Op.intCmp, h]; try omega
theorem r_gtrT (hx : ev n f x = .int k a) (hy : ev n f y = .int k b) (h : b < a) : (execOp (ev n f) ⟨dst, .binOp .gtr t x y t2, ty, pos, af, g⟩).run P W = .ok (.value (.bool true)) W := by
  simp [execOp, hx, hy, eqGuard, binOp, Op.intCmp, h]; try omega
theorem r_gtrF (hx : ev n f x = .int k a) (hy : ev n f y = .int k b) (h : ¬ b < a) : (execOp (ev n f) ⟨dst, .binOp .gtr t x y t2, ty, pos, af, g⟩).run P W = .ok (.value (.bool false)) W := by
  simp [execOp, hx, hy, eqGuard, binOp, Op.intCmp, h]; try omega
theorem r_geqT (hx : ev n f x = .int k a) (hy : ev n f y = .int k b) (h : b ≤ a) : (execOp (ev n f) ⟨dst, .binOp .geq t x y t2, ty, pos, af, g⟩).run P W = .ok (.value (.bool true)) W := by
  simp [execOp, hx, hy, eqGuard, binOp, Op.intCmp, h]; try omega
theorem r_geqF (hx : ev n f x = .int k a) (hy : ev n f y = .int k b) (h : ¬ b ≤ a) : (execOp (ev n f) ⟨dst, .binOp .geq t x y t2, ty, pos, af, g⟩).run P W = .ok (.value (.bool false)) W := by
  simp [execOp, hx, hy, eqGuard, binOp, Op.intCmp, h]; try omega
theorem r_eqlT (hx : ev n f x = .int k a) (hy : ev n f y = .int k b) (h : a = b) : (execOp (ev n f) ⟨dst, .binOp .eql t x y t2, ty, pos, af, g⟩).run P W = .ok (.value (.bool true)) W := by
  simp [execOp, hx, hy, eqGuard, binOp, Op.intCmp, h]; try omega
theorem r_eqlF (hx : ev n f x = .int k a) (hy : ev n f y = .int k b) (h : ¬ a = b) : (execOp (ev n f) ⟨dst, .binOp .eql t x y t2, ty, pos, af, g⟩).run P W = .ok (.value (.bool false)) W := by
  simp [execOp, hx, hy, eqGuard, binOp, Op.intCmp, h]; try omega
theorem r_neqT (hx : ev n f x = .int k a) (hy : ev n f y = .int k b) (h : ¬ a = b) : (execOp (ev n f) ⟨dst, .binOp .neq t x y t2, ty, pos, af, g⟩).run P W = .ok (.value (.bool true)) W := by
  simp [execOp, hx, hy, eqGuard, binOp, Op.intCmp, h]; try omega
theorem r_neqF (hx : ev n f x = .int k a) (hy : ev n f y = .int k b) (h : a = b) : (execOp (ev n f) ⟨dst, .binOp .neq t x y t2, ty, pos, af, g⟩).run P W = .ok (.value (.bool false)) W := by
  simp [execOp, hx, hy, eqGuard, binOp, Op.intCmp, h]; try omega
theorem r_not {q : Bool} (hx : ev n f x = .bool q) : (execOp (ev n f) ⟨dst, .unOp .not t x, ty, pos, af, g⟩).run P W = .ok (.value (.bool (!q))) W := by
  simp [execOp, hx, Op.unary]
theorem r_notT (hx : ev n f x = .bool true) : (execOp (ev n f) ⟨dst, .unOp .not t x, ty, pos, af, g⟩).run P W = .ok (.value (.bool false)) W := r_not hx
theorem r_notF (hx : ev n f x = .bool false) : (execOp (ev n f) ⟨dst, .unOp .not t x, ty, pos, af, g⟩).run P W = .ok (.value (.bool true)) W := r_not hx
theorem r_cv {s : TypeId} {k' : IntKind} (hx : ev n f x = .int k' a) (hs : (P.underlying s).isSome = true) (hd : P.underlying e = some (.int k)) (hr : k.wrap a = c) : (execOp (ev n f) ⟨dst, .convert s e x, ty, pos, af, g⟩).run P W = .ok (.value (.int k c)) W := by
  obtain ⟨d, hd'⟩ := Option.isSome_iff_exists.1 hs
  simp [execOp, hx, convert, run_underlying hd', run_underlying hd, Conv.intToInt, hr]
/-! slices -/
theorem r_len {A : Option Addr} {l c : Nat} (hx : ev n f x = .slice A l c) (h : P.underlying t = some (.slice e)) : (execOp (ev n f) ⟨dst, .call ⟨.builtin .len, #[x], #[t]⟩, ty, pos, af, g⟩).run P W = .ok (.value (.int .i64 l)) W := by
  have h2 : (Builtin.len_ #[t] ty #[.slice A l c]).run P W = .ok (.int .i64 l) W := by simp [Builtin.len_, run_underlying h]; rfl
  have h3 : #[x].map (ev n f) = #[Value.slice A l c] := by simp [hx]
  simp only [execOp, resolve, invoke, builtin, h3, Sem.run_bind, Sem.run_pure, Result.andThen_ok, h2]
theorem r_ix {p o l c : Nat} {i : Nat} {m : Nat} (hx : ev n f x = .slice (some ⟨p, o, none⟩) l c) (hy : ev n f y = .int k a) (ha : a = (i : Int)) (hi : i < l) (h : P.underlying t = some (.slice e)) (hm : ∀ W, (Go.sizeOf e).run P W = .ok m W) :
    (execOp (ev n f) ⟨dst, .indexAddr t x y, ty, pos, af, g⟩).run P W = .ok (.value (.pointer (some ⟨p, o + i * m, none⟩))) W := by
  subst ha
  have h1 : (0 : Int) ≤ i ∧ (i : Int) < l := by omega
  simp only [execOp, Instr.indexAt, hx, hy, asIntOf, Sem.run_bind, run_underlying h, Result.andThen_ok, Sem.run_pure, h1, and_self, if_true, hm, Int.toNat_natCast, add_plain]
/-- of cells of one size -/
theorem r_ix1 {p l c : Nat} {i : Nat} (hx : ev n f x = .slice (some ⟨p, 0, none⟩) l c) (hy : ev n f y = .int k a) (ha : a = (i : Int)) (hi : i < l) (h : P.underlying t = some (.slice e)) (hm : ∀ W, (Go.sizeOf e).run P W = .ok 1 W) :
    (execOp (ev n f) ⟨dst, .indexAddr t x y, ty, pos, af, g⟩).run P W = .ok (.value (.pointer (some ⟨p, i, none⟩))) W := by
  have := r_ix (P := P) (W := W) (dst := dst) (ty := ty) (pos := pos) (af := af) (g := g) hx hy ha hi h hm
  rw [this]; simp
theorem r_ix1o {p o l c : Nat} {i : Nat} (hx : ev n f x = .slice (some ⟨p, o, none⟩) l c) (hy : ev n f y = .int k a) (ha : a = (i : Int)) (hi : i < l) (h : P.underlying t = some (.slice e)) (hm : ∀ W, (Go.sizeOf e).run P W = .ok 1 W) :
    (execOp (ev n f) ⟨dst, .indexAddr t x y, ty, pos, af, g⟩).run P W = .ok (.value (.pointer (some ⟨p, o + i, none⟩))) W := by
  have := r_ix (P := P) (W := W) (dst := dst) (ty := ty) (pos := pos) (af := af) (g := g) hx hy ha hi h hm
  rw [this]; simp
end
/-! what stands under a guard -/
theorem g_on {ops : Array Oper} {n : Sz} {j : Nat} {f : Nat → Value} {dst : Option Tmp} {op : Op} {ty : TypeId} {pos : String} {af : Array Edge} {b : Bool} (t : Nat) (hj : (ops[j]?).bind (·.dst) = some t) (hv : ev n f (.tmp t) = .bool b) : Region.wanted ⟨dst, op, ty, pos, af, some (j, b)⟩ (yl n f ops) = true := by
  simp only [Region.wanted, yl, hj, hv]; simp
theorem g_off {ops : Array Oper} {n : Sz} {j : Nat} {f : Nat → Value} {dst : Option Tmp} {op : Op} {ty : TypeId} {pos : String} {af : Array Edge} {b c : Bool} (t : Nat) (hj : (ops[j]?).bind (·.dst) = some t) (hv : ev n f (.tmp t) = .bool c) (hc : c = !b) : Region.wanted ⟨dst, op, ty, pos, af, some (j, b)⟩ (yl n f ops) = false := by
  subst hc
  simp only [Region.wanted, yl, hj, hv]; simp
theorem g_un {ops : Array Oper} {n : Sz} {j : Nat} {f : Nat → Value} {dst : Option Tmp} {op : Op} {ty : TypeId} {pos : String} {af : Array Edge} {b : Bool} (t : Nat) (hj : (ops[j]?).bind (·.dst) = some t) (hv : ev n f (.tmp t) = undef) : Region.wanted ⟨dst, op, ty, pos, af, some (j, b)⟩ (yl n f ops) = false := by
  simp only [Region.wanted, yl, hj, hv]; simp [undef]
/-! what changes memory -/
section
variable {P : Program} {ops : Array Oper} {rest : List Oper} {n : Sz} {f : Nat → Value} {W w0 : World} {F : List Nat} {L : List Ent} {Q : Exit → Act → World → Prop} {k : Nat} {ty : TypeId} {pos : String} {af : Array Edge} {g : Option (Nat × Bool)} {x y : Operand} {v u : Value} {t e : TypeId}
theorem one_cells {u : Value} (h1 : u.oneCell' = true) : u.cells = #[u] := by cases u <;> simp_all [Value.oneCell', Value.cells]
theorem run_storeAt_cell {p : Addr} {c0 : Value} (hs : ∀ W, (Go.sizeOf t).run P W = .ok 1 W) (hc : W.cell? p = some c0) (hf : W.frozen? p = false) (h1 : u.oneCell' = true) : (Instr.storeAt t (.pointer (some p)) u).run P W = .ok () (W.setCell p u) := by
  have h2 := run_store P W p u .plain h1
  rw [hc] at h2
  simp only [hf, Bool.false_eq_true, if_false] at h2
  have h3 : p.add 0 = p := by simp [Addr.add]
  have h4 : (storeCells p [u]).run P W = .ok () (W.setCell p u) := by
    simp only [storeCells, Sem.run_bind, h3, h2, Result.andThen_ok]; rfl
  simp only [Instr.storeAt, storeVar, Instr.sureAddr, one_cells h1, Sem.run_bind, Sem.run_pure, Result.andThen_ok, hs]
  exact h4
theorem s_st (H : Heap w0 F L W) (j : Nat) {p o : Nat} {cs : List Value} {T : TypeId} {c0 : Value} (hw : Region.wanted ⟨none, .store t x y, ty, pos, af, g⟩ (yl n f ops) = true) (hx : ev n f x = .pointer (some ⟨p, o, none⟩)) (hy : ev n f y = u) (hj : L[j]? = some (blk p cs T)) (hv : cs[o]? = some c0) (h1 : u.oneCell' = true) (hs : ∀ W, (Go.sizeOf t).run P W = .ok 1 W)
    (h : ∀ W', Heap w0 F (L.set j (blk p (cs.set o u) T)) W' → SL P ops Q rest n f W') : SL P ops Q (⟨none, .store t x y, ty, pos, af, g⟩ :: rest) n f W := by
  have hg := H.blk_get j hj
  have hc : W.cell? ⟨p, o, none⟩ = some c0 := by rw [Joins.cell_of_block hg]; simpa using hv
  have hr := run_storeAt_cell (P := P) (t := t) hs hc (frozen_of_row W p o cs.toArray T hg) h1
  exact s_do (W' := W.setCell ⟨p, o, none⟩ u) rfl hw (by simp only [execOp, hx, hy, Sem.run_bind, hr, Result.andThen_ok]; rfl) (h _ (H.blk_set j hj))
theorem s_sv {α : Type} {enc : α → Value} (H : Heap w0 F L W) (j : Nat) {p i : Nat} {xs : List α} {T : TypeId} {z : α} (hw : Region.wanted ⟨none, .store t x y, ty, pos, af, g⟩ (yl n f ops) = true) (hx : ev n f x = .pointer (some ⟨p, i, none⟩)) (hy : ev n f y = u) (hj : L[j]? = some (vec enc p xs T)) (hz : u = enc z) (hi : i < xs.length) (h1 : ∀ q, (enc q).oneCell' = true) (hs : ∀ W, (Go.sizeOf t).run P W = .ok 1 W)
    (h : ∀ W', Heap w0 F (L.set j (vec enc p (xs.set i z) T)) W' → SL P ops Q rest n f W') : SL P ops Q (⟨none, .store t x y, ty, pos, af, g⟩ :: rest) n f W := by
  subst hz
  obtain ⟨rs, hg⟩ := H.vec_get j hj (by omega)
  have hc := vec_cell hg (List.getElem?_eq_getElem hi)
  have hr := run_storeAt_cell (P := P) (t := t) (u := enc z) hs hc (frozen_of_row W p i _ T hg) (h1 z)
  exact s_do (W' := W.setCell ⟨p, i, none⟩ (enc z)) rfl hw (by simp only [execOp, hx, hy, Sem.run_bind, hr, Result.andThen_ok]; rfl) (h _ (H.vec_set j hj hi))
/-! calls -/
theorem s_call {R : Ending → World → Prop} {fn : FuncId} {xs : Array Operand} {tys : Array TypeId} {vs : List Value} (hw : Region.wanted ⟨some k, .call ⟨.value (.func fn), xs, tys⟩, ty, pos, af, g⟩ (yl n f ops) = true)
    (hc : Calls P fn vs.toArray W R) (hrun : ∀ W, (execOp (ev n f) ⟨some k, .call ⟨.value (.func fn), xs, tys⟩, ty, pos, af, g⟩).run P W = .ok (.enter fn vs.toArray) W)
    (h : ∀ e W', R e W' → ∃ v, e = .returned v ∧ SL P ops Q rest n (upd f k v) W') : SL P ops Q (⟨some k, .call ⟨.value (.func fn), xs, tys⟩, ty, pos, af, g⟩ :: rest) n f W :=
  s_enter rfl hw (hrun W) hc h
theorem run_callFunc {fn : FuncId} {F : Func} (hf : P.funcs[fn]? = some F) (hn : (F.name == "runtime.NumGoroutine") = false) (hb : F.body.isNone = false) (vs : Array Value) : (callFunc fn vs).run P W = .ok (.enter fn vs) W := by
  unfold callFunc
  rw [Sem.run_bind]
  have hp : (program : Sem Program).run P W = .ok P W := rfl
  rw [hp, Result.andThen_ok]
  simp only [hf, hn, hb, Bool.false_eq_true, if_false]
  rfl
theorem r_call {fn : FuncId} {F : Func} {xs : Array Operand} {tys : Array TypeId} {dst : Option Tmp} {vs : List Value} (hf : P.funcs[fn]? = some F) (hn : (F.name == "runtime.NumGoroutine") = false) (hb : F.body.isNone = false)
    (hv : xs.toList.map (ev n f) = vs) (W : World) : (execOp (ev n f) ⟨dst, .call ⟨.value (.func fn), xs, tys⟩, ty, pos, af, g⟩).run P W = .ok (.enter fn vs.toArray) W := by
  subst hv
  have h3 : xs.map (ev n f) = (xs.toList.map (ev n f)).toArray := by rw [← Array.toList_map]
  simp only [execOp, resolve, Deferred.ofValue, ev, invoke, Sem.run_bind, Sem.run_pure, Result.andThen_ok, h3]
  have h4 : (#[] : Array Value) ++ (xs.toList.map (ev n f)).toArray ++ #[] = (xs.toList.map (ev n f)).toArray := by simp
  rw [h4, run_callFunc hf hn hb]
end
end Go.Proofs.Ytlakbclnilakbaa
end

section
namespace Go.Proofs.Ytlakbclnilakbaa
open Go.RowKit
section
variable {P : Program} {ops : Array Oper} {md : Region.Mode} {C : World → Prop}
end
theorem wpQuiet_mono {P : Program} {ops : Array Oper} {C : World → Prop} {Q Q' : Act → Prop} (hq : ∀ a, Q a → Q' a) : ∀ (l : List Oper) (a : Act), wpQuiet P ops C Q l a → wpQuiet P ops C Q' l a
  | [], a, h => hq a h
  | o :: l, a, h => by
    unfold wpQuiet at *
    split
    · rename_i hw; rw [if_pos hw] at h; exact Oper.quiet_mono (wpQuiet_mono hq l) h
    · rename_i hw; rw [if_neg hw] at h; exact wpQuiet_mono hq l _ h
section
variable {P : Program} {ops : Array Oper} {rest l : List Oper} {n : Sz} {k id : Nat} {f : Nat → Value} {W w0 : World} {F : List Nat} {L : List Ent} {Q : Exit → Act → World → Prop} {a : Act} {v : Value} {o : Oper} {Qa : Act → Prop} {C : World → Prop}
structure QL (P : Program) (ops : Array Oper) (C : World → Prop) (Qa : (Nat → Value) → Prop) (l : List Oper) (n : Sz) (f : Nat → Value) : Prop where
  out : wpQuiet P ops C (fun a => ∃ f', a = Fn n f' ∧ Qa f') l (Fn n f)
theorem k_q (hm : P.follows .mixedOrders = true) (hB : Region.lexB .any l.toArray = true) (H : Heap w0 F L W)
    (h : QL P l.toArray (fun W => Heap w0 F L W) (fun f' => ∀ W', Heap w0 F L W' → PQ Q .normal n f' W') l n f) : CW P (Code.region id l.toArray true) Q n f W :=
  .alone rfl (wp_region_quiet hm hB H.drew (by
    refine wpQuiet_mono ?_ _ _ (by simpa using h.out)
    rintro a ⟨f', rfl, h2⟩ W' hW'
    exact (h2 W' hW').out))
theorem q_nil {Qa : (Nat → Value) → Prop} (h : Qa f) : QL P ops C Qa [] n f := ⟨⟨f, rfl, h⟩⟩
theorem q_run {Qa : (Nat → Value) → Prop} (hd : o.dst = some k) (hw : Region.wanted o (yl n f ops) = true) (hr : ∀ W, C W → (execOp (ev n f) o).run P W = .ok (.value v) W) (h : QL P ops C Qa rest n (upd f k v)) : QL P ops C Qa (o :: rest) n f := by
  constructor
  have hy : yielded ops (Fn n f).tmps = yl n f ops := funext (yl_eq n f ops)
  unfold wpQuiet
  rw [hy, if_pos hw]
  refine ⟨v, fun W hW => ?_, by rw [hd, Fn_put]; exact h.out⟩
  unfold Oper.quietAt
  rw [Fn_eval, hr W hW]
  exact ⟨rfl, rfl⟩
theorem q_off {Qa : (Nat → Value) → Prop} (hd : o.dst = some k) (hw : Region.wanted o (yl n f ops) = false) (h : QL P ops C Qa rest n (upd f k undef)) : QL P ops C Qa (o :: rest) n f := by
  constructor
  have hy : yielded ops (Fn n f).tmps = yl n f ops := funext (yl_eq n f ops)
  unfold wpQuiet
  rw [hy, hw, hd, Fn_put]
  exact h.out
end
end Go.Proofs.Ytlakbclnilakbaa
end

section
namespace Go.Proofs.Ytlakbclnilakbaa
open Go.RowKit
structure Inf (P : Program) (e : TypeId) (z : Value) (size bytes : Nat) : Prop where
  ex : ∃ i, P.info? e = some i ∧ i.zero = some z ∧ i.size = size ∧ i.bytes = bytes
theorem inf_of {P : Program} {e : TypeId} {z : Value} {size bytes : Nat} (h : (P.info? e).map (fun i => (i.zero, i.size, i.bytes)) = some (some z, size, bytes)) : Inf P e z size bytes := by
  cases hi : P.info? e with
  | none => rw [hi] at h; simp at h
  | some i => rw [hi] at h; simp at h; exact ⟨i, hi, h.1, h.2.1, h.2.2⟩
section
variable {P : Program} {W w0 : World} {F : List Nat} {L : List Ent}
theorem app_run (t ty e : TypeId) {z : Value} {size bytes : Nat} (ht : P.underlying t = some (.slice e)) (hi : Inf P e z size bytes) (hzs : z.cells.size = size) (hsz : 0 < size)
    (v : Value) (n : Nat) (xs : List Value) (hown : W.ownsRow 0 e size v n xs) (a : Addr) (m c : Nat) (news : List Value) (hl : news.length = m * size) (hnews : ∀ j u, news[j]? = some u → W.cell? (a.add j) = some u) (h1 : ∀ u ∈ news, u.oneCell' = true)
    (h63 : n + m ≤ maxLen) (hbytes : (n + m) * bytes ≤ 140737488355328) :
    ∃ v' W', (Builtin.append_ #[t, t] ty #[v, .slice (some a) m c]).run P W = .ok v' W' ∧ W'.ownsRow 0 e size v' (n + m) (xs ++ news) ∧ W.grownBy W' v.ownBlock ∧ (∀ k, v'.ownBlock = some k → v.ownBlock = some k ∨ W.heap.size ≤ k) := by
  obtain ⟨i, hi, hz, hs, hb⟩ := hi.ex
  obtain ⟨v', W', hr, h2, h3, _⟩ := run_append_own (P := P) W 0 t ty e i z size bytes ht hi hz hs hb hzs hsz v n xs hown a m c news hl hnews h1 h63 hbytes (Nat.zero_le _)
  refine ⟨v', W', hr, h2, h3, ?_⟩
  rcases hown.2 with ⟨rfl, rfl⟩ | ⟨g, cap, cur, rfl, _, hg, hnc, hcm, hcs, htake⟩
  · obtain rfl : xs = [] := List.eq_nil_of_length_eq_zero (by simpa using hown.1)
    obtain ⟨v2, W2, hr2, h22, _, _⟩ := run_append_own (P := P) W W.heap.size t ty e i z size bytes ht hi hz hs hb hzs hsz (.slice none 0 0) 0 [] (World.ownsRow_nil W _ e size) a m c news hl hnews h1 h63 hbytes (Nat.le_refl _)
    rw [hr] at hr2
    injection hr2 with e1 e2
    subst e1; subst e2
    exact fun k hk => .inr (h22.lt k hk).1
  · by_cases hroom : n + m ≤ cap
    · have hfit : n * i.size + news.length ≤ cur.size := by rw [hl, hcs, hs, ← Nat.add_mul]; exact Nat.mul_le_mul_right _ hroom
      have hr2 := run_append_room (P := P) W t ty e i ht hi g n cap cur hg a m c news (by rw [hs]; exact hl) hnews h1 hroom hfit
      rw [hr] at hr2
      injection hr2 with e1 e2
      subst e1
      exact fun k hk => .inl hk
    · obtain ⟨v2, W2, hr2, h22, _⟩ := run_append_arg_grows (P := P) W t ty e i z size bytes ht hi hz hs hb hzs hsz ⟨g, 0, none⟩ n cap xs hown.1 (hown.cells (g := g) rfl) a m c news hl hnews (by omega) h63 hbytes
      rw [hr] at hr2
      injection hr2 with e1 e2
      subst e1; subst e2
      exact fun k hk => .inr (h22.lt k hk).1
/-- rows of cells of a size -/
def ownN (size : Nat) (v : Value) (n : Nat) (xs : List Value) (T : TypeId) : Ent :=
  ⟨v.ownBlock.toList, fun W => W.ownsRow 0 T size v n xs, by
    intro W h i hi
    exact (h.lt i (by simpa using hi)).2, by
    intro W W' h hk
    refine ⟨hk.1, ?_⟩
    rcases hk.2 with h1 | ⟨g, cap, cur, rfl, hg, hh, r⟩
    · exact .inl h1
    · refine .inr ⟨g, cap, cur, rfl, hg, ?_, r⟩
      rw [h g (by simp [Value.ownBlock])]; exact hh⟩
theorem nodup_opt (o : Option Nat) : (o.toList).Nodup := by cases o <;> simp
theorem Heap.app {size n m : Nat} {v v' : Value} {xs news : List Value} {T : TypeId} {W' : World} (H : Heap w0 F L W) (j : Nat) (hj : L[j]? = some (ownN size v n xs T)) (h1 : W'.ownsRow 0 T size v' (n + m) (xs ++ news)) (h2 : W.grownBy W' v.ownBlock)
    (h3 : ∀ k, v'.ownBlock = some k → v.ownBlock = some k ∨ W.heap.size ≤ k) : Heap w0 F (L.set j (ownN size v' (n + m) (xs ++ news) T)) W' := by
  refine H.at j hj (F' := v.ownBlock.toList) ⟨?_, ?_, ?_, ?_⟩ (fun i hi => hi)
  · intro E hE; rw [List.mem_singleton.1 hE]; exact h1
  · simp only [ids, ownN, List.flatMap_cons, List.flatMap_nil, List.append_nil]; exact nodup_opt _
  · intro i hi
    simp only [ids, ownN, List.flatMap_cons, List.flatMap_nil, List.append_nil, Option.mem_toList] at hi
    rcases h3 i hi with h | h
    · left; simpa using h
    · exact .inr h
  · exact ⟨h2.os, h2.tape, h2.output, h2.size, fun k hk hf => h2.block k hk (by intro e; apply hf; rw [← e]; simp)⟩
theorem Heap.own_get {size n : Nat} {v : Value} {xs : List Value} {T : TypeId} (H : Heap w0 F L W) (j : Nat) (hj : L[j]? = some (ownN size v n xs T)) : W.ownsRow 0 T size v n xs := H.ok _ (List.mem_of_getElem? hj)
/-- nil is a row of nothing -/
theorem Heap.own_nil (H : Heap w0 F L W) (size : Nat) (T : TypeId) : Heap w0 F (ownN size (.slice none 0 0) 0 [] T :: L) W := by
  refine Heap.more (A := [ownN size (.slice none 0 0) 0 [] T]) H ⟨?_, by simp [ids, ownN, Value.ownBlock], by simp [ids, ownN, Value.ownBlock], Only.refl _ _⟩
  intro E hE; rw [List.mem_singleton.1 hE]; exact World.ownsRow_nil W 0 T size
theorem madeCells_one (z : Value) (n : Nat) (h1 : z.cells = #[z]) : madeCells z.cells n = (List.replicate n z).toArray := by
  apply Array.ext_getElem?
  intro i
  simp only [madeCells, h1, Array.getElem?_map, Array.getElem?_range, List.getElem?_toArray, List.getElem?_replicate]
  by_cases hi : i < n
  · simp [hi, Nat.mod_one]
  · simp [hi]
theorem Heap.made {α : Type} {enc : α → Value} (H : Heap w0 F L W) (n : Nat) (z : α) (T : TypeId) : Heap w0 F (vec enc W.heap.size (List.replicate n z) T :: L) (W.alloc (.cells (List.replicate n (enc z)).toArray T)) :=
  blk_vec enc _ _ [] T (H.alloc (List.replicate n (enc z)) T) (by simp)
end
section
variable {P : Program} {ops : Array Oper} {rest : List Oper} {n : Sz} {k k2 : Nat} {f : Nat → Value} {W w0 : World} {F : List Nat} {L : List Ent} {Q : Exit → Act → World → Prop} {ty ty2 : TypeId} {pos pos2 : String} {af af2 : Array Edge} {g : Option (Nat × Bool)} {x y s : Operand} {v u : Value} {t e : TypeId}
/-- make([]T, n) -/
theorem s_mk {α : Type} (enc : α → Value) (z : α) {kl kc : IntKind} {a b : Int} (m : Nat) {bytes : Nat} (H : Heap w0 F L W) (hw : Region.wanted ⟨some k, .makeSlice t x y, ty, pos, af, g⟩ (yl n f ops) = true)
    (hx : ev n f x = .int kl a) (hy : ev n f y = .int kc b) (ha : a = (m : Int)) (hb : b = (m : Int)) (hm : m * bytes ≤ 140737488355328 ∧ m ≤ 9223372036854775807) (ht : P.underlying t = some (.slice e)) (hi : Inf P e (enc z) 1 bytes) (h1 : (enc z).oneCell' = true)
    (h : ∀ p W', Heap w0 F (vec enc p (List.replicate m z) e :: L) W' → SL P ops Q rest n (upd f k (.slice (some ⟨p, 0, none⟩) m m)) W') : SL P ops Q (⟨some k, .makeSlice t x y, ty, pos, af, g⟩ :: rest) n f W := by
  subst ha; subst hb
  obtain ⟨i, hi, hz, hs, hby⟩ := hi.ex
  have hb' : (i.bytes : Int) * (m : Int) ≤ 281474976710656 := by
    have h2 : ((i.bytes * m : Nat) : Int) ≤ 281474976710656 := by rw [hby, Nat.mul_comm]; omega
    rwa [Int.natCast_mul] at h2
  have hr := run_make (P := P) W t e i (enc z) ht hi hz kl kc m m (by omega) (Int.le_refl _) hb' (by omega)
  simp only [Int.toNat_natCast, hs, Nat.mul_one, madeCells_one _ _ (one_cells h1)] at hr
  exact s_run rfl hw (W' := W.alloc (.cells (List.replicate m (enc z)).toArray e)) (by simp only [execOp, hx, hy, Sem.run_bind, hr, Result.andThen_ok]; rfl) (h _ _ (H.made m z e))
/-- &T{..} -/
theorem s_box {cs : List Value} (H : Heap w0 F L W) (hw : Region.wanted ⟨some k, .box t x, ty, pos, af, g⟩ (yl n f ops) = true) (hx : ev n f x = .agg cs.toArray)
    (h : ∀ p W', Heap w0 F (blk p cs t :: L) W' → SL P ops Q rest n (upd f k (.pointer (some ⟨p, 0, none⟩))) W') : SL P ops Q (⟨some k, .box t x, ty, pos, af, g⟩ :: rest) n f W :=
  s_run rfl hw (W' := W.alloc (.cells cs.toArray t)) (by simp only [execOp, hx]; rfl) (h _ _ (H.alloc cs t))
/-- append(s, y): s the call's own, y one value -/
theorem s_app1 {α : Type} {enc : α → Value} {z0 : Value} {bytes m : Nat} {xs : List α} {z : α} (H : Heap w0 F L W) (j : Nat) (hj : L[j]? = some (ownN 1 v m (xs.map enc) e))
    (hw : Region.wanted ⟨some k, .buildSlice t 1 #[(0, x)], ty, pos, af, g⟩ (yl n f ops) = true) (hx : ev n f x = enc z) (h1 : (enc z).oneCell' = true)
    (hw2 : Region.wanted ⟨some k2, .call ⟨.builtin .append, #[s, .tmp k], #[t, t]⟩, ty2, pos2, af2, g⟩ (yl n (upd f k (.slice (some ⟨W.heap.size, 0, none⟩) 1 1)) ops) = true) (hs : ev n (upd f k (.slice (some ⟨W.heap.size, 0, none⟩) 1 1)) s = v) (hk : Nat.blt k n.n = true)
    (hm : m + 1 ≤ 100000000000 ∧ (m + 1) * bytes ≤ 140737488355328) (ht : P.underlying t = some (.slice e)) (hi : Inf P e z0 1 bytes) (hz : z0.oneCell' = true)
    (h : ∀ q A c W', Heap w0 F (L.set j (ownN 1 (.slice A (m + 1) c) (m + 1) ((xs ++ [z]).map enc) e)) W' → SL P ops Q rest n (upd (upd f k q) k2 (.slice A (m + 1) c)) W') :
    SL P ops Q (⟨some k, .buildSlice t 1 #[(0, x)], ty, pos, af, g⟩ :: ⟨some k2, .call ⟨.builtin .append, #[s, .tmp k], #[t, t]⟩, ty2, pos2, af2, g⟩ :: rest) n f W := by
  obtain ⟨i, hi0, hz0, hsz, hby⟩ := hi.ex
  have hu := one_cells h1
  have r1 : (Instr.buildSlice t 1 #[(0, enc z)]).run P W = .ok (.slice (some ⟨W.heap.size, 0, none⟩) 1 1) (W.alloc (.cells [enc z].toArray e)) := by
    have hrg : Array.range 1 = #[0] := rfl
    simp [Instr.buildSlice, run_underlying ht, Go.sizeOf, typeInfo, hi0, hsz, zeroValue, hz0, one_cells hz, Instr.fill, hu, newRow, hrg]
  refine s_run rfl hw (W' := W.alloc (.cells [enc z].toArray e)) (v := .slice (some ⟨W.heap.size, 0, none⟩) 1 1) (by simp only [execOp, List.map_toArray, List.map_cons, List.map_nil, hx, Sem.run_bind, r1, Result.andThen_ok]; rfl) ?_
  have H2 := H.alloc [enc z] e
  obtain ⟨v', W2, hr, o1, o2, o3⟩ := app_run (P := P) t ty2 e ht hi (by simp [one_cells hz]) (by omega) v m (xs.map enc) (H2.own_get (j + 1) (by simpa using hj)) ⟨W.heap.size, 0, none⟩ 1 1 [enc z] rfl
    (fun q u hq => by
      rw [add_plain]
      have hc := (Heap.blk_get H2 0 rfl)
      rw [Joins.cell_of_block hc]
      simpa using hq) (by simpa using h1) (by unfold maxLen; omega) hm.2
  have H3 := (H2.app (j + 1) (by simpa using hj) (m := 1) o1 o2 o3)
  rw [List.set_cons_succ] at H3
  obtain ⟨A', c', rfl⟩ : ∃ A c, v' = .slice A (m + 1) c := by
    rcases o1.2 with ⟨rfl, h0⟩ | ⟨g, cap, cur, rfl, _⟩
    · omega
    · exact ⟨_, _, rfl⟩
  have hkk : ev n (upd f k (.slice (some ⟨W.heap.size, 0, none⟩) 1 1)) (.tmp k) = .slice (some ⟨W.heap.size, 0, none⟩) 1 1 := by simp [ev, hk, upd]
  refine s_run rfl hw2 (W' := W2) (v := .slice A' (m + 1) c') (by
    simp only [execOp, resolve, invoke, builtin, List.map_toArray, List.map_cons, List.map_nil, hs, hkk, Sem.run_bind, Sem.run_pure, Result.andThen_ok, hr]) (h _ A' c' W2 ?_)
  have H4 := H3.drop
  rwa [List.map_append]
/-- built values -/
theorem r_bd {parts : Array (Nat × Operand)} {vs : List (Nat × Value)} {cs : List Value} {dst : Option Tmp} (hb : ∀ W, (Instr.build t vs.toArray).run P W = .ok (.agg cs.toArray) W) (hv : parts.toList.map (fun p => (p.1, ev n f p.2)) = vs) :
    (execOp (ev n f) ⟨dst, .build t parts, ty, pos, af, g⟩).run P W = .ok (.value (.agg cs.toArray)) W := by
  subst hv
  have h3 : (parts.map fun p => (p.1, ev n f p.2)) = (parts.toList.map (fun p => (p.1, ev n f p.2))).toArray := by rw [← Array.toList_map]
  have h4 : (parts.map fun | (i, x) => (i, ev n f x)) = (parts.toList.map (fun p => (p.1, ev n f p.2))).toArray := h3
  simp only [execOp, Sem.run_bind]
  rw [h4, hb, Result.andThen_ok]; rfl
end
section
variable {P : Program} {ops : Array Oper} {l : List Oper} {n : Sz} {k id fuel : Nat} {f : Nat → Value} {W : World} {Q : Exit → Act → World → Prop} {v : Value} {o : Oper} {S : World → Prop} {listed : Array Bool}
/-- code whose ends are brought together -/
theorem k_cut {c : Code} (R : (Nat → Value) → World → Prop) (h1 : CW P c (fun e a W => e = .normal ∧ ∃ f', a = Fn n f' ∧ R f' W) n f W) (h2 : ∀ f' W', R f' W' → PQ Q .normal n f' W') : CW P c Q n f W :=
  ⟨Code.wp_mono (by rintro e a W' ⟨rfl, f', rfl, hR⟩; exact (h2 f' W' hR).out) h1.out, fun ho l0 m => Code.wpIn_mono (by rintro e a W' ⟨rfl, f', rfl, hR⟩; exact (h2 f' W' hR).out) (h1.inr ho l0 m)⟩
theorem k_met {R : (Nat → Value) → World → Prop} (h : R f W) : PQ (fun e a W => e = .normal ∧ ∃ f', a = Fn n f' ∧ R f' W) .normal n f W := ⟨rfl, f, rfl, h⟩
structure TR (P : Program) (ops : Array Oper) (Q : Exit → Act → World → Prop) (S : World → Prop) (fuel : Nat) (listed : Array Bool) (n : Sz) (f : Nat → Value) (W : World) : Prop where
  out : wpAnyH P .any ops Q S fuel listed (Fn n f) W
theorem k_trF (hm : P.follows .mixedOrders = true) (h : TR P l.toArray Q (fun _ => True) l.length (Array.replicate l.length false) n f W.drew) : CW P (Code.region id l.toArray true) Q n f W :=
  .alone rfl (wp_region_held hm h.out)
theorem t_take (i : Nat) (hi : ops[i]? = some o) (hs : Region.noSelect ops = true) (hf : Region.free .any ops listed i = true) (hr : (Region.ready .any ops listed).contains i = true) (hd : o.dst = some k)
    (hQ : ∀ c a w v, Q (.panic c) (a.put o.dst v) w → Q (.panic c) a w) (hw : Region.wanted o (yl n f ops) = true) (hv : ∀ W, S W → (execOp (ev n f) o).run P W = .ok (.value v) W) (hS : S W)
    (h : TR P ops Q S fuel (listed.setIfInBounds i true) n (upd f k v) W) : TR P ops Q S (fuel + 1) listed n f W := by
  have hy : yielded ops (Fn n f).tmps = yl n f ops := funext (yl_eq n f ops)
  refine ⟨wpAnyH_take (v := v) hi hs hf hr (fun c a w => hQ c a w v) (Or.inl ⟨by rw [hy]; exact hw, fun W' hW' => by rw [Fn_eval]; exact hv W' hW'⟩) hS ?_⟩
  rw [hd, Fn_put]; exact h.out
theorem t_off (i : Nat) (hi : ops[i]? = some o) (hs : Region.noSelect ops = true) (hf : Region.free .any ops listed i = true) (hr : (Region.ready .any ops listed).contains i = true) (hd : o.dst = some k)
    (hQ : ∀ c a w v, Q (.panic c) (a.put o.dst v) w → Q (.panic c) a w) (hw : Region.wanted o (yl n f ops) = false) (hS : S W)
    (h : TR P ops Q S fuel (listed.setIfInBounds i true) n (upd f k undef) W) : TR P ops Q S (fuel + 1) listed n f W := by
  have hy : yielded ops (Fn n f).tmps = yl n f ops := funext (yl_eq n f ops)
  refine ⟨wpAnyH_take (v := undef) hi hs hf hr (fun c a w => hQ c a w undef) (Or.inr ⟨by rw [hy]; exact hw, rfl⟩) hS ?_⟩
  rw [hd, Fn_put]; exact h.out
/-- operation i comes up -/
def Up (P : Program) (ops : Array Oper) (Q : Exit → Act → World → Prop) (S : World → Prop) (fuel : Nat) (listed : Array Bool) (n : Sz) (f : Nat → Value) (W : World) (i : Nat) : Prop :=
  wpOp P ops Q i (fun a' w' => S w' ∧ wpAnyH P .any ops Q S fuel (listed.setIfInBounds i true) a' w') (Fn n f) W
theorem up_mk {i : Nat} (hi : ops[i]? = some o) (h : SL P ops (Exit.then (fun a' w' => S w' ∧ wpAnyH P .any ops Q S fuel (listed.setIfInBounds i true) a' w') Q) [o] n f W) : Up P ops Q S fuel listed n f W i := by
  unfold Up wpOp
  rw [hi]
  have h2 := h.out
  unfold wpList at h2
  simp only
  split
  · rename_i hw
    rw [if_pos hw] at h2
    rcases h2 with h2 | h2
    · refine .inl ?_
      unfold Oper.wp at h2 ⊢
      generalize (execOp (Fn n f).eval o).run P W = r at h2 ⊢
      cases r with
      | ok m w' =>
        cases m <;> simp only [Oper.upon] at h2 ⊢ <;> first
          | exact h2
          | exact h2.mono (fun e w'' he => by cases e <;> first | exact he | exact he)
          | exact h2.mono (fun _ _ he => he)
      | halt x w' => cases x <;> simp only [Oper.upon] at h2 ⊢ <;> exact h2
    · exact .inr ⟨h2.1, h2.2⟩
  · rename_i hw
    rw [if_neg hw] at h2
    exact h2
theorem t_up1 (i : Nat) (hr : Region.ready .any ops listed = [i]) (h : Up P ops Q S fuel listed n f W i) : TR P ops Q S (fuel + 1) listed n f W :=
  ⟨wpAnyH_all hr (by simp) (fun j hj => by obtain rfl : j = i := by simpa using hj
                                           exact h)⟩
theorem t_up2 (i i2 : Nat) (hr : Region.ready .any ops listed = [i, i2]) (h : Up P ops Q S fuel listed n f W i) (h2 : Up P ops Q S fuel listed n f W i2) : TR P ops Q S (fuel + 1) listed n f W :=
  ⟨wpAnyH_all hr (by simp) (fun j hj => by
    rcases List.mem_cons.1 hj with rfl | hj
    · exact h
    · obtain rfl : j = i2 := by simpa using hj
      exact h2)⟩
/-- behind an operation that came up -/
theorem t_on {i : Nat} (hS : S W) (h : TR P ops Q S fuel (listed.setIfInBounds i true) n f W) : PQ (Exit.then (fun a' w' => S w' ∧ wpAnyH P .any ops Q S fuel (listed.setIfInBounds i true) a' w') Q) .normal n f W := ⟨hS, h.out⟩
theorem t_done (hr : Region.ready .any ops listed = []) (h : PQ Q .normal n f W) : TR P ops Q S fuel listed n f W := ⟨wpAnyH_done hr h.out _⟩
end
end Go.Proofs.Ytlakbclnilakbaa
end

section
namespace Go.Proofs.Ytlakbclnilakbaa
open Go.RowKit
/-- rows of one-celled values that are read -/
def Reads {α : Type} (enc : α → Value) (w : World) (b o : Nat) (xs : List α) : Prop := ∀ i z, xs[i]? = some z → w.cell? ⟨b, o + i, none⟩ = some (enc z)
theorem Heap.reads {α : Type} {enc : α → Value} {w0 W : World} {F : List Nat} {L : List Ent} (H : Heap w0 F L W) (j : Nat) {b : Nat} {xs : List α} {T : TypeId} (hj : L[j]? = some (vec enc b xs T)) (o n : Nat) : Reads enc W b o ((xs.drop o).take n) := by
  intro i z hz
  have hi : i < n := by have := (List.getElem?_eq_some_iff.1 hz).1; simp at this; omega
  rw [List.getElem?_take_of_lt hi, List.getElem?_drop] at hz
  have h0 : xs.length ≠ 0 := by have := (List.getElem?_eq_some_iff.1 hz).1; omega
  obtain ⟨rs, hr⟩ := H.vec_get j hj h0
  exact vec_cell hr hz
/-- a slice that reads as a list, out of blocks that are not of F; nil, if it is empty -/
def Sees {α : Type} (enc : α → Value) (w : World) (F : List Nat) (A : Option Addr) (xs : List α) : Prop := xs.length ≠ 0 → ∃ b o, A = some ⟨b, o, none⟩ ∧ b ∉ F ∧ Reads enc w b o xs
theorem Sees.nil {α : Type} {enc : α → Value} {w : World} {F : List Nat} {A : Option Addr} : Sees enc w F A ([] : List α) := fun h => absurd rfl h
theorem Reads.later {α : Type} {enc : α → Value} {w W : World} {F : List Nat} {b o : Nat} {xs : List α} (h : Reads enc w b o xs) (hO : Only F w W) (hb : b ∉ F) : Reads enc W b o xs := by
  intro i z hz
  have hc := h i z hz
  rw [World.cell?_of_block (w := w) (hO.block b (cell_lt hc) hb)]; exact hc
theorem Sees.later {α : Type} {enc : α → Value} {w W : World} {F G : List Nat} {A : Option Addr} {xs : List α} (h : Sees enc w F A xs) (hO : Only G w W) (hG : ∀ i ∈ G, i ∈ F) : Sees enc W F A xs := by
  intro h0
  obtain ⟨b, o, e, hb, hr⟩ := h h0
  exact ⟨b, o, e, hb, hr.later hO fun hm => hb (hG b hm)⟩
theorem Sees.mono {α : Type} {enc : α → Value} {w : World} {F G : List Nat} {A : Option Addr} {xs : List α} (h : Sees enc w F A xs) (hG : ∀ i ∈ G, i ∈ F) : Sees enc w G A xs := by
  intro h0
  obtain ⟨b, o, e, hb, hr⟩ := h h0
  exact ⟨b, o, e, fun hm => hb (hG b hm), hr⟩
/-- blocks that are not there yet may be added -/
theorem Sees.news {α : Type} {enc : α → Value} {w : World} {F G : List Nat} {A : Option Addr} {xs : List α} (h : Sees enc w F A xs) (hG : ∀ i ∈ G, i ∈ F ∨ w.heap.size ≤ i) : Sees enc w G A xs := by
  intro h0
  obtain ⟨b, o, e, hb, hr⟩ := h h0
  refine ⟨b, o, e, fun hm => ?_, hr⟩
  rcases hG b hm with h1 | h1
  · exact hb h1
  · have := cell_lt (hr 0 _ (List.getElem?_eq_getElem (by omega)))
    simp at this; omega
section
variable {P : Program} {n : Sz} {f : Nat → Value} {W : World} {dst : Option Tmp} {ty : TypeId} {pos : String} {af : Array Edge} {g : Option (Nat × Bool)} {x y : Operand} {k : IntKind} {a b : Int} {t t2 e : TypeId}
theorem r_slnil {p : Option Addr} {l c : Nat} (hx : ev n f x = .slice p l c) (hy : ev n f y = .slice none 0 0) (ht : P.underlying t = some (.slice e)) : (execOp (ev n f) ⟨dst, .binOp .eql t x y t2, ty, pos, af, g⟩).run P W = .ok (.value (.bool p.isNone)) W := by
  have h : ∀ d : Nat, (Op.equalIn (d + 1) t (.slice p l c) (.slice none 0 0)).run P W = .ok p.isNone W := fun d => by
    cases p <;> simp [Op.equalIn, run_underlying ht]
  have h2 : (binOp .eql t (.slice p l c) (.slice none 0 0)).run P W = .ok (.bool p.isNone) W := by
    simp only [binOp]
    simp [Op.equal, Op.maxDepth, h 9999]
  have h3 : (eqGuard .eql t x y (.slice p l c) (.slice none 0 0)).run P W = .ok () W := by simp [eqGuard]
  simp only [execOp, hx, hy, Sem.run_bind, h3, h2, Result.andThen_ok]; rfl
theorem r_slnilF {p : Addr} {l c : Nat} (hx : ev n f x = .slice (some p) l c) (hy : ev n f y = .slice none 0 0) (ht : P.underlying t = some (.slice e)) : (execOp (ev n f) ⟨dst, .binOp .eql t x y t2, ty, pos, af, g⟩).run P W = .ok (.value (.bool false)) W := r_slnil hx hy ht
theorem r_slnilT {l c : Nat} (hx : ev n f x = .slice none l c) (hy : ev n f y = .slice none 0 0) (ht : P.underlying t = some (.slice e)) : (execOp (ev n f) ⟨dst, .binOp .eql t x y t2, ty, pos, af, g⟩).run P W = .ok (.value (.bool true)) W := r_slnil hx hy ht
/-- pointers against nil -/
theorem r_ptnil {p : Option Addr} (hx : ev n f x = .pointer p) (hy : ev n f y = .pointer none) {d : TypeId} (ht : P.underlying t = some (.pointer d)) : (execOp (ev n f) ⟨dst, .binOp .eql t x y t2, ty, pos, af, g⟩).run P W = .ok (.value (.bool p.isNone)) W := by
  have h : ∀ d : Nat, (Op.equalIn (d + 1) t (.pointer p) (.pointer none)).run P W = .ok p.isNone W := fun d => by
    cases p <;> simp [Op.equalIn, run_underlying ht]
  have h2 : (binOp .eql t (.pointer p) (.pointer none)).run P W = .ok (.bool p.isNone) W := by
    simp only [binOp]
    simp [Op.equal, Op.maxDepth, h 9999]
  have h3 : (eqGuard .eql t x y (.pointer p) (.pointer none)).run P W = .ok () W := by simp [eqGuard]
  simp only [execOp, hx, hy, Sem.run_bind, h3, h2, Result.andThen_ok]; rfl
theorem r_ptnilF {p : Addr} (hx : ev n f x = .pointer (some p)) (hy : ev n f y = .pointer none) {d : TypeId} (ht : P.underlying t = some (.pointer d)) : (execOp (ev n f) ⟨dst, .binOp .eql t x y t2, ty, pos, af, g⟩).run P W = .ok (.value (.bool false)) W := r_ptnil hx hy ht
end
section
variable {P : Program} {ops : Array Oper} {rest : List Oper} {n : Sz} {k k2 : Nat} {f : Nat → Value} {W w0 : World} {F : List Nat} {L : List Ent} {Q : Exit → Act → World → Prop} {ty ty2 : TypeId} {pos pos2 : String} {af af2 : Array Edge} {g : Option (Nat × Bool)} {x y s : Operand} {v u : Value} {t e : TypeId}
/-- []T{} -/
theorem s_bs0 (size : Nat) (hs0 : 0 < size) {z0 : Value} {bytes : Nat} (H : Heap w0 F L W) (hw : Region.wanted ⟨some k, .buildSlice t 0 #[], ty, pos, af, g⟩ (yl n f ops) = true) (ht : P.underlying t = some (.slice e)) (hi : Inf P e z0 size bytes)
    (h : ∀ p W', Heap w0 F (ownN size (.slice (some ⟨p, 0, none⟩) 0 0) 0 [] e :: L) W' → SL P ops Q rest n (upd f k (.slice (some ⟨p, 0, none⟩) 0 0)) W') : SL P ops Q (⟨some k, .buildSlice t 0 #[], ty, pos, af, g⟩ :: rest) n f W := by
  obtain ⟨i, hi0, hz0, hsz, hby⟩ := hi.ex
  have hrg : Array.range 0 = #[] := rfl
  have r1 : (Instr.buildSlice t 0 #[]).run P W = .ok (.slice (some ⟨W.heap.size, 0, none⟩) 0 0) (W.alloc (.cells #[] e)) := by
    simp [Instr.buildSlice, run_underlying ht, Go.sizeOf, typeInfo, hi0, Instr.fill, newRow, hrg]
  refine s_run rfl hw (W' := W.alloc (.cells #[] e)) (v := .slice (some ⟨W.heap.size, 0, none⟩) 0 0) (by simp only [execOp, List.map_toArray, List.map_nil, Sem.run_bind, r1, Result.andThen_ok]; rfl) (h _ _ ?_)
  refine H.more (A := [ownN size (.slice (some ⟨W.heap.size, 0, none⟩) 0 0) 0 [] e]) ⟨?_, by simp [ids, ownN, Value.ownBlock], by simp [ids, ownN, Value.ownBlock], Only.of_below ((Below.refl _ _).alloc (Nat.le_refl _) _) _⟩
  intro E hE; rw [List.mem_singleton.1 hE]
  exact World.ownsRow_made W #[] 0 (Nat.zero_le _) (by decide) (by simp)
/-- append(s, y...): s the call's own, y is read -/
theorem s_apps {α : Type} {enc : α → Value} {z0 : Value} {bytes m l c : Nat} {A : Option Addr} {xs zs : List α} (H : Heap w0 F L W) (j : Nat) (hj : L[j]? = some (ownN 1 v m (xs.map enc) e))
    (hw : Region.wanted ⟨some k, .call ⟨.builtin .append, #[s, y], #[t, t]⟩, ty, pos, af, g⟩ (yl n f ops) = true) (hs : ev n f s = v) (hy : ev n f y = .slice A l c) (hz : Sees enc w0 F A zs) (hl : zs.length = l) (h1 : ∀ z, (enc z).oneCell' = true)
    (hm : m + l ≤ 100000000000 ∧ (m + l) * bytes ≤ 140737488355328) (ht : P.underlying t = some (.slice e)) (hi : Inf P e z0 1 bytes) (hz0 : z0.oneCell' = true)
    (h : ∀ A' c' W', (v ≠ .slice none 0 0 → ∃ b, A' = some ⟨b, 0, none⟩) → Heap w0 F (L.set j (ownN 1 (.slice A' (m + l) c') (m + l) ((xs ++ zs).map enc) e)) W' → SL P ops Q rest n (upd f k (.slice A' (m + l) c')) W') :
    SL P ops Q (⟨some k, .call ⟨.builtin .append, #[s, y], #[t, t]⟩, ty, pos, af, g⟩ :: rest) n f W := by
  have hown := H.own_get j hj
  obtain ⟨i, hi0, hzz, hsz, hby⟩ := hi.ex
  have key : ∃ v' W', (Builtin.append_ #[t, t] ty #[v, .slice A l c]).run P W = .ok v' W' ∧ W'.ownsRow 0 e 1 v' (m + l) (xs.map enc ++ zs.map enc) ∧ W.grownBy W' v.ownBlock ∧ (∀ k, v'.ownBlock = some k → v.ownBlock = some k ∨ W.heap.size ≤ k) := by
    cases A with
    | some p =>
      by_cases h0 : zs.length = 0
      · obtain rfl : zs = [] := List.eq_nil_of_length_eq_zero h0
        obtain rfl : l = 0 := by simpa using hl.symm
        exact app_run (P := P) t ty e ht hi (by simp [one_cells hz0]) (by omega) v m (xs.map enc) hown p 0 c [] rfl (fun _ _ hq => by simp at hq) (by simp) (by unfold maxLen; omega) hm.2
      · obtain ⟨q, r, e0, hq, hr⟩ := hz h0
        injection e0 with e0
        subst e0
        have hr2 := hr.later H.only hq
        refine app_run (P := P) t ty e ht hi (by simp [one_cells hz0]) (by omega) v m (xs.map enc) hown ⟨q, r, none⟩ l c (zs.map enc) (by simp [hl]) (fun a u ha => ?_) (fun u hu => ?_) (by unfold maxLen; omega) hm.2
        · rw [List.getElem?_map] at ha
          cases hza : zs[a]? with
          | none => rw [hza] at ha; simp at ha
          | some z => rw [hza] at ha; rw [add_plain, hr2 a z hza]; simpa using ha
        · obtain ⟨z, _, rfl⟩ := List.mem_map.1 hu; exact h1 z
    | none =>
      have h0 : zs.length = 0 := by
        rcases Nat.eq_zero_or_pos zs.length with h0 | h0
        · exact h0
        · obtain ⟨q, r, e0, _⟩ := hz (by omega); cases e0
      obtain rfl : zs = [] := List.eq_nil_of_length_eq_zero h0
      obtain rfl : l = 0 := by simpa using hl.symm
      refine ⟨v, W, ?_, by simpa using hown, ⟨rfl, rfl, rfl, Nat.le_refl _, fun _ _ _ => rfl⟩, fun k hk => .inl hk⟩
      rcases hown.2 with ⟨rfl, rfl⟩ | ⟨q, cap, cur, rfl, _, hg, hnc, _⟩
      · simp [Builtin.append_, run_underlying ht, Go.sizeOf, typeInfo, hi0, Builtin.lenOf, Builtin.firstCells]
      · simp [Builtin.append_, run_underlying ht, Go.sizeOf, typeInfo, hi0, Builtin.lenOf, Builtin.firstCells, hnc, storeCells]
  obtain ⟨v', W2, hr, o1, o2, o3⟩ := key
  have H3 := H.app j hj (m := l) o1 o2 o3
  rw [← List.map_append] at H3
  obtain ⟨A', c', rfl, hA'⟩ : ∃ A' c', v' = .slice A' (m + l) c' ∧ (v ≠ .slice none 0 0 → ∃ b, A' = some ⟨b, 0, none⟩) := by
    rcases o1.2 with ⟨rfl, h0⟩ | ⟨q, cap, cur, rfl, _⟩
    · refine ⟨none, 0, by rw [h0], fun hv => ?_⟩
      exfalso
      rcases hown.2 with ⟨h2, _⟩ | ⟨q, cap, cur, rfl, _, hg, hnc, _⟩
      · exact hv h2
      · have h5 : cap < m + l ∨ m + l ≤ cap := by omega
        have hm0 : m = 0 := by omega
        have hl0 : l = 0 := by omega
        subst hm0; subst hl0
        have hr2 : (Builtin.append_ #[t, t] ty #[.slice (some ⟨q, 0, none⟩) 0 cap, .slice A 0 c]).run P W = .ok (.slice (some ⟨q, 0, none⟩) 0 cap) W := by
          have hl2 : ∀ (x : Addr), (loadCells x 0).run P W = .ok #[] W := fun x => by simpa using run_loadCells_list (P := P) W x [] (by simp)
          cases A <;> simp [Builtin.append_, run_underlying ht, Go.sizeOf, typeInfo, hi0, Builtin.lenOf, Builtin.firstCells, storeCells, hl2]
        rw [hr] at hr2
        injection hr2 with e1 e2
        cases e1
    · exact ⟨_, cap, rfl, fun _ => ⟨q, rfl⟩⟩
  exact s_run rfl hw (W' := W2) (by simp only [execOp, resolve, invoke, builtin, List.map_toArray, List.map_cons, List.map_nil, hs, hy, Sem.run_bind, Sem.run_pure, Result.andThen_ok, hr]) (h A' c' W2 hA' H3)
end
end Go.Proofs.Ytlakbclnilakbaa
end

section
namespace Go.Proofs.Ytlakbclnilakbaa
section
variable {P : Program} {ops : Array Oper} {l : List Oper} {n : Sz} {k id fuel : Nat} {f : Nat → Value} {W : World} {Q : Exit → Act → World → Prop} {v : Value} {o : Oper} {S : World → Prop} {listed : Array Bool}
theorem tqn (i : Nat) (hi : ops[i]? = some o) (hd : o.dst = some k) (hw : Region.wanted o (yl n f ops) = true) (hv : ∀ W, S W → (execOp (ev n f) o).run P W = .ok (.value v) W) (hS : S W)
    (h : TR P ops Q S fuel (listed.setIfInBounds i true) n (upd f k v) W)
    (hs : Region.noSelect ops = true := by kernel_rfl) (hf : Region.free .any ops listed i = true := by kernel_rfl) (hr : (Region.ready .any ops listed).contains i = true := by kernel_rfl) (hQ : ∀ c a w v, Q (.panic c) (a.put o.dst v) w → Q (.panic c) a w := by exact fun _ _ _ _ h => nomatch h.1) : TR P ops Q S (fuel + 1) listed n f W :=
  t_take i hi hs hf hr hd hQ hw hv hS h
theorem tqh (i : Nat) (hi : ops[i]? = some o) (hd : o.dst = some k) (hw : Region.wanted o (yl n f ops) = true) (hv : ∀ W, S W → (execOp (ev n f) o).run P W = .ok (.value v) W) (hS : S W)
    (h : TR P ops Q S fuel (listed.setIfInBounds i true) n (upd f k v) W)
    (hs : Region.noSelect ops = true := by kernel_rfl) (hf : Region.free .any ops listed i = true := by kernel_rfl) (hr : (Region.ready .any ops listed).contains i = true := by kernel_rfl) (hQ : ∀ c a w v, Q (.panic c) (a.put o.dst v) w → Q (.panic c) a w := by exact fun _ _ _ _ h => h) : TR P ops Q S (fuel + 1) listed n f W :=
  t_take i hi hs hf hr hd hQ hw hv hS h
theorem ton (i : Nat) (hi : ops[i]? = some o) (hd : o.dst = some k) (hw : Region.wanted o (yl n f ops) = false) (hS : S W)
    (h : TR P ops Q S fuel (listed.setIfInBounds i true) n (upd f k undef) W)
    (hs : Region.noSelect ops = true := by kernel_rfl) (hf : Region.free .any ops listed i = true := by kernel_rfl) (hr : (Region.ready .any ops listed).contains i = true := by kernel_rfl) (hQ : ∀ c a w v, Q (.panic c) (a.put o.dst v) w → Q (.panic c) a w := by exact fun _ _ _ _ h => nomatch h.1) : TR P ops Q S (fuel + 1) listed n f W :=
  t_off i hi hs hf hr hd hQ hw hS h
theorem toh (i : Nat) (hi : ops[i]? = some o) (hd : o.dst = some k) (hw : Region.wanted o (yl n f ops) = false) (hS : S W)
    (h : TR P ops Q S fuel (listed.setIfInBounds i true) n (upd f k undef) W)
    (hs : Region.noSelect ops = true := by kernel_rfl) (hf : Region.free .any ops listed i = true := by kernel_rfl) (hr : (Region.ready .any ops listed).contains i = true := by kernel_rfl) (hQ : ∀ c a w v, Q (.panic c) (a.put o.dst v) w → Q (.panic c) a w := by exact fun _ _ _ _ h => h) : TR P ops Q S (fuel + 1) listed n f W :=
  t_off i hi hs hf hr hd hQ hw hS h
end
section
variable {α : Type _} {a x : α} {l m : List α} {i : Nat}
theorem jA : (x :: l).set 0 a = a :: l := List.set_cons_zero
theorem jB : (x :: l).set (i + 1) a = x :: l.set i a := List.set_cons_succ
theorem jC : (x :: l).take (i + 1) = x :: l.take i := List.take_succ_cons
theorem jD : l.take 0 = [] := List.take_zero
theorem jE : (x :: l).drop (i + 1) = l.drop i := List.drop_succ_cons
theorem jF : l.drop 0 = l := List.drop_zero
theorem jG : (x :: l) ++ m = x :: (l ++ m) := List.cons_append
theorem jH : [] ++ l = l := List.nil_append l
theorem jI : l ++ [] = l := List.append_nil l
theorem jJ : (x :: l).length = l.length + 1 := List.length_cons
theorem jK : ([] : List α).length = 0 := List.length_nil
theorem jL : (x :: l).eraseIdx (i + 1) = x :: l.eraseIdx i := List.eraseIdx_cons_succ
theorem jM : (x :: l).eraseIdx 0 = l := List.eraseIdx_cons_zero
end
section
variable {P : Program} {Q : Exit → Act → World → Prop} {n : Sz} {f : Nat → Value} {W : World} {ops : Array Oper}
theorem k_nc {y : Code} (h : CW P y Q n f W) : SL P ops (Exit.then (wpB P y Q) Q) [] n f W := k_nil (c_norm h)
theorem k_sg {y : Code} {id : Nat} {l : List Oper} (h : SL P l.toArray (Exit.then (wpB P y Q) Q) l n f W) : CW P (Code.seq (Code.region id l.toArray false) y) Q n f W := k_seq (k_rg h)
end
section
variable {P : Program} {n : Sz} {f : Nat → Value} {W : World} {dst : Option Tmp} {ty : TypeId} {pos : String} {af : Array Edge} {g : Option (Nat × Bool)} {x y : Operand} {v u : Value} {k : IntKind} {a b c d : Int} {t t2 e : TypeId}
theorem rmi {kq : IntKind} {z : Int} (hx : ev n f x = .int kq z) : (execOp (ev n f) ⟨dst, .move x, ty, pos, af, g⟩).run P W = .ok (.value (.int kq z)) W := r_mv hx
theorem rmb {bq : Bool} (hx : ev n f x = .bool bq) : (execOp (ev n f) ⟨dst, .move x, ty, pos, af, g⟩).run P W = .ok (.value (.bool bq)) W := r_mv hx
theorem rmp {pq : Option Addr} (hx : ev n f x = .pointer pq) : (execOp (ev n f) ⟨dst, .move x, ty, pos, af, g⟩).run P W = .ok (.value (.pointer pq)) W := r_mv hx
theorem rms {aq : Option Addr} {lq cq : Nat} (hx : ev n f x = .slice aq lq cq) : (execOp (ev n f) ⟨dst, .move x, ty, pos, af, g⟩).run P W = .ok (.value (.slice aq lq cq)) W := r_mv hx
theorem rmt {tq : Array Value} (hx : ev n f x = .tuple tq) : (execOp (ev n f) ⟨dst, .move x, ty, pos, af, g⟩).run P W = .ok (.value (.tuple tq)) W := r_mv hx
theorem rai {kq : IntKind} {z : Int} (hx : ev n f x = .int kq z) : (execOp (ev n f) ⟨dst, .assign x, ty, pos, af, g⟩).run P W = .ok (.value (.int kq z)) W := r_as hx
theorem rab {bq : Bool} (hx : ev n f x = .bool bq) : (execOp (ev n f) ⟨dst, .assign x, ty, pos, af, g⟩).run P W = .ok (.value (.bool bq)) W := r_as hx
theorem rap {pq : Option Addr} (hx : ev n f x = .pointer pq) : (execOp (ev n f) ⟨dst, .assign x, ty, pos, af, g⟩).run P W = .ok (.value (.pointer pq)) W := r_as hx
theorem ras {aq : Option Addr} {lq cq : Nat} (hx : ev n f x = .slice aq lq cq) : (execOp (ev n f) ⟨dst, .assign x, ty, pos, af, g⟩).run P W = .ok (.value (.slice aq lq cq)) W := r_as hx
theorem rat {tq : Array Value} (hx : ev n f x = .tuple tq) : (execOp (ev n f) ⟨dst, .assign x, ty, pos, af, g⟩).run P W = .ok (.value (.tuple tq)) W := r_as hx
end
end Go.Proofs.Ytlakbclnilakbaa
end

section
namespace Go.Proofs.Ytlakbclnilakbaa
open Go.RowKit
section
variable {P : Program} {n : Sz} {f : Nat → Value} {W w0 : World} {F : List Nat} {L : List Ent} {dst : Option Tmp} {ty : TypeId} {pos : String} {af : Array Edge} {g : Option (Nat × Bool)} {x y : Operand} {v : Value} {k : IntKind} {a b : Int} {t t2 e T : TypeId} {p o m : Nat} {cs vs : List Value}
theorem run_loadPart (h : W.heap[p]? = some (.cells cs.toArray T (0, 0))) (hv : (cs.drop o).take m = vs) (hl : vs.length = m) (hagg : ∀ W, (isAgg t).run P W = .ok true W) (hsz : ∀ W, (Go.sizeOf t).run P W = .ok m W) : (loadVar t ⟨p, o, none⟩).run P W = .ok (.agg vs.toArray) W := by
 have hr := run_loadCells_list (P := P) W ⟨p, o, none⟩ vs (fun j u hj => by
  rw [add_plain, Joins.cell_of_block h]
  subst hv
  have hjm : j < m := by have := (List.getElem?_eq_some_iff.1 hj).1; simp at this; omega
  rw [List.getElem?_take_of_lt hjm, List.getElem?_drop] at hj
  simpa using hj)
 simp only [loadVar, Sem.run_bind, hagg, Result.andThen_ok, if_true, hsz]
 rw [hl] at hr
 rw [hr]; simp
theorem r_la (H : Heap w0 F L W) (j : Nat) (hx : ev n f x = .pointer (some ⟨p, 0, none⟩)) (hj : L[j]? = some (blk p cs T)) (hl : cs.length = m) (hagg : ∀ W, (isAgg t).run P W = .ok true W) (hsz : ∀ W, (Go.sizeOf t).run P W = .ok m W) :
  (execOp (ev n f) ⟨dst, .load t x, ty, pos, af, g⟩).run P W = .ok (.value (.agg cs.toArray)) W := by
 have h := run_loadPart (P := P) (t := t) (o := 0) (vs := cs) (H.blk_get j hj) (by rw [← hl]; simp) hl hagg hsz
 simp only [execOp, Instr.loadAt, hx, Instr.sureAddr, Sem.run_bind, Sem.run_pure, Result.andThen_ok, h]
theorem r_lp (H : Heap w0 F L W) (j : Nat) (hx : ev n f x = .pointer (some ⟨p, o, none⟩)) (hj : L[j]? = some (blk p cs T)) (hv : (cs.drop o).take m = vs) (hl : vs.length = m) (hagg : ∀ W, (isAgg t).run P W = .ok true W) (hsz : ∀ W, (Go.sizeOf t).run P W = .ok m W) :
  (execOp (ev n f) ⟨dst, .load t x, ty, pos, af, g⟩).run P W = .ok (.value (.agg vs.toArray)) W := by
 have h := run_loadPart (P := P) (t := t) (H.blk_get j hj) hv hl hagg hsz
 simp only [execOp, Instr.loadAt, hx, Instr.sureAddr, Sem.run_bind, Sem.run_pure, Result.andThen_ok, h]
theorem r_ext {i : Nat} (hx : ev n f x = .tuple vs.toArray) (hv : vs[i]? = some v) : (execOp (ev n f) ⟨dst, .extract x i, ty, pos, af, g⟩).run P W = .ok (.value v) W := by
 have h : vs.toArray[i]? = some v := by simpa using hv
 simp only [execOp, hx, Instr.extract, h, Sem.run_bind, Sem.run_pure, Result.andThen_ok]
theorem r_min {c : Int} (hx : ev n f x = .int k a) (hy : ev n f y = .int k b) (hc : (if b < a then b else a) = c) : (execOp (ev n f) ⟨dst, .call ⟨.builtin .min, #[x, y], #[t, t2]⟩, ty, pos, af, g⟩).run P W = .ok (.value (.int k c)) W := by
 have h3 : #[x, y].map (ev n f) = #[.int k a, .int k b] := by simp [hx, hy]
 have h4 := run_min_int2 (P := P) W #[t, t2] ty k k a b
 rw [hc] at h4
 simp only [execOp, resolve, invoke, builtin, h3, Sem.run_bind, Sem.run_pure, Result.andThen_ok, h4]
theorem r_max {c : Int} (hx : ev n f x = .int k a) (hy : ev n f y = .int k b) (hc : (if a < b then b else a) = c) : (execOp (ev n f) ⟨dst, .call ⟨.builtin .max, #[x, y], #[t, t2]⟩, ty, pos, af, g⟩).run P W = .ok (.value (.int k c)) W := by
 have h3 : #[x, y].map (ev n f) = #[.int k a, .int k b] := by simp [hx, hy]
 have h4 := run_max_int2 (P := P) W #[t, t2] ty k k a b
 have h5 : (if b > a then b else a) = c := hc
 rw [h5] at h4
 simp only [execOp, resolve, invoke, builtin, h3, Sem.run_bind, Sem.run_pure, Result.andThen_ok, h4]
theorem r_ix0 {l c : Nat} {i : Nat} (hx : ev n f x = .slice (some ⟨p, 0, none⟩) l c) (hy : ev n f y = .int k a) (ha : a = (i : Int)) (hi : i < l) (h : P.underlying t = some (.slice e)) (hm : ∀ W, (Go.sizeOf e).run P W = .ok m W) :
  (execOp (ev n f) ⟨dst, .indexAddr t x y, ty, pos, af, g⟩).run P W = .ok (.value (.pointer (some ⟨p, i * m, none⟩))) W := by
 have := r_ix (P := P) (W := W) (dst := dst) (ty := ty) (pos := pos) (af := af) (g := g) hx hy ha hi h hm
 rw [this]; simp
/-! results -/
def RV (P : Program) (W : World) (n : Sz) (f : Nat → Value) (r : ResultVar) (v : Value) : Prop :=
 match r with
 | .tmp t => ev n f (.tmp t) = v
 | .cell a t => ∃ q, ev n f (.tmp a) = .pointer (some q) ∧ (loadVar t q).run P W = .ok v W
theorem rv_a {q : Nat} (H : Heap w0 F L W) (j : Nat) (ha : ev n f (.tmp q) = .pointer (some ⟨p, 0, none⟩)) (hj : L[j]? = some (blk p cs T)) (hl : cs.length = m) (hagg : ∀ W, (isAgg t).run P W = .ok true W) (hsz : ∀ W, (Go.sizeOf t).run P W = .ok m W) : RV P W n f (.cell q t) (.agg cs.toArray) :=
 ⟨_, ha, run_loadPart (P := P) (t := t) (o := 0) (vs := cs) (H.blk_get j hj) (by rw [← hl]; simp) hl hagg hsz⟩
theorem ev_getD2 (t : Nat) : (Fn n f).tmps[t]?.getD undef = ev n f (.tmp t) := by rw [← ev_getD, Array.getD_eq_getD_getElem?]
theorem rv_open (r : ResultVar) (h : RV P W n f r v) : (∃ t, r = .tmp t ∧ (Fn n f).tmps[t]?.getD undef = v) ∨ (∃ a t q, r = .cell a t ∧ (Fn n f).tmps[a]?.getD undef = .pointer (some q) ∧ (loadVar t q).run P W = .ok v W) := by
 cases r with
 | tmp t => exact .inl ⟨t, rfl, by rw [ev_getD2]; exact h⟩
 | cell a t =>
  obtain ⟨q, h1, h2⟩ := h
  exact .inr ⟨a, t, q, rfl, by rw [ev_getD2]; exact h1, h2⟩
theorem run_asAddr (q : Addr) : (asAddr (.pointer (some q))).run P W = .ok q W := rfl
theorem run_results1 {fn : Func} {r : ResultVar} (hr : fn.results = #[r]) (h : RV P W n f r v) : (results fn (Fn n f).tmps).run P W = .ok v W := by
 rcases rv_open r h with ⟨t, rfl, h1⟩ | ⟨a, t, q, rfl, h1, h2⟩ <;> simp_all [results, hr, Sem.run_bind, run_asAddr]
theorem fx1r {fn : Func} {N : Nat} {R : Ending → World → Prop} {r : ResultVar} (hr : fn.results = #[r]) (h : RV P W ⟨N, []⟩ f r v) (hR : R (.returned v) W) : PQ (bodyPost P fn R) .ret ⟨N, []⟩ f W := ⟨bodyPost_ret (run_results1 hr h) rfl hR⟩
end
section
variable {P : Program} {ops : Array Oper} {rest : List Oper} {n : Sz} {k k2 : Nat} {f : Nat → Value} {W w0 : World} {F : List Nat} {L : List Ent} {Q : Exit → Act → World → Prop} {ty ty2 : TypeId} {pos pos2 : String} {af af2 : Array Edge} {g : Option (Nat × Bool)} {x y s : Operand} {v u : Value} {t e : TypeId}
/-- var x T -/
theorem s_al {z : List Value} {size bytes : Nat} (H : Heap w0 F L W) (hw : Region.wanted ⟨some k, .alloc t, ty, pos, af, g⟩ (yl n f ops) = true) (hi : Inf P t (.agg z.toArray) size bytes)
  (h : ∀ p W', Heap w0 F (blk p z t :: L) W' → SL P ops Q rest n (upd f k (.pointer (some ⟨p, 0, none⟩))) W') : SL P ops Q (⟨some k, .alloc t, ty, pos, af, g⟩ :: rest) n f W := by
 obtain ⟨i, h1, h2, _, _⟩ := hi.ex
 have hz : ∀ W, (zeroValue t).run P W = .ok (.agg z.toArray) W := fun W => by simp [zeroValue, typeInfo, h1, h2]
 exact s_run rfl hw (W' := W.alloc (.cells z.toArray t)) (by simp only [execOp, Instr.alloc, Sem.run_bind, hz, Result.andThen_ok]; rfl) (h _ _ (H.alloc z t))
theorem Heap.blk_row {p o : Nat} {cs vs : List Value} {T : TypeId} (H : Heap w0 F L W) (j : Nat) (hj : L[j]? = some (blk p cs T)) : Heap w0 F (L.set j (blk p (cs.take o ++ vs ++ cs.drop (o + vs.length)) T)) (W.setRow p (cs.toArray.toList.take o ++ vs ++ cs.toArray.toList.drop (o + vs.length)).toArray) := by
 refine H.at j hj (F' := [p]) ⟨?_, by simp [ids, blk], by simp [ids, blk], rfl, rfl, rfl, by simp [World.setRow], fun k _ hk => setRow_other W p k _ (by intro e; exact hk (by simp [e]))⟩ (by simp [blk])
 intro E hE
 rw [List.mem_singleton.1 hE]
 exact setRow_heap W p _ _ T _ (H.blk_get j hj)
/-- a struct or an array is stored -/
theorem s_sa {p o m : Nat} {cs vs : List Value} {T : TypeId} (H : Heap w0 F L W) (j : Nat) (hw : Region.wanted ⟨none, .store t x y, ty, pos, af, g⟩ (yl n f ops) = true) (hx : ev n f x = .pointer (some ⟨p, o, none⟩)) (hy : ev n f y = .agg vs.toArray) (hj : L[j]? = some (blk p cs T))
  (hl : vs.length = m) (h1 : vs.all (·.oneCell') = true) (hfit : Nat.ble (o + vs.length) cs.length = true) (hs : ∀ W, (Go.sizeOf t).run P W = .ok m W)
  (h : ∀ W', Heap w0 F (L.set j (blk p (cs.take o ++ vs ++ cs.drop (o + vs.length)) T)) W' → SL P ops Q rest n f W') : SL P ops Q (⟨none, .store t x y, ty, pos, af, g⟩ :: rest) n f W := by
 have hg := H.blk_get j hj
 have hst := run_storeCells_at P p o T vs 0 cs.toArray W hg (by simpa using Nat.le_of_ble_eq_true hfit) (fun v hv => List.all_eq_true.1 h1 v hv)
 simp only [Nat.add_zero] at hst
 have hr : (Instr.storeAt t (.pointer (some ⟨p, o, none⟩)) (.agg vs.toArray)).run P W = .ok () (W.setRow p (cs.toArray.toList.take o ++ vs ++ cs.toArray.toList.drop (o + vs.length)).toArray) := by
  simp only [Instr.storeAt, storeVar, Instr.sureAddr, Value.cells, Sem.run_bind, Sem.run_pure, Result.andThen_ok, hs, List.size_toArray, hl, ne_eq, not_true, if_false]
  rw [← hl]; exact hst
 exact s_do rfl hw (by simp only [execOp, hx, hy, Sem.run_bind, hr, Result.andThen_ok]; rfl) (h _ (H.blk_row j hj))
theorem s_sw {p m : Nat} {cs vs : List Value} {T : TypeId} (H : Heap w0 F L W) (j : Nat) (hw : Region.wanted ⟨none, .store t x y, ty, pos, af, g⟩ (yl n f ops) = true) (hx : ev n f x = .pointer (some ⟨p, 0, none⟩)) (hy : ev n f y = .agg vs.toArray) (hj : L[j]? = some (blk p cs T))
  (hl : vs.length = m) (h1 : vs.all (·.oneCell') = true) (hfit : cs.length = m) (hs : ∀ W, (Go.sizeOf t).run P W = .ok m W)
  (h : ∀ W', Heap w0 F (L.set j (blk p vs T)) W' → SL P ops Q rest n f W') : SL P ops Q (⟨none, .store t x y, ty, pos, af, g⟩ :: rest) n f W := by
 refine s_sa H j hw hx hy hj hl h1 (by rw [Nat.zero_add, hl, hfit]; exact Nat.ble_self_eq_true m) hs fun W' H' => h W' ?_
 rw [Nat.zero_add, List.take_zero, List.nil_append, hl, ← hfit, List.drop_length, List.append_nil] at H'
 exact H'
/-- a cell of a row of the call's own -/
theorem s_so {α : Type} {enc : α → Value} {size m i p c : Nat} {xs : List α} {T : TypeId} {z : α} (H : Heap w0 F L W) (j : Nat) (hw : Region.wanted ⟨none, .store t x y, ty, pos, af, g⟩ (yl n f ops) = true) (hx : ev n f x = .pointer (some ⟨p, i, none⟩)) (hy : ev n f y = u) (hj : L[j]? = some (ownN size (.slice (some ⟨p, 0, none⟩) m c) m (xs.map enc) T)) (hz : u = enc z) (hi : i < xs.length) (h1 : (enc z).oneCell' = true) (hs : ∀ W, (Go.sizeOf t).run P W = .ok 1 W)
  (h : ∀ W', Heap w0 F (L.set j (ownN size (.slice (some ⟨p, 0, none⟩) m c) m ((xs.set i z).map enc) T)) W' → SL P ops Q rest n f W') : SL P ops Q (⟨none, .store t x y, ty, pos, af, g⟩ :: rest) n f W := by
 subst hz
 have ho := H.own_get j hj
 have hcell := ho.cellAt i (by rw [← ho.1]; simpa using hi)
 have hfr := ho.frozenAt i
 rw [List.getElem?_map, List.getElem?_eq_getElem hi] at hcell
 have hr := run_storeAt_cell (P := P) (t := t) (u := enc z) hs hcell hfr h1
 refine s_do (W' := W.setCell ⟨p, i, none⟩ (enc z)) rfl hw (by simp only [execOp, hx, hy, Sem.run_bind, hr, Result.andThen_ok]; rfl) (h _ ?_)
 have hst := (ho.stored i (enc z)).1
 refine H.at j hj (F' := [p]) ⟨fun E hE => ?_, by simp [ids, ownN, Value.ownBlock], by simp [ids, ownN, Value.ownBlock], only_set W p i _⟩ (by simp [ownN, Value.ownBlock])
 rw [List.mem_singleton.1 hE]
 show World.ownsRow _ _ _ _ _ _ _
 rw [List.map_set]; exact hst
/-- append(s, y...) of elements of several cells -/
theorem s_apsN {α : Type} {enc : α → Value} {z0 : Value} {size bytes m l c : Nat} {A : Option Addr} {xs zs : List α} (H : Heap w0 F L W) (j : Nat) (hj : L[j]? = some (ownN size v m (xs.map enc) e))
  (hw : Region.wanted ⟨some k, .call ⟨.builtin .append, #[s, y], #[t, t]⟩, ty, pos, af, g⟩ (yl n f ops) = true) (hs : ev n f s = v) (hy : ev n f y = .slice A l c) (hz : Sees enc w0 F A zs) (hl : zs.length = l * size) (h1 : ∀ z, (enc z).oneCell' = true) (hsz : 0 < size)
  (hm : m + l ≤ 100000000000 ∧ (m + l) * bytes ≤ 140737488355328) (ht : P.underlying t = some (.slice e)) (hi : Inf P e z0 size bytes) (hz0 : z0.cells.size = size)
  (h : ∀ A' c' W', Heap w0 F (L.set j (ownN size (.slice A' (m + l) c') (m + l) ((xs ++ zs).map enc) e)) W' → SL P ops Q rest n (upd f k (.slice A' (m + l) c')) W') :
  SL P ops Q (⟨some k, .call ⟨.builtin .append, #[s, y], #[t, t]⟩, ty, pos, af, g⟩ :: rest) n f W := by
 have hown := H.own_get j hj
 obtain ⟨i, hi0, hzz, hisz, hby⟩ := hi.ex
 have key : ∃ v' W', (Builtin.append_ #[t, t] ty #[v, .slice A l c]).run P W = .ok v' W' ∧ W'.ownsRow 0 e size v' (m + l) (xs.map enc ++ zs.map enc) ∧ W.grownBy W' v.ownBlock ∧ (∀ k, v'.ownBlock = some k → v.ownBlock = some k ∨ W.heap.size ≤ k) := by
  have hlen0 : zs.length = 0 → l = 0 ∧ zs = [] := fun h0 => ⟨by
   rcases Nat.eq_zero_or_pos l with h2 | h2
   ·exact h2
   ·have := Nat.mul_pos h2 hsz; omega, List.eq_nil_of_length_eq_zero h0⟩
  cases A with
  | some p =>
   by_cases h0 : zs.length = 0
   ·obtain ⟨rfl, rfl⟩ := hlen0 h0
    exact app_run (P := P) t ty e ht hi hz0 hsz v m (xs.map enc) hown p 0 c [] (by simp) (fun _ _ hq => by simp at hq) (by simp) (by unfold maxLen; omega) hm.2
   ·obtain ⟨q, r, e0, hq, hr⟩ := hz h0
    injection e0 with e0
    subst e0
    have hr2 := hr.later H.only hq
    refine app_run (P := P) t ty e ht hi hz0 hsz v m (xs.map enc) hown ⟨q, r, none⟩ l c (zs.map enc) (by simpa using hl) (fun a u ha => ?_) (fun u hu => ?_) (by unfold maxLen; omega) hm.2
    ·rw [List.getElem?_map] at ha
     cases hza : zs[a]? with
     | none => rw [hza] at ha; simp at ha
     | some z => rw [hza] at ha; rw [add_plain, hr2 a z hza]; simpa using ha
    ·obtain ⟨z, _, rfl⟩ := List.mem_map.1 hu; exact h1 z
  | none =>
   have h0 : zs.length = 0 := by
    rcases Nat.eq_zero_or_pos zs.length with h0 | h0
    ·exact h0
    ·obtain ⟨q, r, e0, _⟩ := hz (by omega); cases e0
   obtain ⟨rfl, rfl⟩ := hlen0 h0
   refine ⟨v, W, ?_, by simpa using hown, ⟨rfl, rfl, rfl, Nat.le_refl _, fun _ _ _ => rfl⟩, fun k hk => .inl hk⟩
   rcases hown.2 with ⟨rfl, rfl⟩ | ⟨q, cap, cur, rfl, _, hg, hnc, _⟩
   ·simp [Builtin.append_, run_underlying ht, Go.sizeOf, typeInfo, hi0, Builtin.lenOf, Builtin.firstCells]
   ·simp [Builtin.append_, run_underlying ht, Go.sizeOf, typeInfo, hi0, Builtin.lenOf, Builtin.firstCells, hnc, storeCells]
 obtain ⟨v', W2, hr, o1, o2, o3⟩ := key
 have H3 := H.app j hj (m := l) o1 o2 o3
 rw [← List.map_append] at H3
 obtain ⟨A', c', rfl⟩ : ∃ A' c', v' = .slice A' (m + l) c' := by
  rcases o1.2 with ⟨rfl, h0⟩ | ⟨q, cap, cur, rfl, _⟩
  ·exact ⟨none, 0, by rw [h0]⟩
  ·exact ⟨_, cap, rfl⟩
 exact s_run rfl hw (W' := W2) (by simp only [execOp, resolve, invoke, builtin, List.map_toArray, List.map_cons, List.map_nil, hs, hy, Sem.run_bind, Sem.run_pure, Result.andThen_ok, hr]) (h A' c' W2 H3)
end
end Go.Proofs.Ytlakbclnilakbaa
end

section
namespace Go.Proofs.Ytlakbclnilakbaa
open Go.RowKit
set_option maxHeartbeats 400000
set_option maxRecDepth 100000
end Go.Proofs.Ytlakbclnilakbaa
end

section
namespace Go.Proofs.Ytlakbclnilakbaa
open Go.RowKit
section
variable {P : Program} (w : World)
end
end Go.Proofs.Ytlakbclnilakbaa
end

section
namespace Go.Proofs.Ytlakbclnilakbaa
open Go.RowKit
section
variable {P : Program} {n : Sz} {f : Nat → Value} {W w0 : World} {F : List Nat} {L : List Ent} {dst : Option Tmp} {ty : TypeId} {pos : String} {af : Array Edge} {g : Option (Nat × Bool)} {x y : Operand} {v : Value} {k : IntKind} {a b : Int} {t t2 e T : TypeId} {p o m : Nat} {cs vs : List Value}
end
section
variable {P : Program} {ops : Array Oper} {rest : List Oper} {n : Sz} {k k2 : Nat} {f : Nat → Value} {W w0 : World} {F : List Nat} {L : List Ent} {Q : Exit → Act → World → Prop} {ty ty2 : TypeId} {pos pos2 : String} {af af2 : Array Edge} {g : Option (Nat × Bool)} {x y s : Operand} {v u : Value} {t e : TypeId}
end
end Go.Proofs.Ytlakbclnilakbaa
end

section
namespace Go.Proofs.Ytlakbclnilakbaa
open Go.RowKit
section
variable {P : Program} {n : Sz} {f : Nat → Value} {W w0 : World} {dst : Option Tmp} {ty : TypeId} {pos : String} {af : Array Edge} {g : Option (Nat × Bool)} {x y : Operand} {t t2 e e1 e2 : TypeId}
end
section
variable {P : Program} {ops : Array Oper} {rest : List Oper} {n : Sz} {k k2 : Nat} {f : Nat → Value} {W w0 : World} {F : List Nat} {L : List Ent} {Q : Exit → Act → World → Prop} {ty ty2 : TypeId} {pos pos2 : String} {af af2 : Array Edge} {g : Option (Nat × Bool)} {x y s : Operand} {v u : Value} {t e : TypeId}
end
end Go.Proofs.Ytlakbclnilakbaa
end

section
namespace Go.Proofs.Ytlakbclnilakbaa
open Go.RowKit
def grp (A : List Ent) : Ent :=
 ⟨ids A, fun W => Ents A W, fun W h i hi => by
  obtain ⟨E, hE, hm⟩ := mem_ids.1 hi
  exact E.lt W (h.1 E hE) i hm, fun W W' hh h => ⟨fun E hE => E.loc W W' (fun i hi => hh i (mem_ids.2 ⟨E, hE, hi⟩)) (h.1 E hE), h.2⟩⟩
theorem Heap.grp_ents {w0 W : World} {F : List Nat} {L A : List Ent} (H : Heap w0 F L W) (k : Nat) (hk : L[k]? = some (grp A)) : Ents A W := H.ok _ (List.mem_of_getElem? hk)
theorem grp_heap {W W' : World} {F : List Nat} {A : List Ent} (h : Heap W F A W') : Heap W F [grp A] W' :=
 ⟨fun E hE => by (rw [List.mem_singleton.1 hE]; exact h.ents), by simpa [ids, grp] using h.nd, by simpa [ids, grp] using h.own, h.only⟩
section
variable {P : Program} {n : Sz} {f : Nat → Value} {W : World} {dst : Option Tmp} {ty : TypeId} {pos : String} {af : Array Edge} {g : Option (Nat × Bool)} {x y : Operand} {t t2 : TypeId}
end
end Go.Proofs.Ytlakbclnilakbaa
end

section
namespace Go.Proofs.Ytlakbclnilakbaa
open Go.RowKit
/-- values of one cell -/
inductive C1 where
 | i (k : IntKind) (z : Int)
 | b (q : Bool)
 | s (A : Option Addr) (n c : Nat)
 | p (A : Option Addr)
def C1.v : C1 → Value
 | .i k z => .int k z
 | .b q => .bool q
 | .s A n c => .slice A n c
 | .p A => .pointer A
theorem C1.one (x : C1) : x.v.oneCell' = true := by cases x <;> rfl
theorem Sees.row {α : Type} {enc : α → Value} {w : World} {F : List Nat} {A : Option Addr} {n : Nat} {xs : List α} (h : Sees enc w F A xs) (hl : xs.length = n) : RowAt w w.heap.size A n (xs.map enc) :=
 ⟨by simpa using hl, fun h0 => by
  obtain ⟨b, o, rfl, _, hr⟩ := h (by omega)
  refine ⟨b, o, rfl, ?_, fun j u hu => ?_⟩
  ·have := hr 0 xs[0] (List.getElem?_eq_getElem (by omega))
   exact cell_lt this
  ·rw [List.getElem?_map] at hu
   cases hj : xs[j]? with
   | none => rw [hj] at hu; cases hu
   | some z => rw [hj] at hu; rw [hr j z hj]; simpa using hu⟩
theorem Heap.own_sees {α : Type} {enc : α → Value} {w0 W : World} {F : List Nat} {L : List Ent} (H : Heap w0 F L W) (j : Nat) {A : Option Addr} {n c : Nat} {xs : List α} {T : TypeId} (hj : L[j]? = some (ownN 1 (.slice A n c) n (xs.map enc) T)) : Sees enc W [] A xs := by
 have ho := H.own_get j hj
 intro h0
 have hn : xs.length = n := by simpa using ho.1
 rcases ho.2 with ⟨h1, h2⟩ | ⟨g, cap, cur, h1, _, hg, h3, _, h5, h6⟩
 ·omega
 ·injection h1 with h1 _ _
  refine ⟨g, 0, h1, by simp, fun i z hz => ?_⟩
  rw [Nat.zero_add, Joins.cell_of_block hg]
  have : (cur.toList.take (n * 1))[i]? = some (enc z) := by rw [h6, List.getElem?_map, hz]; rfl
  rw [List.getElem?_take] at this
  split at this
  ·simpa using this
  ·cases this
theorem Ents.own_sees {α : Type} {enc : α → Value} {W : World} {A : Option Addr} {n c : Nat} {xs : List α} {T : TypeId} {L : List Ent} (h : Ents L W) (hj : ownN 1 (.slice A n c) n (xs.map enc) T ∈ L) : Sees enc W [] A xs := by
 obtain ⟨j, hj2⟩ := List.mem_iff_getElem?.1 hj
 exact (Heap.start h).own_sees j hj2
section
variable {P : Program} {n : Sz} {f : Nat → Value} {W w0 : World} {dst : Option Tmp} {ty : TypeId} {pos : String} {af : Array Edge} {g : Option (Nat × Bool)} {x y : Operand} {t t2 e : TypeId} {v : Value}
end
section
variable {P : Program} {ops : Array Oper} {rest : List Oper} {n : Sz} {k k2 : Nat} {f : Nat → Value} {W w0 : World} {F : List Nat} {L : List Ent} {Q : Exit → Act → World → Prop} {ty ty2 : TypeId} {pos pos2 : String} {af af2 : Array Edge} {g : Option (Nat × Bool)} {x y s : Operand} {v u : Value} {t e : TypeId}
/-- append(s, y...): what y reads now -/
theorem s_apW {α : Type} {enc : α → Value} {z0 : Value} {bytes m l c : Nat} {A : Option Addr} {xs zs : List α} (H : Heap w0 F L W) (j : Nat) (hj : L[j]? = some (ownN 1 v m (xs.map enc) e))
  (hw : Region.wanted ⟨some k, .call ⟨.builtin .append, #[s, y], #[t, t]⟩, ty, pos, af, g⟩ (yl n f ops) = true) (hs : ev n f s = v) (hy : ev n f y = .slice A l c) (hz : Sees enc W [] A zs) (hl : zs.length = l) (h1 : ∀ z, (enc z).oneCell' = true)
  (hm : m + l ≤ 100000000000 ∧ (m + l) * bytes ≤ 140737488355328) (ht : P.underlying t = some (.slice e)) (hi : Inf P e z0 1 bytes) (hz0 : z0.oneCell' = true)
  (h : ∀ A' c' W', Heap w0 F (L.set j (ownN 1 (.slice A' (m + l) c') (m + l) ((xs ++ zs).map enc) e)) W' → SL P ops Q rest n (upd f k (.slice A' (m + l) c')) W') :
  SL P ops Q (⟨some k, .call ⟨.builtin .append, #[s, y], #[t, t]⟩, ty, pos, af, g⟩ :: rest) n f W := by
 have hown := H.own_get j hj
 obtain ⟨i, hi0, hzz, hsz, hby⟩ := hi.ex
 have key : ∃ v' W', (Builtin.append_ #[t, t] ty #[v, .slice A l c]).run P W = .ok v' W' ∧ W'.ownsRow 0 e 1 v' (m + l) (xs.map enc ++ zs.map enc) ∧ W.grownBy W' v.ownBlock ∧ (∀ k, v'.ownBlock = some k → v.ownBlock = some k ∨ W.heap.size ≤ k) := by
  cases A with
  | some p =>
   by_cases h0 : zs.length = 0
   ·obtain rfl : zs = [] := List.eq_nil_of_length_eq_zero h0
    obtain rfl : l = 0 := by simpa using hl.symm
    exact app_run (P := P) t ty e ht hi (by simp [one_cells hz0]) (by omega) v m (xs.map enc) hown p 0 c [] rfl (fun _ _ hq => by simp at hq) (by simp) (by unfold maxLen; omega) hm.2
   ·obtain ⟨q, r, e0, hq, hr2⟩ := hz h0
    injection e0 with e0
    subst e0
    refine app_run (P := P) t ty e ht hi (by simp [one_cells hz0]) (by omega) v m (xs.map enc) hown ⟨q, r, none⟩ l c (zs.map enc) (by simp [hl]) (fun a u ha => ?_) (fun u hu => ?_) (by unfold maxLen; omega) hm.2
    ·rw [List.getElem?_map] at ha
     cases hza : zs[a]? with
     | none => rw [hza] at ha; simp at ha
     | some z => rw [hza] at ha; rw [add_plain, hr2 a z hza]; simpa using ha
    ·obtain ⟨z, _, rfl⟩ := List.mem_map.1 hu; exact h1 z
  | none =>
   have h0 : zs.length = 0 := by
    rcases Nat.eq_zero_or_pos zs.length with h0 | h0
    ·exact h0
    ·obtain ⟨q, r, e0, _⟩ := hz (by omega); cases e0
   obtain rfl : zs = [] := List.eq_nil_of_length_eq_zero h0
   obtain rfl : l = 0 := by simpa using hl.symm
   refine ⟨v, W, ?_, by simpa using hown, ⟨rfl, rfl, rfl, Nat.le_refl _, fun _ _ _ => rfl⟩, fun k hk => .inl hk⟩
   rcases hown.2 with ⟨rfl, rfl⟩ | ⟨q, cap, cur, rfl, _, hg, hnc, _⟩
   ·simp [Builtin.append_, run_underlying ht, Go.sizeOf, typeInfo, hi0, Builtin.lenOf, Builtin.firstCells]
   ·simp [Builtin.append_, run_underlying ht, Go.sizeOf, typeInfo, hi0, Builtin.lenOf, Builtin.firstCells, hnc, storeCells]
 obtain ⟨v', W2, hr, o1, o2, o3⟩ := key
 have H3 := H.app j hj (m := l) o1 o2 o3
 rw [← List.map_append] at H3
 obtain ⟨A', c', rfl⟩ : ∃ A' c', v' = .slice A' (m + l) c' := by
  rcases o1.2 with ⟨rfl, h0⟩ | ⟨q, cap, cur, rfl, _⟩
  ·exact ⟨none, 0, by rw [h0]⟩
  ·exact ⟨_, _, rfl⟩
 exact s_run rfl hw (W' := W2) (v := .slice A' (m + l) c') (by simp only [execOp, resolve, invoke, builtin, List.map_toArray, List.map_cons, List.map_nil, hs, hy, Sem.run_bind, Sem.run_pure, Result.andThen_ok, hr]) (h A' c' W2 H3)
/-- []T{a, b, ..} of one-cell values -/
theorem s_bsO {α : Type} {enc : α → Value} {zs : List α} {z0 : Value} {bytes m : Nat} {parts : Array (Nat × Operand)} {vs : List (Nat × Value)} (H : Heap w0 F L W)
  (hw : Region.wanted ⟨some k, .buildSlice t m parts, ty, pos, af, g⟩ (yl n f ops) = true) (hv : parts.toList.map (fun p => (p.1, ev n f p.2)) = vs) (hl : zs.length = m) (hm : 0 < m ∧ m ≤ 1000)
  (hfill : Instr.fill (fun i => some (i * 1, 1)) ((Array.range m).map (z0.cells[· % z0.cells.size]!)) vs = some (zs.map enc).toArray)
  (ht : P.underlying t = some (.slice e)) (hi : Inf P e z0 1 bytes)
  (h : ∀ p W', Heap w0 F (ownN 1 (.slice (some ⟨p, 0, none⟩) m m) m (zs.map enc) e :: L) W' → SL P ops Q rest n (upd f k (.slice (some ⟨p, 0, none⟩) m m)) W') : SL P ops Q (⟨some k, .buildSlice t m parts, ty, pos, af, g⟩ :: rest) n f W := by
 obtain ⟨i, hi0, hz0, hsz, hby⟩ := hi.ex
 have hbig : ¬ (m * 1 > 2 ^ 24) := by omega
 have hne : ¬ (m * 1 = 0) := by omega
 have r1 : (Instr.buildSlice t m vs.toArray).run P W = .ok (.slice (some ⟨W.heap.size, 0, none⟩) m m) (W.alloc (.cells (zs.map enc).toArray e)) := by
  have hz1 : (zeroValue e).run P W = .ok z0 W := by simp [zeroValue, typeInfo, hi0, hz0]
  have hs1 : (Go.sizeOf e).run P W = .ok 1 W := by simp [Go.sizeOf, typeInfo, hi0, hsz]
  simp only [Instr.buildSlice, Sem.run_bind, run_underlying ht, Result.andThen_ok, hs1, hbig, if_false, hne, hz1, Sem.run_pure]
  rw [show (m * 1) = m from by omega]
  simp only [hfill]
  rfl
 have r2 : (execOp (ev n f) ⟨some k, .buildSlice t m parts, ty, pos, af, g⟩).run P W = .ok (.value (.slice (some ⟨W.heap.size, 0, none⟩) m m)) (W.alloc (.cells (zs.map enc).toArray e)) := by
  have hp : parts.map (fun p => (p.1, ev n f p.2)) = vs.toArray := by
   apply Array.toList_inj.1
   rw [Array.toList_map, hv]
  simp only [execOp, hp, Sem.run_bind, r1, Result.andThen_ok]; rfl
 refine s_run rfl hw r2 (h _ _ ?_)
 have hzl : (zs.map enc).length = m := by simpa using hl
 refine H.more (A := [ownN 1 (.slice (some ⟨W.heap.size, 0, none⟩) m m) m (zs.map enc) e]) ⟨?_, by simp [ids, ownN, Value.ownBlock], by simp [ids, ownN, Value.ownBlock], Only.of_below ((Below.refl _ _).alloc (Nat.le_refl _) _) _⟩
 intro E hE; rw [List.mem_singleton.1 hE]
 exact ⟨by simpa using hzl, .inr ⟨_, m, _, rfl, Nat.zero_le _, heap_alloc_new W _, Nat.le_refl _, by unfold maxLen; omega, by simpa using hzl, by rw [Nat.mul_one]; exact List.take_of_length_le (Nat.le_of_eq hzl)⟩⟩
end
end Go.Proofs.Ytlakbclnilakbaa
end

section
namespace Go.Proofs.Ytlakbclnilakbaa
open Go.RowKit
section
variable {P : Program} {W : World}
end
section
variable {P : Program} {n : Sz} {f : Nat → Value} {W w0 : World} {dst : Option Tmp} {ty : TypeId} {pos : String} {af : Array Edge} {g : Option (Nat × Bool)} {x y : Operand} {t t2 e : TypeId} {v : Value} {k k2 : IntKind} {a b : Int}
end
section
variable {P : Program} {ops : Array Oper} {rest : List Oper} {n : Sz} {k k2 : Nat} {f : Nat → Value} {W w0 : World} {F : List Nat} {L : List Ent} {Q : Exit → Act → World → Prop} {ty ty2 : TypeId} {pos pos2 : String} {af af2 : Array Edge} {g : Option (Nat × Bool)} {x y s : Operand} {v u : Value} {t tn e : TypeId}
end
end Go.Proofs.Ytlakbclnilakbaa
end

section
namespace Go.Proofs.Ytlakbclnilakbaa
open Go.RowKit
section
variable {P : Program} {n : Sz} {f : Nat → Value} {W : World} {ty : TypeId} {pos : String} {af : Array Edge} {g : Option (Nat × Bool)} {c : Operand}
/-- a function value is called: what it captured comes behind the arguments -/
theorem r_callV {fn : FuncId} {F : Func} {xs : Array Operand} {tys : Array TypeId} {dst : Option Tmp} {vs : List Value} {cap : List Value} (hc : ev n f c = .func (.func fn) #[] cap.toArray) (hf : P.funcs[fn]? = some F) (hn : (F.name == "runtime.NumGoroutine") = false) (hb : F.body.isNone = false)
  (hv : xs.toList.map (ev n f) = vs) (W : World) : (execOp (ev n f) ⟨dst, .call ⟨.value c, xs, tys⟩, ty, pos, af, g⟩).run P W = .ok (.enter fn (vs ++ cap).toArray) W := by
 subst hv
 have h3 : xs.map (ev n f) = (xs.toList.map (ev n f)).toArray := by rw [← Array.toList_map]
 simp only [execOp, resolve, hc, Deferred.ofValue, invoke, Sem.run_bind, Sem.run_pure, Result.andThen_ok, h3]
 have h4 : (#[] : Array Value) ++ (xs.toList.map (ev n f)).toArray ++ cap.toArray = (xs.toList.map (ev n f) ++ cap).toArray := by simp
 rw [h4, run_callFunc hf hn hb]
theorem s_callV {ops : Array Oper} {rest : List Oper} {Q : Exit → Act → World → Prop} {k : Nat} {R : Ending → World → Prop} {fn : FuncId} {F : Func} {xs : Array Operand} {tys : Array TypeId} {vs cap : List Value} (hw : Region.wanted ⟨some k, .call ⟨.value c, xs, tys⟩, ty, pos, af, g⟩ (yl n f ops) = true)
  (hx : ev n f c = .func (.func fn) #[] cap.toArray) (hv : xs.toList.map (ev n f) = vs) (hf : P.funcs[fn]? = some F) (hn : (F.name == "runtime.NumGoroutine") = false) (hb : F.body.isNone = false) (hc : Calls P fn (vs ++ cap).toArray W R)
  (h : ∀ e W', R e W' → ∃ v, e = .returned v ∧ SL P ops Q rest n (upd f k v) W') : SL P ops Q (⟨some k, .call ⟨.value c, xs, tys⟩, ty, pos, af, g⟩ :: rest) n f W :=
 s_enter rfl hw (r_callV hx hf hn hb hv W) hc h
end
end Go.Proofs.Ytlakbclnilakbaa
end

section
namespace Go.Proofs.Ytlakbclnilakbaa
open Go.RowKit
theorem fm_range {α : Type _} (L : List α) : (List.range L.length).filterMap (fun i => L[i]?) = L := by
 induction L with
 | nil => rfl
 | cons a l ih =>
  rw [List.length_cons, List.range_succ_eq_map, List.filterMap_cons]
  simp only [List.getElem?_cons_zero, List.filterMap_map, Function.comp_def, List.getElem?_cons_succ]
  rw [ih]
/-- the entries in another order -/
theorem Heap.order {w0 W : World} {F : List Nat} {L L' : List Ent} (H : Heap w0 F L W) (p : List Nat) (hp : p.isPerm (List.range L.length) = true) (hL : p.filterMap (fun i => L[i]?) = L') : Heap w0 F L' W := by
 refine H.perm ?_
 rw [← hL]
 have h1 := (List.isPerm_iff.1 hp).filterMap (fun i => L[i]?)
 rw [fm_range] at h1
 exact h1.symm
/-- what an iterator wants kept: some blocks -/
def Kp (K : List Nat) (W W' : World) : Prop := ∀ i ∈ K, W'.heap[i]? = W.heap[i]?
theorem Kp.ents {A : List Ent} {W W' : World} (h : Kp (ids A) W W') (hA : Ents A W) : Ents A W' :=
 ⟨fun E hE => E.loc W W' (fun i hi => h i (mem_ids.2 ⟨E, hE, hi⟩)) (hA.1 E hE), hA.2⟩
theorem Kp.trans {K : List Nat} {A B C : World} (h : Kp K A B) (k : Kp K B C) : Kp K A C := fun i hi => (k i hi).trans (h i hi)
section
variable {P : Program} {ops : Array Oper} {rest : List Oper} {n : Sz} {k id : Nat} {f : Nat → Value} {W w0 : World} {F : List Nat} {L : List Ent} {Q : Exit → Act → World → Prop} {v : Value} {o : Oper}
/-- s[:hi] of any slice -/
theorem r_shiA {dst : Option Tmp} {t ty e : TypeId} {pos : String} {af : Array Edge} {g : Option (Nat × Bool)} {x hi : Operand} {kk : IntKind} {a : Int} {A : Option Addr} {l c j m : Nat} (hx : ev n f x = .slice A l c) (hh : ev n f hi = .int kk a) (ha : a = (j : Int)) (hj : j ≤ c) (h : P.underlying t = some (.slice e)) (hm : ∀ W, (Go.sizeOf e).run P W = .ok m W) :
  (execOp (ev n f) ⟨dst, .slice t x none (some hi) none, ty, pos, af, g⟩).run P W = .ok (.value (.slice A j c)) W := by
 subst ha
 have h1 : (0 : Int) ≤ j ∧ (j : Int) ≤ c := by omega
 have h0 : ∀ p : Addr, p.add 0 = p := fun p => by simp [Addr.add]
 simp only [execOp, Instr.sliceAt, Instr.slice, Instr.sliceBounds, Instr.sliceBound, hx, hh, asIntOf, Option.map_some, Option.map_none, Sem.run_bind, run_underlying h, Result.andThen_ok, Sem.run_pure, h1, and_self, if_true, hm, Int.toNat_natCast, Nat.zero_mul, Nat.sub_zero]
 cases A <;> simp [h0]
/-- a cell that is known -/
theorem r_lc {x : Operand} {dst : Option Tmp} {t ty : TypeId} {pos : String} {af : Array Edge} {g : Option (Nat × Bool)} {p i : Nat} (hc : W.cell? ⟨p, i, none⟩ = some v) (hx : ev n f x = .pointer (some ⟨p, i, none⟩)) (hagg : ∀ W, (isAgg t).run P W = .ok false W) : (execOp (ev n f) ⟨dst, .load t x, ty, pos, af, g⟩).run P W = .ok (.value v) W :=
 r_lr (Heap.nil W) hx hc (by simp) hagg
end
end Go.Proofs.Ytlakbclnilakbaa
end

section
namespace Go.Proofs.Ytlakbclnilakbaa
open Go.RowKit
section
variable {P : Program} {n : Sz} {f : Nat → Value} {W w0 : World} {F : List Nat} {L : List Ent} {dst : Option Tmp} {ty : TypeId} {pos : String} {af : Array Edge} {g : Option (Nat × Bool)} {x : Operand} {t : TypeId}
theorem Heap.own_some {α : Type} {enc : α → Value} {size : Nat} {A : Option Addr} {m c : Nat} {xs : List α} {T : TypeId} (H : Heap w0 F L W) (j : Nat) (hj : L[j]? = some (ownN size (.slice A m c) m (xs.map enc) T)) (h0 : m ≠ 0) : ∃ p, A = some ⟨p, 0, none⟩ := by
 rcases (H.own_get j hj).2 with ⟨h1, h2⟩ | ⟨g, cap, cur, h1, _⟩
 ·exact absurd h2 h0
 ·injection h1 with h1 _ _; exact ⟨g, h1⟩
/-- a cell of a row of one's own -/
theorem r_ow {α : Type} {enc : α → Value} {p i m c : Nat} {xs : List α} {T : TypeId} {z : α} (H : Heap w0 F L W) (j : Nat) (hx : ev n f x = .pointer (some ⟨p, i, none⟩)) (hj : L[j]? = some (ownN 1 (.slice (some ⟨p, 0, none⟩) m c) m (xs.map enc) T)) (hv : xs[i]? = some z)
  (hagg : ∀ W, (isAgg t).run P W = .ok false W) : (execOp (ev n f) ⟨dst, .load t x, ty, pos, af, g⟩).run P W = .ok (.value (enc z)) W := by
 have ho := H.own_get j hj
 have hi : i < xs.length := (List.getElem?_eq_some_iff.1 hv).1
 have hcell := ho.cellAt i (by rw [← ho.1]; simpa using hi)
 rw [List.getElem?_map, hv] at hcell
 exact r_lc hcell hx hagg
theorem Heap.own_seesN {α : Type} {enc : α → Value} {size : Nat} (H : Heap w0 F L W) (j : Nat) {A : Option Addr} {n c : Nat} {xs : List α} {T : TypeId} (hj : L[j]? = some (ownN size (.slice A n c) n (xs.map enc) T)) : xs.length ≠ 0 → ∃ b, A = some ⟨b, 0, none⟩ ∧ b ∈ (ownN size (.slice A n c) n (xs.map enc) T).ids ∧ Reads enc W b 0 xs := by
 have ho := H.own_get j hj
 intro h0
 have hn : xs.length = n * size := by simpa using ho.1
 rcases ho.2 with ⟨h1, h2⟩ | ⟨g, cap, cur, h1, _, hg, h3, _, h5, h6⟩
 ·rw [h2, Nat.zero_mul] at hn; omega
 ·injection h1 with h1 _ _
  subst h1
  refine ⟨g, rfl, by simp [ownN, Value.ownBlock], fun i z hz => ?_⟩
  rw [Nat.zero_add, Joins.cell_of_block hg]
  have : (cur.toList.take (n * size))[i]? = some (enc z) := by rw [h6, List.getElem?_map, hz]; rfl
  rw [List.getElem?_take] at this
  split at this
  ·simpa using this
  ·cases this
end
section
variable {P : Program} {ops : Array Oper} {rest : List Oper} {n : Sz} {k k2 : Nat} {f : Nat → Value} {W w0 : World} {F : List Nat} {L : List Ent} {Q : Exit → Act → World → Prop} {ty ty2 : TypeId} {pos pos2 : String} {af af2 : Array Edge} {g : Option (Nat × Bool)} {x y s : Operand} {v u : Value} {t e : TypeId}
/-- []T{x}, x of several cells -/
theorem s_bsN {α : Type} {enc : α → Value} {z0 : Value} {size bytes : Nat} {zs : List α} (H : Heap w0 F L W)
  (hw : Region.wanted ⟨some k, .buildSlice t 1 #[(0, x)], ty, pos, af, g⟩ (yl n f ops) = true) (hx : ev n f x = .agg (zs.map enc).toArray) (hzl : zs.length = size) (hsz : 0 < size ∧ size ≤ 1000)
  (hfill : Instr.fill (fun i => some (i * size, size)) ((Array.range size).map (z0.cells[· % z0.cells.size]!)) [(0, .agg (zs.map enc).toArray)] = some (zs.map enc).toArray)
  (ht : P.underlying t = some (.slice e)) (hi : Inf P e z0 size bytes)
  (h : ∀ p W', Heap w0 F (ownN size (.slice (some ⟨p, 0, none⟩) 1 1) 1 (zs.map enc) e :: L) W' → SL P ops Q rest n (upd f k (.slice (some ⟨p, 0, none⟩) 1 1)) W') : SL P ops Q (⟨some k, .buildSlice t 1 #[(0, x)], ty, pos, af, g⟩ :: rest) n f W := by
 obtain ⟨i, hi0, hz0, hisz, hby⟩ := hi.ex
 have hzs2 : (zs.map enc).length = size := by simpa using hzl
 have hbig : ¬ (1 * size > 2 ^ 24) := by omega
 have hne : ¬ (1 * size = 0) := by omega
 have r1 : (Instr.buildSlice t 1 #[(0, .agg (zs.map enc).toArray)]).run P W = .ok (.slice (some ⟨W.heap.size, 0, none⟩) 1 1) (W.alloc (.cells (zs.map enc).toArray e)) := by
  have hz1 : (zeroValue e).run P W = .ok z0 W := by simp [zeroValue, typeInfo, hi0, hz0]
  have hs1 : (Go.sizeOf e).run P W = .ok size W := by simp [Go.sizeOf, typeInfo, hi0, hisz]
  simp only [Instr.buildSlice, Sem.run_bind, run_underlying ht, Result.andThen_ok, hs1, hbig, if_false, hne, hz1, Sem.run_pure]
  rw [show (1 * size) = size from by omega, hfill]
  rfl
 refine s_run rfl hw (W' := W.alloc (.cells (zs.map enc).toArray e)) (v := .slice (some ⟨W.heap.size, 0, none⟩) 1 1) (by simp only [execOp, List.map_toArray, List.map_cons, List.map_nil, hx, Sem.run_bind, r1, Result.andThen_ok]; rfl) (h _ _ ?_)
 refine H.more (A := [ownN size (.slice (some ⟨W.heap.size, 0, none⟩) 1 1) 1 (zs.map enc) e]) ⟨?_, by simp [ids, ownN, Value.ownBlock], by simp [ids, ownN, Value.ownBlock], Only.of_below ((Below.refl _ _).alloc (Nat.le_refl _) _) _⟩
 intro E hE; rw [List.mem_singleton.1 hE]
 have hzl2 : (zs.map enc).length = 1 * size := by rw [hzs2, Nat.one_mul]
 exact ⟨hzl2, .inr ⟨_, 1, _, rfl, Nat.zero_le _, heap_alloc_new W _, Nat.le_refl _, by decide, by simpa using hzl2, List.take_of_length_le (Nat.le_of_eq hzl2)⟩⟩
/-- what was built is appended -/
theorem s_apB {α : Type} {enc : α → Value} {z0 : Value} {size bytes m l cB : Nat} {B : Option Addr} {xs zs : List α} {T : TypeId} (H : Heap w0 F (ownN size (.slice B l cB) l (zs.map enc) T :: L) W) (j : Nat) (hj : L[j]? = some (ownN size v m (xs.map enc) e))
  (hw : Region.wanted ⟨some k, .call ⟨.builtin .append, #[s, y], #[t, t]⟩, ty, pos, af, g⟩ (yl n f ops) = true) (hs : ev n f s = v) (hy : ev n f y = .slice B l cB) (h1 : ∀ z, (enc z).oneCell' = true) (hsz : 0 < size)
  (hm : m + l ≤ 100000000000 ∧ (m + l) * bytes ≤ 140737488355328) (ht : P.underlying t = some (.slice e)) (hi : Inf P e z0 size bytes) (hz0 : z0.cells.size = size)
  (h : ∀ A' c' W', Heap w0 F (L.set j (ownN size (.slice A' (m + l) c') (m + l) ((xs ++ zs).map enc) e)) W' → SL P ops Q rest n (upd f k (.slice A' (m + l) c')) W') :
  SL P ops Q (⟨some k, .call ⟨.builtin .append, #[s, y], #[t, t]⟩, ty, pos, af, g⟩ :: rest) n f W := by
 have hlen : zs.length = l * size := by have := (H.own_get 0 rfl).1; simpa using this
 have hnd := H.nd
 rw [ids_cons] at hnd
 have H0 := H.drop
 refine s_apsN (enc := enc) (zs := zs) (xs := xs) (Heap.start H0.ents) j hj hw hs hy (fun h0 => ?_) hlen h1 hsz hm ht hi hz0 ?_
 ·obtain ⟨b, e1, hb, hr⟩ := H.own_seesN 0 rfl h0
  exact ⟨b, 0, e1, fun hm => (List.nodup_append.1 hnd).2.2 b hb b hm rfl, hr⟩
 ·intro A' c' W' H'
  exact h A' c' W' (H0.whole H')
end
/-- some of the entries -/
theorem Heap.subl {w0 W : World} {F : List Nat} {L A : List Ent} (H : Heap w0 F L W) (p : List Nat) (hp : (p ++ (List.range L.length).filter (fun i => !p.contains i)).isPerm (List.range L.length) = true) (hA : p.filterMap (fun i => L[i]?) = A) : Heap w0 F A W := by
 have h := H.order (p ++ (List.range L.length).filter (fun i => !p.contains i)) hp rfl
 rw [List.filterMap_append, hA] at h
 exact h.drops
end Go.Proofs.Ytlakbclnilakbaa
end

section
namespace Go.Proofs.Ytlakbclnilakbaa
open Go.RowKit Go.MapKept
open Go.Maps (Keyed)
open Go.ChangeMaps (setBlock)
section plain
variable {α β : Type} [DecidableEq α]
def mget : List (α × β) → α → Option β
 | [], _ => none
 | p :: l, a => if p.1 = a then some p.2 else mget l a
def mput : List (α × β) → α → β → List (α × β)
 | [], a, v => [(a, v)]
 | p :: l, a, v => if p.1 = a then (a, v) :: l else p :: mput l a v
def mdel : List (α × β) → α → List (α × β)
 | [], _ => []
 | p :: l, a => if p.1 = a then l else p :: mdel l a
theorem m_none : ∀ (l : List (α × β)) (a : α), (∀ p ∈ l, p.1 ≠ a) → mget l a = none ∧ (∀ v, mput l a v = l ++ [(a, v)]) ∧ mdel l a = l
 | [], a, _ => ⟨rfl, fun _ => rfl, rfl⟩
 | p :: l, a, h => by
  obtain ⟨h1, h2, h3⟩ := m_none l a fun q hq => h q (by simp [hq])
  have hp := h p (by simp)
  exact ⟨by rw [mget, if_neg hp]; exact h1, fun v => by rw [mput, if_neg hp, h2]; rfl, by rw [mdel, if_neg hp, h3]⟩
theorem m_some : ∀ (l : List (α × β)) (j : Nat) (p : α × β), l[j]? = some p → (l.map Prod.fst).Nodup → mget l p.1 = some p.2 ∧ (∀ v, mput l p.1 v = l.set j (p.1, v)) ∧ mdel l p.1 = l.eraseIdx j
 | [], j, p, h, _ => by simp at h
 | q :: l, 0, p, h, _ => by
  obtain rfl : q = p := by simpa using h
  exact ⟨by rw [mget, if_pos rfl], fun v => by rw [mput, if_pos rfl]; rfl, by rw [mdel, if_pos rfl]; rfl⟩
 | q :: l, j + 1, p, h, hd => by
  have h' : l[j]? = some p := by simpa using h
  simp only [List.map_cons, List.nodup_cons] at hd
  have hne : q.1 ≠ p.1 := fun e => hd.1 (e ▸ List.mem_map.2 ⟨p, List.mem_of_getElem? h', rfl⟩)
  obtain ⟨h1, h2, h3⟩ := m_some l j p h' hd.2
  exact ⟨by rw [mget, if_neg hne]; exact h1, fun v => by rw [mput, if_neg hne, h2]; rfl, by rw [mdel, if_neg hne, h3]; rfl⟩
theorem mget_iff (l : List (α × β)) (a : α) : mget l a = none ↔ ∀ p ∈ l, p.1 ≠ a := by
 constructor
 ·intro h p hp e
  induction l with
  | nil => simp at hp
  | cons q l ih =>
   unfold mget at h
   by_cases hq : q.1 = a
   ·rw [if_pos hq] at h; cases h
   ·rw [if_neg hq] at h
    rcases List.mem_cons.1 hp with rfl | hp
    ·exact hq e
    ·exact ih h hp
 ·intro h; exact (m_none l a h).1
end plain
/-- how a map's keys are coded -/
structure KC (P : Program) (k : TypeId) (α : Type) where
 enc : α → Value
 Gd : α → Prop
 K : Keyed P k
 good : ∀ a, Gd a → ∃ l, keyOf P k (enc a) = some l
 inj : ∀ a b, enc a = enc b → a = b
structure MapOk {P : Program} {k : TypeId} {α β : Type} (C : KC P k α) (venc : β → Value) (es : Array MapEntry) (clock : Nat) (l : List (α × β)) : Prop where
 rd : es.toList.map (fun e => (e.key, e.val)) = l.map (fun p => (C.enc p.1, venc p.2))
 gd : ∀ p ∈ l, C.Gd p.1
 nd : (l.map Prod.fst).Nodup
 born : ∀ x ∈ es.toList, x.born < clock
 bn : (es.toList.map (·.born)).Nodup
section
variable {P : Program} {k : TypeId} {α β : Type} [DecidableEq α] {C : KC P k α} {venc : β → Value} {es : Array MapEntry} {clock : Nat} {l : List (α × β)}
theorem MapOk.nil : MapOk C venc #[] 0 [] := ⟨rfl, by simp, by simp, by simp, by simp⟩
theorem MapOk.len (h : MapOk C venc es clock l) : es.size = l.length := by
 have := congrArg List.length h.rd; simpa using this
theorem MapOk.at (h : MapOk C venc es clock l) (j : Nat) (e : MapEntry) (he : es.toList[j]? = some e) : ∃ p, l[j]? = some p ∧ e.key = C.enc p.1 ∧ e.val = venc p.2 := by
 have h1 := congrArg (fun x => x[j]?) h.rd
 simp only [List.getElem?_map, he, Option.map_some] at h1
 cases hl : l[j]? with
 | none => rw [hl] at h1; cases h1
 | some p =>
  rw [hl] at h1
  simp only [Option.map_some, Option.some.injEq, Prod.mk.injEq] at h1
  exact ⟨p, rfl, h1.1, h1.2⟩
theorem MapOk.keys (h : MapOk C venc es clock l) : ∀ e ∈ es.toList, ∃ lit, keyOf P k e.key = some lit := fun e he => by
 obtain ⟨j, hj⟩ := List.getElem?_of_mem he
 obtain ⟨p, hp, hk, _⟩ := h.at j e hj
 rw [hk]; exact C.good _ (h.gd p (List.mem_of_getElem? hp))
theorem MapOk.find (h : MapOk C venc es clock l) (a : α) (ga : C.Gd a) (W : World) :
  ((∀ p ∈ l, p.1 ≠ a) ∧ (Instr.findKey k (C.enc a) es.toList).run P W = .ok none W) ∨
  ∃ j p e, l[j]? = some p ∧ p.1 = a ∧ es.toList[j]? = some e ∧ e.key = C.enc a ∧ e.val = venc p.2 ∧ (Instr.findKey k (C.enc a) es.toList).run P W = .ok (some (j, venc p.2)) W := by
 obtain ⟨lit, hk⟩ := C.good a ga
 rcases C.K.find W hk es.toList h.keys with ⟨h1, h2⟩ | ⟨j, e, h1, h2, h3⟩
 ·refine .inl ⟨fun p hp e => ?_, h1⟩
  obtain ⟨j, hj⟩ := List.getElem?_of_mem hp
  have h4 := congrArg (fun x => x[j]?) h.rd
  simp only [List.getElem?_map, hj, Option.map_some] at h4
  cases he : es.toList[j]? with
  | none => rw [he] at h4; cases h4
  | some x =>
   rw [he] at h4
   simp only [Option.map_some, Option.some.injEq, Prod.mk.injEq] at h4
   exact h2 x (List.mem_of_getElem? he) (by rw [h4.1, e])
 ·obtain ⟨p, hp, hpk, hpv⟩ := h.at j e h2
  refine .inr ⟨j, p, e, hp, C.inj _ _ (hpk ▸ h3), h2, h3, hpv, ?_⟩
  rw [← hpv]; exact h1
/-- m[a] -/
theorem MapOk.look {t e : TypeId} (h : MapOk C venc es clock l) (ht : P.underlying t = some (.map k e)) {z : Value} {W : World} (hz : (zeroValue e).run P W = .ok z W) {b : Nat} (hb : W.heap[b]? = some (.map es clock)) (a : α) (ga : C.Gd a) (ok : Bool) :
  (Instr.lookup t (.map (some b)) (C.enc a) ok).run P W = .ok (if ok then .tuple #[((mget l a).map venc).getD z, .bool (mget l a).isSome] else ((mget l a).map venc).getD z) W := by
 obtain ⟨lit, hk⟩ := C.good a ga
 rcases h.find a ga W with ⟨h1, h2⟩ | ⟨j, p, x, h1, rfl, h3, h4, h5, h6⟩
 ·rw [(m_none l a h1).1]
  simp [Instr.lookup, run_underlying ht, MapKept.run_getObj_map hb, C.K.check W _ hk, h2, hz, Result.andThen]
 ·rw [(m_some l j p h1 h.nd).1]
  simp [Instr.lookup, run_underlying ht, MapKept.run_getObj_map hb, C.K.check W _ hk, h6, Result.andThen]
/-- m[a] = v -/
theorem MapOk.put {t e : TypeId} (h : MapOk C venc es clock l) (ht : P.underlying t = some (.map k e)) {W : World} {b : Nat} (hb : W.heap[b]? = some (.map es clock)) (a : α) (ga : C.Gd a) (v : β) :
  ∃ es' clock', (Instr.mapUpdate t (.map (some b)) (C.enc a) (venc v)).run P W = .ok () (setBlock W b (.map es' clock')) ∧ MapOk C venc es' clock' (mput l a v) := by
 obtain ⟨lit, hk⟩ := C.good a ga
 rcases h.find a ga W with ⟨h1, h2⟩ | ⟨j, p, x, h1, rfl, h3, h4, h5, h6⟩
 ·refine ⟨es.push ⟨C.enc a, venc v, clock⟩, clock + 1, ?_, ?_⟩
  ·simp [Instr.mapUpdate, run_underlying ht, MapKept.run_getObj_map hb, C.K.check W _ hk, h2, MapKept.run_setObj_map _ hb, Result.andThen, setBlock]
  ·rw [(m_none l a h1).2.1]
   refine ⟨?_, fun p hp => ?_, ?_, fun x hx => ?_, ?_⟩
   ·rw [Array.toList_push, List.map_append, List.map_append, h.rd]; rfl
   ·rcases List.mem_append.1 hp with hp | hp
    ·exact h.gd p hp
    ·rw [List.mem_singleton.1 hp]; exact ga
   ·rw [List.map_append]
    refine List.nodup_append.2 ⟨h.nd, by simp, fun x hx y hy e => ?_⟩
    obtain ⟨p, hp, rfl⟩ := List.mem_map.1 hx
    simp at hy
    exact h1 p hp (e.trans hy)
   ·rw [Array.toList_push] at hx
    rcases List.mem_append.1 hx with hx | hx
    ·have := h.born x hx; omega
    ·rw [List.mem_singleton.1 hx]; exact Nat.lt_succ_self _
   ·rw [Array.toList_push, List.map_append]
    refine List.nodup_append.2 ⟨h.bn, by simp, fun x hx y hy e => ?_⟩
    obtain ⟨p, hp, rfl⟩ := List.mem_map.1 hx
    simp at hy
    have := h.born p hp; omega
 ·have hst := C.K.stays W hk
  have hj : j < es.size := by have := (List.getElem?_eq_some_iff.1 h3).1; simpa using this
  have hxa : es[j]? = some x := by rw [← Array.getElem?_toList]; exact h3
  refine ⟨es.modify j fun e => { e with key := C.enc p.1, val := venc v }, clock, ?_, ?_⟩
  ·simp [Instr.mapUpdate, run_underlying ht, MapKept.run_getObj_map hb, C.K.check W _ hk, h6, hxa, h4, hst, MapKept.run_setObj_map _ hb, Result.andThen, setBlock]
  ·have hes : (es.modify j fun e => { e with key := C.enc p.1, val := venc v }).toList = es.toList.set j { x with key := C.enc p.1, val := venc v } := by
    rw [Array.toList_modify]
    apply List.ext_getElem?
    intro i
    rw [List.getElem?_modify, List.getElem?_set]
    by_cases e : j = i
    ·subst e; rw [if_pos rfl, h3, if_pos (by simpa using hj)]; simp
    ·rw [if_neg e]; simp [e]
   rw [(m_some l j p h1 h.nd).2.1]
   have hfst : (l.set j (p.1, v)).map Prod.fst = l.map Prod.fst := by
    rw [List.map_set]
    apply List.ext_getElem?
    intro i
    rw [List.getElem?_set]
    by_cases e : j = i
    ·subst e
     rw [if_pos rfl, List.getElem?_map, h1]
     have := (List.getElem?_eq_some_iff.1 h1).1
     rw [if_pos (by simpa using this)]; rfl
    ·rw [if_neg e]
   have hbn : (es.toList.set j { x with key := C.enc p.1, val := venc v }).map (·.born) = es.toList.map (·.born) := by
    rw [List.map_set]
    apply List.ext_getElem?
    intro i
    rw [List.getElem?_set]
    by_cases e : j = i
    ·subst e
     rw [if_pos rfl, List.getElem?_map, h3, if_pos (by simpa using hj)]; rfl
    ·rw [if_neg e]
   refine ⟨?_, fun q hq => ?_, by rw [hfst]; exact h.nd, fun y hy => ?_, by rw [hes, hbn]; exact h.bn⟩
   ·rw [hes, List.map_set, List.map_set, h.rd]
   ·rcases List.mem_or_eq_of_mem_set hq with hq | rfl
    ·exact h.gd q hq
    ·exact h.gd p (List.mem_of_getElem? h1)
   ·rw [hes] at hy
    rcases List.mem_or_eq_of_mem_set hy with hy | rfl
    ·exact h.born y hy
    ·exact h.born x (List.mem_of_getElem? h3)
end
end Go.Proofs.Ytlakbclnilakbaa
end

section
namespace Go.Proofs.Ytlakbclnilakbaa
open Go.RowKit Go.MapKept
open Go.Maps (Keyed)
open Go.ChangeMaps (setBlock)
/-- what is still to come -/
def mleft {α β : Type} (lb : List ((α × β) × Bool)) : List (α × β) := (lb.filter (·.2)).map (·.1)
theorem mleft_set {α β : Type} : ∀ (lb : List ((α × β) × Bool)) (j : Nat) (p : α × β), lb[j]? = some (p, true) → (mleft lb).Perm (p :: mleft (lb.set j (p, false)))
 | [], j, p, h => by simp at h
 | q :: lb, 0, p, h => by
  obtain rfl : q = (p, true) := by simpa using h
  simp [mleft]
 | q :: lb, j + 1, p, h => by
  have ih := mleft_set lb j p (by simpa using h)
  obtain ⟨q1, q2⟩ := q
  cases q2 with
  | false => simpa [mleft] using ih
  | true =>
   have : (q1 :: mleft lb).Perm (p :: q1 :: mleft (lb.set j (p, false))) := (ih.cons q1).trans (List.Perm.swap _ _ _)
   simpa [mleft] using this
theorem mleft_all {α β : Type} (l : List (α × β)) : mleft (l.map fun p => (p, true)) = l := by
 unfold mleft
 induction l with
 | nil => rfl
 | cons p l ih => simpa using ih
theorem mleft_nil {α β : Type} (lb : List ((α × β) × Bool)) : mleft lb = [] ↔ ∀ q ∈ lb, q.2 = false := by
 unfold mleft
 rw [List.map_eq_nil_iff, List.filter_eq_nil_iff]
 constructor
 ·intro h q hq; have := h q hq; simpa using this
 ·intro h q hq; rw [h q hq]; simp
structure IterOk {P : Program} {k : TypeId} {α β : Type} (C : KC P k α) (venc : β → Value) (es : Array MapEntry) (clock since : Nat) (seen : Array Nat) (c0 : Nat) (lb : List ((α × β) × Bool)) : Prop where
 ok : MapOk C venc es clock (lb.map (·.1))
 fl : es.toList.map (fun e => !seen.contains e.born) = lb.map (·.2)
 old : ∀ x ∈ es.toList, x.born < since
 s0 : since ≤ c0
 s1 : since ≤ clock
section
variable {P : Program} {k : TypeId} {α β : Type} [DecidableEq α] {C : KC P k α} {venc : β → Value} {es : Array MapEntry} {clock since c0 : Nat} {seen : Array Nat} {lb : List ((α × β) × Bool)} {l : List (α × β)}
theorem IterOk.start (h : MapOk C venc es clock l) : IterOk C venc es clock clock #[] clock (l.map fun p => (p, true)) := by
 have e : (l.map fun p => (p, true)).map (·.1) = l := by rw [List.map_map]; exact List.map_id' l
 refine ⟨by rw [e]; exact h, ?_, h.born, Nat.le_refl _, Nat.le_refl _⟩
 have hl : es.toList.length = l.length := by rw [Array.length_toList]; exact h.len
 rw [List.map_map]
 apply List.ext_getElem?
 intro i
 rw [List.getElem?_map, List.getElem?_map]
 by_cases hi : i < l.length
 ·rw [List.getElem?_eq_getElem (by omega), List.getElem?_eq_getElem hi]; simp
 ·rw [List.getElem?_eq_none (by omega), List.getElem?_eq_none (by omega)]; rfl
theorem IterOk.at (h : IterOk C venc es clock since seen c0 lb) (j : Nat) (e : MapEntry) (he : es.toList[j]? = some e) : ∃ p, lb[j]? = some (p, !seen.contains e.born) ∧ e.key = C.enc p.1 ∧ e.val = venc p.2 := by
 obtain ⟨p, hp, h1, h2⟩ := h.ok.at j e he
 have h3 := congrArg (fun x => x[j]?) h.fl
 simp only [List.getElem?_map, he, Option.map_some] at h3 hp
 cases hq : lb[j]? with
 | none => rw [hq] at hp; cases hp
 | some q =>
  rw [hq] at hp h3
  simp only [Option.map_some, Option.some.injEq] at hp h3
  obtain ⟨q1, q2⟩ := q
  simp only at hp h3
  exact ⟨p, by rw [hp, h3], h1, h2⟩
/-- the step -/
theorem IterOk.next (h : IterOk C venc es clock since seen c0 lb) {W : World} {b r : Nat} (hb : W.heap[b]? = some (.map es clock)) (hr : W.heap[r]? = some (.mapIter (some b) since seen c0)) (ty : TypeId) :
  (mleft lb = [] ∧ (Instr.next (.pointer (some ⟨r, 0, none⟩)) false ty).run P W = .ok (.tuple #[.bool false]) W) ∨
  (mleft lb ≠ [] ∧ ∃ j p e, ∃ w1 : World, (w1 = W ∨ w1 = W.drew) ∧ lb[j]? = some (p, true) ∧ e ∈ es.toList ∧ e.key = C.enc p.1 ∧ e.val = venc p.2 ∧ (Instr.next (.pointer (some ⟨r, 0, none⟩)) false ty).run P W = .ok (.tuple #[.bool true, C.enc p.1, venc p.2]) (setBlock w1 r (.mapIter (some b) since (seen.push e.born) clock)) ∧ IterOk C venc es clock since (seen.push e.born) clock (lb.set j (p, false))) := by
 rcases run_next_at (P := P) W ty r b since c0 seen es clock hr hb h.old h.s0 with ⟨h0, hrun⟩ | ⟨e, he, w1, hal, hrun⟩
 ·refine .inl ⟨(mleft_nil lb).2 fun q hq => ?_, hrun⟩
  obtain ⟨j, hj⟩ := List.getElem?_of_mem hq
  have h3 := congrArg (fun x => x[j]?) h.fl
  simp only [List.getElem?_map, hj, Option.map_some] at h3
  cases hx : es.toList[j]? with
  | none => rw [hx] at h3; cases h3
  | some x =>
   rw [hx] at h3
   simp only [Option.map_some, Option.some.injEq] at h3
   rw [← h3, all_seen es seen h0 x (List.mem_of_getElem? hx)]; rfl
 ·obtain ⟨hem, hes⟩ := mem_left he
  obtain ⟨j, hj⟩ := List.getElem?_of_mem hem
  obtain ⟨p, hp, hk, hv⟩ := h.at j e hj
  rw [hes] at hp
  refine .inr ⟨fun hn => ?_, j, p, e, w1, hal, hp, hem, hk, hv, by rw [← hk, ← hv]; exact hrun, ?_⟩
  ·have := (mleft_nil lb).1 hn _ (List.mem_of_getElem? hp); cases this
  ·have hfst : (lb.set j (p, false)).map (·.1) = lb.map (·.1) := by
    rw [List.map_set]
    apply List.ext_getElem?
    intro i
    rw [List.getElem?_set]
    by_cases e : j = i
    ·subst e
     rw [if_pos rfl, List.getElem?_map, hp]
     have := (List.getElem?_eq_some_iff.1 hp).1
     rw [if_pos (by simpa using this)]; rfl
    ·rw [if_neg e]
   refine ⟨by rw [hfst]; exact h.ok, ?_, h.old, h.s1, h.s1⟩
   have hlen := congrArg List.length h.fl
   simp only [List.length_map] at hlen
   rw [List.map_set]
   apply List.ext_getElem?
   intro i
   rw [List.getElem?_set]
   have h3 := congrArg (fun x => x[i]?) h.fl
   simp only [List.getElem?_map] at h3 ⊢
   by_cases e2 : j = i
   ·subst e2
    rw [if_pos rfl, hj, if_pos (by have := (List.getElem?_eq_some_iff.1 hp).1; simpa using this)]
    simp
   ·rw [if_neg e2, ← h3]
    cases hx : es.toList[i]? with
    | none => rfl
    | some x =>
     have hne : x.born ≠ e.born := fun hbe => by
      have g1 := h.ok.bn
      have hi := (List.getElem?_eq_some_iff.1 hx).1
      have hj' := (List.getElem?_eq_some_iff.1 hj).1
      have a1 : (es.toList.map (·.born))[i]? = some x.born := by rw [List.getElem?_map, hx]; rfl
      have a2 : (es.toList.map (·.born))[j]? = some x.born := by rw [List.getElem?_map, hj, hbe]; rfl
      exact e2 (((List.getElem?_inj (by simpa using hi) g1).1 (a1.trans a2.symm)).symm)
     simp [hne]
end
end Go.Proofs.Ytlakbclnilakbaa
end

section
namespace Go.Proofs.Ytlakbclnilakbaa
open Go.RowKit Go.MapKept
open Go.Maps (Keyed)
open Go.ChangeMaps (setBlock)
section
variable {P : Program} {kt : TypeId} {α β : Type}
/-- a map -/
def mp (C : KC P kt α) (venc : β → Value) (b : Nat) (l : List (α × β)) : Ent :=
 ⟨[b], fun W => ∃ es clock, W.heap[b]? = some (.map es clock) ∧ MapOk C venc es clock l, by
  rintro W ⟨es, clock, h, _⟩ i hi
  rw [List.mem_singleton.1 hi]; exact arr_lt h, by
  rintro W W' h ⟨es, clock, hb, hk⟩
  exact ⟨es, clock, by rw [h b (by simp)]; exact hb, hk⟩⟩
end
theorem only_sb (W : World) (b : Nat) (o : Obj) : Only [b] W (setBlock W b o) :=
 ⟨rfl, rfl, rfl, by simp [setBlock], fun i _ hi => by
  have : b ≠ i := fun e => hi (by rw [e]; simp)
  simp [setBlock, Array.getElem?_setIfInBounds, this]⟩
theorem set_at (W : World) (b : Nat) (o o1 : Obj) (h : W.heap[b]? = some o1) : (setBlock W b o).heap[b]? = some o := by
 have := arr_lt h
 simp [setBlock, Array.getElem?_setIfInBounds, this]
section
variable {P : Program} {kt : TypeId} {α β : Type} [DecidableEq α] {C : KC P kt α} {venc : β → Value} {b r : Nat} {l : List (α × β)} {lb : List ((α × β) × Bool)} {cur : Option (α × β)} {W w0 : World} {F : List Nat} {L : List Ent}
theorem Heap.mp_get (H : Heap w0 F L W) (j : Nat) (hj : L[j]? = some (mp C venc b l)) : ∃ es clock, W.heap[b]? = some (.map es clock) ∧ MapOk C venc es clock l := H.ok _ (List.mem_of_getElem? hj)
theorem Heap.mp_set (H : Heap w0 F L W) (j : Nat) (hj : L[j]? = some (mp C venc b l)) {es : Array MapEntry} {clock : Nat} {l' : List (α × β)} (hk : MapOk C venc es clock l') : Heap w0 F (L.set j (mp C venc b l')) (setBlock W b (.map es clock)) := by
 obtain ⟨es0, clock0, hb, _⟩ := H.mp_get j hj
 refine H.at j hj (F' := [b]) ⟨?_, by simp [ids, mp], by simp [ids, mp], only_sb W b _⟩ (by simp [mp])
 intro E hE
 rw [List.mem_singleton.1 hE]
 exact ⟨es, clock, set_at W b _ _ hb, hk⟩
end
section
variable {P : Program} {ops : Array Oper} {rest : List Oper} {n : Sz} {k : Nat} {f : Nat → Value} {W W' w0 : World} {F : List Nat} {L : List Ent} {Q : Exit → Act → World → Prop} {ty : TypeId} {pos : String} {af : Array Edge} {g : Option (Nat × Bool)} {dst : Option Tmp} {x y u : Operand} {v z : Value} {t e kt : TypeId}
variable {α β : Type} [DecidableEq α] {C : KC P kt α} {venc : β → Value} {b r : Nat} {l : List (α × β)} {lb : List ((α × β) × Bool)} {cur : Option (α × β)} {a : α} {q : β}
/-- make(map[K]V) -/
theorem s_mm (C : KC P kt α) (venc : β → Value) (H : Heap w0 F L W) (hw : Region.wanted ⟨some k, .makeMap t none, ty, pos, af, g⟩ (yl n f ops) = true)
  (h : ∀ b W', Heap w0 F (mp C venc b ([] : List (α × β)) :: L) W' → SL P ops Q rest n (upd f k (.map (some b))) W') : SL P ops Q (⟨some k, .makeMap t none, ty, pos, af, g⟩ :: rest) n f W := by
 refine s_run rfl hw (W' := W.alloc (.map #[] 0)) rfl (h _ _ (H.more (A := [mp C venc W.heap.size []]) ⟨?_, by simp [ids, mp], by simp [ids, mp], ?_⟩))
 ·intro E hE
  rw [List.mem_singleton.1 hE]
  exact ⟨#[], 0, heap_alloc_new W _, MapOk.nil⟩
 ·exact Only.of_below ((Below.refl _ _).alloc (Nat.le_refl _) _) _
/-- m[a] -/
theorem r_lk (H : Heap w0 F L W) (j : Nat) (hj : L[j]? = some (mp C venc b l)) (hx : ev n f x = .map (some b)) (hy : ev n f y = C.enc a) (ga : C.Gd a) (ht : P.underlying t = some (.map kt e)) (hz : ∀ W, (zeroValue e).run P W = .ok z W) (ok : Bool) :
  (execOp (ev n f) ⟨dst, .lookup t x y ok, ty, pos, af, g⟩).run P W = .ok (.value (if ok then .tuple #[((mget l a).map venc).getD z, .bool (mget l a).isSome] else ((mget l a).map venc).getD z)) W := by
 obtain ⟨es, clock, hb, hk⟩ := H.mp_get j hj
 have h := hk.look ht (hz W) hb a ga ok
 simp only [execOp, hx, hy, Sem.run_bind, h, Result.andThen_ok, Sem.run_pure]
theorem r_lkS (H : Heap w0 F L W) (j : Nat) (hj : L[j]? = some (mp C venc b l)) (hx : ev n f x = .map (some b)) (hy : ev n f y = C.enc a) (ga : C.Gd a) (hm : mget l a = some q) (ht : P.underlying t = some (.map kt e)) (hz : ∀ W, (zeroValue e).run P W = .ok z W) (hv : venc q = v) :
  (execOp (ev n f) ⟨dst, .lookup t x y false, ty, pos, af, g⟩).run P W = .ok (.value v) W := by
 have h := r_lk (dst := dst) (ty := ty) (pos := pos) (af := af) (g := g) H j hj hx hy ga ht hz false
 rw [h, hm, ← hv]; rfl
theorem r_lkN (H : Heap w0 F L W) (j : Nat) (hj : L[j]? = some (mp C venc b l)) (hx : ev n f x = .map (some b)) (hy : ev n f y = C.enc a) (ga : C.Gd a) (hm : mget l a = none) (ht : P.underlying t = some (.map kt e)) (hz : ∀ W, (zeroValue e).run P W = .ok z W) :
  (execOp (ev n f) ⟨dst, .lookup t x y false, ty, pos, af, g⟩).run P W = .ok (.value z) W := by
 have h := r_lk (dst := dst) (ty := ty) (pos := pos) (af := af) (g := g) H j hj hx hy ga ht hz false
 rw [h, hm]; rfl
theorem r_loS (H : Heap w0 F L W) (j : Nat) (hj : L[j]? = some (mp C venc b l)) (hx : ev n f x = .map (some b)) (hy : ev n f y = C.enc a) (ga : C.Gd a) (hm : mget l a = some q) (ht : P.underlying t = some (.map kt e)) (hz : ∀ W, (zeroValue e).run P W = .ok z W) (hv : venc q = v) :
  (execOp (ev n f) ⟨dst, .lookup t x y true, ty, pos, af, g⟩).run P W = .ok (.value (.tuple [v, .bool true].toArray)) W := by
 have h := r_lk (dst := dst) (ty := ty) (pos := pos) (af := af) (g := g) H j hj hx hy ga ht hz true
 rw [h, hm, ← hv]; rfl
theorem r_loN (H : Heap w0 F L W) (j : Nat) (hj : L[j]? = some (mp C venc b l)) (hx : ev n f x = .map (some b)) (hy : ev n f y = C.enc a) (ga : C.Gd a) (hm : mget l a = none) (ht : P.underlying t = some (.map kt e)) (hz : ∀ W, (zeroValue e).run P W = .ok z W) :
  (execOp (ev n f) ⟨dst, .lookup t x y true, ty, pos, af, g⟩).run P W = .ok (.value (.tuple [z, .bool false].toArray)) W := by
 have h := r_lk (dst := dst) (ty := ty) (pos := pos) (af := af) (g := g) H j hj hx hy ga ht hz true
 rw [h, hm]; rfl
/-- m[a] = q -/
theorem s_mu (H : Heap w0 F L W) (j : Nat) (hw : Region.wanted ⟨none, .mapUpdate t x y u, ty, pos, af, g⟩ (yl n f ops) = true) (hj : L[j]? = some (mp C venc b l)) (hx : ev n f x = .map (some b)) (hy : ev n f y = C.enc a) (hu : ev n f u = venc q) (ga : C.Gd a) (ht : P.underlying t = some (.map kt e))
  (h : ∀ W', Heap w0 F (L.set j (mp C venc b (mput l a q))) W' → SL P ops Q rest n f W') : SL P ops Q (⟨none, .mapUpdate t x y u, ty, pos, af, g⟩ :: rest) n f W := by
 obtain ⟨es, clock, hb, hk⟩ := H.mp_get j hj
 obtain ⟨es', clock', hrun, hk'⟩ := hk.put ht hb a ga q
 exact s_do rfl hw (by simp only [execOp, hx, hy, hu, Sem.run_bind, hrun, Result.andThen_ok, Sem.run_pure]) (h _ (H.mp_set j hj hk'))
end
theorem zv_of {P : Program} {t : TypeId} {z : Value} {size bytes : Nat} (hi : Inf P t z size bytes) : ∀ W, (zeroValue t).run P W = .ok z W := by
 obtain ⟨i, h1, h2, _, _⟩ := hi.ex
 exact fun W => by simp [zeroValue, typeInfo, h1, h2]
/-- keys that are ints -/
def kI (P : Program) (kt : TypeId) (h : P.underlying kt = some (.int .i64)) : KC P kt Int :=
 ⟨Value.int .i64, fun a => -9223372036854775808 ≤ a ∧ a ≤ 9223372036854775807, Go.Maps.int_keyed h, fun a ha => ⟨_, Go.Maps.keyOf_int_mk h (wf_i64 ha)⟩, fun a b e => by injection e⟩
end Go.Proofs.Ytlakbclnilakbaa
end
