/- Words for walks: frames as functions, memory as a list of entries, one lemma an operation. -/
import Derived.Test.YtmekhdclnhhhbaaReg2
import Derived.Deep.Quiet
namespace Go.Proofs.Ytmekhdclnhhhbaa
set_option linter.unusedSimpArgs false
set_option linter.unusedVariables false
open Go.RowKit
/-! frames -/
def upd (f : Nat → Value) (k : Nat) (v : Value) : Nat → Value := fun t => bif Nat.beq t k then v else f t
def Fn (n : Nat) (f : Nat → Value) : Act := ⟨((List.range n).map f).toArray, []⟩
def ev (n : Nat) (f : Nat → Value) : Operand → Value
  | .tmp t => bif Nat.blt t n then f t else undef
  | .const v => v
  | .global g => .pointer (some ⟨g, 0, none⟩)
  | .func g => .func (.func g) #[] #[]
theorem upd_same {f : Nat → Value} {k : Nat} {v : Value} (h : f k = v) : upd f k v = f := by
  funext t
  unfold upd
  cases hb : Nat.beq t k
  · rfl
  · have : t = k := Nat.eq_of_beq_eq_true hb
    subst this; exact h.symm
theorem Fn_size (n : Nat) (f : Nat → Value) : (Fn n f).tmps.size = n := by simp [Fn]
theorem Fn_get (n : Nat) (f : Nat → Value) (t : Nat) : (Fn n f).tmps[t]? = if t < n then some (f t) else none := by
  simp only [Fn, List.getElem?_toArray, List.getElem?_map]
  by_cases h : t < n
  · simp [h]
  · simp [h]
theorem Fn_eval (n : Nat) (f : Nat → Value) : (Fn n f).eval = ev n f := by
  funext x
  cases x with
  | tmp t =>
    simp only [Act.eval, ev, Array.getD_eq_getD_getElem?, Fn_get]
    by_cases h : t < n
    · have : Nat.blt t n = true := by simpa [Nat.blt_eq] using h
      simp [h, this]
    · have : Nat.blt t n = false := by rw [Bool.eq_false_iff]; simpa [Nat.blt_eq] using h
      simp [h, this]
  | const v => rfl
  | global g => rfl
  | func g => rfl
theorem Fn_put (n : Nat) (f : Nat → Value) (k : Nat) (v : Value) : (Fn n f).put (some k) v = Fn n (upd f k v) := by
  simp only [Act.put, Fn, Act.mk.injEq, and_true]
  apply Array.ext_getElem?
  intro i
  rw [Array.getElem?_setIfInBounds]
  simp only [List.getElem?_toArray, List.getElem?_map, List.size_toArray, List.length_map, List.length_range]
  by_cases hi : i < n
  · by_cases e : k = i
    · subst e; simp [upd, hi]
    · have : Nat.beq i k = false := by rw [Bool.eq_false_iff]; intro h; exact e (Nat.eq_of_beq_eq_true h).symm
      simp [upd, hi, e, this]
  · have h1 : (List.range n)[i]? = none := by simp; omega
    simp only [h1, Option.map_none]
    split
    · split
      · omega
      · rfl
    · rfl
def yl (n : Nat) (f : Nat → Value) (ops : Array Oper) (j : Nat) : Option Bool :=
  match (ops[j]?).bind (·.dst) with
  | some k => (match ev n f (.tmp k) with | .bool b => some b | _ => none)
  | none => none
theorem yl_eq (n : Nat) (f : Nat → Value) (ops : Array Oper) (j : Nat) : yielded ops (Fn n f).tmps j = yl n f ops j := by
  unfold yielded yl
  cases h : (ops[j]?).bind (·.dst) with
  | none => simp
  | some k =>
    simp only [Option.bind_some, Fn_get]
    by_cases hk : k < n
    · have : Nat.blt k n = true := by simpa [Nat.blt_eq] using hk
      simp only [hk, if_true, ev, this, cond_true]
      cases f k <;> rfl
    · have : Nat.blt k n = false := by rw [Bool.eq_false_iff]; simpa [Nat.blt_eq] using hk
      simp only [hk, if_false, ev, this, cond_false]
      rfl
/-! code -/
section
variable {P : Program} {ops : Array Oper} {rest : List Oper} {n k id : Nat} {f : Nat → Value} {W W' : World} {Q : Exit → Act → World → Prop} {a : Act} {v : Value} {o : Oper}
/-- words that no tactic looks behind -/
structure CW (P : Program) (c : Code) (Q : Exit → Act → World → Prop) (n : Nat) (f : Nat → Value) (W : World) : Prop where
  out : c.wp P Q (Fn n f) W
structure SL (P : Program) (ops : Array Oper) (Q : Exit → Act → World → Prop) (l : List Oper) (n : Nat) (f : Nat → Value) (W : World) : Prop where
  out : wpList P ops Q l (Fn n f) W
structure PQ (Q : Exit → Act → World → Prop) (e : Exit) (n : Nat) (f : Nat → Value) (W : World) : Prop where
  out : Q e (Fn n f) W
theorem c_norm {y : Code} (h : CW P y Q n f W) : PQ (Exit.then (y.wp P Q) Q) .normal n f W := ⟨h.out⟩
theorem c_round {K : Act → World → Prop} (h : K (Fn n f) W) : PQ (Exit.then K Q) .normal n f W := ⟨h⟩
theorem c_exit {K : Act → World → Prop} {i : Nat} (h : PQ Q (.exit i) n f W) : PQ (Exit.then K Q) (.exit i) n f W := ⟨h.out⟩
theorem c_ret {K : Act → World → Prop} (h : PQ Q .ret n f W) : PQ (Exit.then K Q) .ret n f W := ⟨h.out⟩
theorem b_norm (h : PQ Q .normal n f W) : PQ (Exit.inBlock id Q) .normal n f W := ⟨h.out⟩
theorem b_ret (h : PQ Q .ret n f W) : PQ (Exit.inBlock id Q) .ret n f W := ⟨h.out⟩
theorem b_hit (h : PQ Q .normal n f W) : PQ (Exit.inBlock id Q) (.exit id) n f W := ⟨by simp only [Exit.inBlock, if_true]; exact h.out⟩
theorem b_miss {i : Nat} (hi : Nat.beq i id = false) (h : PQ Q (.exit i) n f W) : PQ (Exit.inBlock id Q) (.exit i) n f W := by
  have : i ≠ id := by intro e; subst e; simp at hi
  exact ⟨by simp only [Exit.inBlock, this, if_false]; exact h.out⟩
theorem k_seq {x y : Code} (h : CW P x (Exit.then (y.wp P Q) Q) n f W) : CW P (Code.seq x y) Q n f W := ⟨wp_seq h.out⟩
theorem k_rg {l : List Oper} (h : SL P l.toArray Q l n f W) : CW P (Code.region id l.toArray false) Q n f W := ⟨wp_region_lit h.out⟩
theorem k_nil (h : PQ Q .normal n f W) : SL P ops Q [] n f W := ⟨h.out⟩
theorem k_t {c : Operand} {x y : Code} (hc : ev n f c = .bool true) (h : CW P x Q n f W) : CW P (Code.cond c x y) Q n f W := ⟨wp_cond_true (by rw [Fn_eval]; exact hc) h.out⟩
theorem k_f {c : Operand} {x y : Code} (hc : ev n f c = .bool false) (h : CW P y Q n f W) : CW P (Code.cond c x y) Q n f W := ⟨wp_cond_false (by rw [Fn_eval]; exact hc) h.out⟩
theorem k_b {c : Code} (h : CW P c (Exit.inBlock id Q) n f W) : CW P (Code.block id c) Q n f W := ⟨wp_block h.out⟩
theorem k_skip (h : PQ Q .normal n f W) : CW P Code.skip Q n f W := ⟨wp_skip h.out⟩
theorem k_exit (h : PQ Q (.exit id) n f W) : CW P (Code.exit id) Q n f W := ⟨wp_exit h.out⟩
theorem k_ret (h : PQ Q .ret n f W) : CW P Code.ret Q n f W := ⟨wp_ret h.out⟩
theorem k_enter {g : FuncId} {fn : Func} {c : Code} {l : List Value} {R : Ending → World → Prop} (hf : P.funcs[g]? = some fn) (hb : fn.body = some c) {N : Nat} (hN : fn.ntmps = N) (hl : l.length ≤ N)
    (f0 : Nat → Value) (h0 : ∀ i v, l[i]? = some v → f0 i = v) (h1 : ∀ i, l.length ≤ i → f0 i = undef)
    (h : c.wp P (bodyPost P fn R) (Fn N f0) W) : Calls P g l.toArray W R := by
  refine calls_of_wp hf hb ?_
  have e : ({ tmps := l.toArray ++ Array.replicate (fn.ntmps - l.toArray.size) undef, defers := [] } : Act) = Fn N f0 := by
    simp only [Fn, Act.mk.injEq, and_true]
    apply Array.ext_getElem?
    intro i
    rw [Array.getElem?_append]
    simp only [List.size_toArray, List.getElem?_toArray, List.getElem?_map, hN]
    split
    · rename_i hi
      have hg : l[i]? = some l[i] := List.getElem?_eq_getElem hi
      have hiN : i < N := by omega
      have hr : (List.range N)[i]? = some i := by simp [hiN]
      rw [hg, hr, Option.map_some, h0 i _ hg]
    · rename_i hi
      by_cases hiN : i < N
      · have hr : (List.range N)[i]? = some i := by simp [hiN]
        rw [hr, Option.map_some, h1 i (by omega), Array.getElem?_replicate, if_pos (by omega)]
      · have hr : (List.range N)[i]? = none := by simp; omega
        rw [hr, Option.map_none, Array.getElem?_replicate, if_neg (by omega)]
  rw [e]; exact h
def args (l : List Value) : Nat → Value := fun i => l.getD i undef
theorem k_in {g : FuncId} {fn : Func} {c : Code} {l : List Value} {R : Ending → World → Prop} (hf : P.funcs[g]? = some fn) (hb : fn.body = some c) {N : Nat} (hN : fn.ntmps = N) (hl : Nat.ble l.length N = true)
    (h : CW P c (bodyPost P fn R) N (args l) W) : Calls P g l.toArray W R :=
  k_enter hf hb hN (Nat.le_of_ble_eq_true hl) _ (fun i v h => by simp [args, List.getD, h]) (fun i hi => by simp [args, List.getD, List.getElem?_eq_none hi]) h.out
theorem fin0 {fn : Func} {R : Ending → World → Prop} (hr : fn.results = #[]) (hR : R (.returned (.tuple #[])) W) : PQ (bodyPost P fn R) .normal n f W :=
  ⟨bodyPost_end (results_none hr _ _ _) rfl hR⟩
theorem fin0r {fn : Func} {R : Ending → World → Prop} (hr : fn.results = #[]) (hR : R (.returned (.tuple #[])) W) : PQ (bodyPost P fn R) .ret n f W :=
  ⟨bodyPost_ret (results_none hr _ _ _) rfl hR⟩
theorem ev_getD (t : Nat) : (Fn n f).tmps.getD t undef = ev n f (.tmp t) := congrFun (Fn_eval n f) (.tmp t)
theorem fin1 {fn : Func} {R : Ending → World → Prop} {t : Nat} (hr : fn.results = #[.tmp t]) (hv : ev n f (.tmp t) = v) (hR : R (.returned v) W) : PQ (bodyPost P fn R) .normal n f W :=
  ⟨bodyPost_end (by rw [results_tmp hr, ev_getD, hv]) rfl hR⟩
theorem fin1r {fn : Func} {R : Ending → World → Prop} {t : Nat} (hr : fn.results = #[.tmp t]) (hv : ev n f (.tmp t) = v) (hR : R (.returned v) W) : PQ (bodyPost P fn R) .ret n f W :=
  ⟨bodyPost_ret (by rw [results_tmp hr, ev_getD, hv]) rfl hR⟩
theorem fin2r {fn : Func} {R : Ending → World → Prop} {t u : Nat} {v2 : Value} (hr : fn.results = #[.tmp t, .tmp u]) (hv : ev n f (.tmp t) = v) (hu : ev n f (.tmp u) = v2) (hR : R (.returned (.tuple #[v, v2])) W) : PQ (bodyPost P fn R) .ret n f W :=
  ⟨bodyPost_ret (by rw [results_tmp2 hr, ev_getD, ev_getD, hv, hu]) rfl hR⟩
theorem fin2 {fn : Func} {R : Ending → World → Prop} {t u : Nat} {v2 : Value} (hr : fn.results = #[.tmp t, .tmp u]) (hv : ev n f (.tmp t) = v) (hu : ev n f (.tmp u) = v2) (hR : R (.returned (.tuple #[v, v2])) W) : PQ (bodyPost P fn R) .normal n f W :=
  ⟨bodyPost_end (by rw [results_tmp2 hr, ev_getD, ev_getD, hv, hu]) rfl hR⟩
theorem least {p : Nat → Prop} (h : ∃ m, p m) : ∃ m, p m ∧ ∀ k, p k → m ≤ k := by
  classical
  obtain ⟨m, hm⟩ := h
  induction m using Nat.strongRecOn with
  | _ m ih =>
    by_cases h2 : ∃ k, k < m ∧ p k
    · obtain ⟨k, hk, hp⟩ := h2; exact ih k hk hp
    · exact ⟨m, hm, fun k hk => Nat.le_of_not_lt fun hlt => h2 ⟨k, hlt, hk⟩⟩
/-- a loop with a number that every round lowers -/
theorem k_loop {c : Code} (I : Nat → (Nat → Value) → World → Prop) (m0 : Nat) (h0 : I m0 f W)
    (round : ∀ m f W, I m f W → CW P c (Exit.then (fun a' W' => ∃ m' f', m' < m ∧ a' = Fn n f' ∧ I m' f' W') Q) n f W) : CW P (Code.loop c) Q n f W := by
  classical
  constructor
  let J : Act → World → Nat → Prop := fun a W m => ∃ f', a = Fn n f' ∧ I m f' W
  let μ : Act → World → Nat := fun a W => if h : ∃ m, J a W m then (least h).choose else 0
  refine wp_loop (fun a W => ∃ m, J a W m) μ ⟨m0, f, rfl, h0⟩ ?_
  intro a W hJ
  obtain ⟨f1, rfl, hI⟩ := (least hJ).choose_spec.1
  refine Code.wp_mono ?_ (round _ f1 W hI).out
  intro e a' W' hq
  cases e with
  | normal =>
    obtain ⟨m', f', hlt, rfl, hI'⟩ := hq
    have hJ' : ∃ m, J (Fn n f') W' m := ⟨m', f', rfl, hI'⟩
    refine ⟨hJ', ?_⟩
    show (if h : ∃ m, J (Fn n f') W' m then (least h).choose else 0) < (if h : ∃ m, J (Fn n f1) W m then (least h).choose else 0)
    rw [dif_pos hJ', dif_pos hJ]
    exact Nat.lt_of_le_of_lt ((least hJ').choose_spec.2 _ ⟨f', rfl, hI'⟩) hlt
  | _ => exact hq
theorem live1 {f : Nat → Value} {k1 : Nat} {v1 : Value} (h1 : f k1 = v1) : ∃ g, f = upd g k1 v1 := ⟨f, (upd_same h1).symm⟩
theorem live2 {f : Nat → Value} {k1 k2 : Nat} {v1 v2 : Value} (h1 : f k1 = v1) (h2 : f k2 = v2) : ∃ g, f = upd (upd g k1 v1) k2 v2 := ⟨f, by rw [upd_same h1, upd_same h2]⟩
theorem live3 {f : Nat → Value} {k1 k2 k3 : Nat} {v1 v2 v3 : Value} (h1 : f k1 = v1) (h2 : f k2 = v2) (h3 : f k3 = v3) : ∃ g, f = upd (upd (upd g k1 v1) k2 v2) k3 v3 := ⟨f, by rw [upd_same h1, upd_same h2, upd_same h3]⟩
theorem live4 {f : Nat → Value} {k1 k2 k3 k4 : Nat} {v1 v2 v3 v4 : Value} (h1 : f k1 = v1) (h2 : f k2 = v2) (h3 : f k3 = v3) (h4 : f k4 = v4) : ∃ g, f = upd (upd (upd (upd g k1 v1) k2 v2) k3 v3) k4 v4 := ⟨f, by rw [upd_same h1, upd_same h2, upd_same h3, upd_same h4]⟩
theorem live5 {f : Nat → Value} {k1 k2 k3 k4 k5 : Nat} {v1 v2 v3 v4 v5 : Value} (h1 : f k1 = v1) (h2 : f k2 = v2) (h3 : f k3 = v3) (h4 : f k4 = v4) (h5 : f k5 = v5) : ∃ g, f = upd (upd (upd (upd (upd g k1 v1) k2 v2) k3 v3) k4 v4) k5 v5 := ⟨f, by rw [upd_same h1, upd_same h2, upd_same h3, upd_same h4, upd_same h5]⟩
theorem live6 {f : Nat → Value} {k1 k2 k3 k4 k5 k6 : Nat} {v1 v2 v3 v4 v5 v6 : Value} (h1 : f k1 = v1) (h2 : f k2 = v2) (h3 : f k3 = v3) (h4 : f k4 = v4) (h5 : f k5 = v5) (h6 : f k6 = v6) : ∃ g, f = upd (upd (upd (upd (upd (upd g k1 v1) k2 v2) k3 v3) k4 v4) k5 v5) k6 v6 := ⟨f, by rw [upd_same h1, upd_same h2, upd_same h3, upd_same h4, upd_same h5, upd_same h6]⟩
/-! operations -/
theorem s_run (hd : o.dst = some k) (hw : Region.wanted o (yl n f ops) = true) (hr : (execOp (ev n f) o).run P W = .ok (.value v) W')
    (h : SL P ops Q rest n (upd f k v) W') : SL P ops Q (o :: rest) n f W := by
  constructor
  have hy : yielded ops (Fn n f).tmps = yl n f ops := funext (yl_eq n f ops)
  unfold wpList
  rw [hy, if_pos hw]
  refine .inl ?_
  unfold Oper.wp
  rw [Fn_eval, hr, Oper.upon_value, hd, Fn_put]
  exact h.out
theorem s_do (hd : o.dst = none) (hw : Region.wanted o (yl n f ops) = true) (hr : (execOp (ev n f) o).run P W = .ok .skip W')
    (h : SL P ops Q rest n f W') : SL P ops Q (o :: rest) n f W := by
  constructor
  have hy : yielded ops (Fn n f).tmps = yl n f ops := funext (yl_eq n f ops)
  unfold wpList
  rw [hy, if_pos hw]
  refine .inl ?_
  unfold Oper.wp
  rw [Fn_eval, hr, Oper.upon_skip, hd]
  exact h.out
theorem s_off (hd : o.dst = some k) (hw : Region.wanted o (yl n f ops) = false)
    (h : SL P ops Q rest n (upd f k undef) W) : SL P ops Q (o :: rest) n f W := by
  constructor
  have hy : yielded ops (Fn n f).tmps = yl n f ops := funext (yl_eq n f ops)
  unfold wpList
  rw [hy, hw, hd, Fn_put]
  exact h.out
theorem s_off0 (hd : o.dst = none) (hw : Region.wanted o (yl n f ops) = false)
    (h : SL P ops Q rest n f W) : SL P ops Q (o :: rest) n f W := by
  constructor
  have hy : yielded ops (Fn n f).tmps = yl n f ops := funext (yl_eq n f ops)
  unfold wpList
  rw [hy, hw, hd]
  exact h.out
end
end Go.Proofs.Ytmekhdclnhhhbaa
