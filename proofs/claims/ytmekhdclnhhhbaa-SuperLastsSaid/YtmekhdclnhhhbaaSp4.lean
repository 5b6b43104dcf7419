/- Regions that draw their order: what comes ahead of a tail leaves the memory that is known as it was; one order serves. -/
import Derived.Test.YtmekhdclnhhhbaaSp3
import Derived.StillTail
namespace Go.Proofs.Ytmekhdclnhhhbaa
set_option linter.unusedSimpArgs false
set_option linter.unusedVariables false
open Go.RowKit
section
variable {P : Program} {ops : Array Oper} {md : Region.Mode} {C : World → Prop}
/-- f operations of the head in whatever order, then what M asks -/
def anyHead (P : Program) (md : Region.Mode) (ops : Array Oper) (C : World → Prop) (n : Nat) (M : Array Bool → Act → Prop) : Nat → Array Bool → Act → Prop
  | 0, listed, a => M listed a
  | f + 1, listed, a => Region.ready md ops listed ≠ [] ∧ ∀ i ∈ Region.ready md ops listed, i < n ∧ qOp P ops C i (anyHead P md ops C n M f (listed.setIfInBounds i true)) a
theorem any_of_head {n g : Nat} {M : Array Bool → Act → Prop} {Q : Exit → Act → World → Prop} (hM : ∀ listed a, M listed a → ∀ w, C w → wpAny P md ops Q g listed a w) :
    ∀ (f : Nat) (listed : Array Bool) (a : Act) (w : World), C w → anyHead P md ops C n M f listed a → wpAny P md ops Q (f + g) listed a w := by
  intro f
  induction f with
  | zero => intro listed a w hw h; rw [Nat.zero_add]; exact hM _ _ h w hw
  | succ f ih =>
    intro listed a w hw h
    rw [Nat.succ_add]
    exact ⟨fun h0 => absurd h0 h.1, fun i hi => wpOp_of_qOp hw (fun a' w' hw' ha => ih _ a' w' hw' ha) (h.2 i hi).2⟩
theorem head_first {n i : Nat} {oi : Oper} {v : Value} {M : Array Bool → Act → Prop} (hi : ops[i]? = some oi) (hsel : ∀ (j : Nat) (o : Oper) cs b, ops[j]? = some o → o.op ≠ .select cs b)
    (hs : Region.sinkB md ops n = true) (hc : Region.chainB md ops n = true) (hn : n < ops.size) (hin : i < n) (hdone : ∀ listed a, M listed a → ∀ j ∈ Region.ready md ops listed, n ≤ j) :
    ∀ (f : Nat) (listed : Array Bool) (a : Act), HeadInv md ops n listed →
      (∀ j oj, ops[j]? = some oj → j ≠ i → listed.getD j true = false → (∀ e ∈ oj.after, Region.binds md e = true → e.on ≠ i) → oi.apart ops oj = true) →
      i ∈ Region.ready md ops listed → YieldsIn P ops C oi v a →
      anyHead P md ops C n M f (listed.setIfInBounds i true) (a.put oi.dst v) → anyHead P md ops C n M (f + 1) listed a := by
  intro f
  induction f with
  | zero =>
    intro listed a inv _ hr hy H
    refine ⟨fun h0 => (by rw [h0] at hr; cases hr), fun j hj => ?_⟩
    have hjn : j < n := Nat.lt_of_not_le fun hle => tail_waits hs hc hn inv _ i rfl hin (mem_ready.1 hr).1 j hle hj
    by_cases e : j = i
    · subst e; exact ⟨hjn, hy.qOp hi H⟩
    · have := hdone _ _ H j (ready_mono hj e); omega
  | succ f ih =>
    intro listed a inv free hr hy H
    refine ⟨fun h0 => (by rw [h0] at hr; cases hr), fun j hj => ?_⟩
    have hun := (mem_ready.1 hr).1
    have hjn : j < n := Nat.lt_of_not_le fun hle => tail_waits hs hc hn inv _ i rfl hin hun j hle hj
    refine ⟨hjn, ?_⟩
    by_cases e : j = i
    · subst e; exact hy.qOp hi H
    obtain ⟨hjun, oj, hoj, hall⟩ := mem_ready.1 hj
    have hno : ∀ e ∈ oj.after, Region.binds md e = true → e.on ≠ i := fun e he hb heq => by
      have h1 := hall e he hb
      rw [heq, getD_both hun] at h1; cases h1
    have h2 := qOp_put hoj (free j oj hoj e hjun hno) (fun cs b => hsel i oi cs b hi) (fun cs b => hsel j oj cs b hoj) hy (H.2 j (ready_mono hj e)).2
    refine qOp_mono (fun a' h3 => ih _ a' (inv.set hj hjn) (fun k ok hk hki hu hn2 => free k ok hk hki ?_ hn2) (ready_mono hr (Ne.symm e)) h3.1 ?_) h2
    · by_cases hjk : j = k
      · subst hjk; exact hjun
      · rw [getD_set_ne true hjk] at hu; exact hu
    · rw [Array.setIfInBounds_comm _ _ e]; exact h3.2
theorem head_lex {n g : Nat} {Qa : Act → Prop} (hsel : Region.noSelect ops = true) (hs : Region.sinkB md ops n = true) (hc : Region.chainB md ops n = true) (hn : n < ops.size) :
    ∀ (l : List Oper) (k : Nat) (listed : Array Bool) (a : Act), (∀ j, j < l.length → l[j]? = ops[k + j]?) → k + l.length = n → HeadInv md ops n listed →
    Region.lexHead md ops g l.length k listed = true → wpQuiet P ops C Qa l a → anyHead P md ops C n (fun li a' => Region.seqB md ops g n li = true ∧ Qa a') l.length listed a
  | [], k, listed, a, _, hk, _, hB, h => by
    obtain rfl : k = n := by simpa using hk
    exact ⟨by simpa [Region.lexHead] using hB, h⟩
  | o :: l, k, listed, a, hl, hk, inv, hB, h => by
    have h0 : ops[k]? = some o := by simpa using (hl 0 (by simp)).symm
    simp only [List.length_cons, Region.lexHead, Bool.and_eq_true] at hB
    have hkn : k < n := by simp only [List.length_cons] at hk; omega
    have hr : k ∈ Region.ready md ops listed := by simpa using hB.1.1
    obtain ⟨v, hy, hK⟩ := yieldsIn_of_qOp h0 (show qOp P ops C k (wpQuiet P ops C Qa l) a by unfold qOp; simp only [h0]; exact h)
    refine head_first h0 (Region.noSelect_spec hsel) hs hc hn hkn (fun li a' hM => seqB_ready hM.1) l.length listed a inv (Region.free_spec h0 hB.1.2) hr hy ?_
    exact head_lex hsel hs hc hn l (k + 1) _ _ (fun j hj => by have := hl (j + 1) (by simp; omega); simpa [Nat.add_assoc, Nat.add_comm 1 j] using this) (by simp only [List.length_cons] at hk; omega) (inv.set hr hkn) hB.2 hK
/-- n quiet operations, then the rest in its order -/
theorem region_tail {id : Nat} {Q : Exit → Act → World → Prop} {a : Act} {w : World} {l : List Oper} (n : Nat) (hm : P.follows .mixedOrders = true) (hB : Region.lexTailB .any l.toArray n = true) (hC : C w.drew)
    (h : wpQuiet P l.toArray C (fun a' => ∀ w', C w' → wpList P l.toArray Q (l.drop n) a' w') (l.take n) a) : (Code.region id l.toArray true).wp P Q a w := by
  simp only [Region.lexTailB, Bool.and_eq_true, decide_eq_true_eq] at hB
  obtain ⟨⟨⟨⟨hsel, hn⟩, hs⟩, hc⟩, hlex⟩ := hB
  have hn' : n < l.length := by simpa using hn
  have htl : (l.take n).length = n := by simp; omega
  have hdl : (l.drop n).length = l.toArray.size - n := by simp
  have inv0 : HeadInv .any l.toArray n (Array.replicate l.toArray.size false) :=
    ⟨by simp, fun j oj _ hl => (by rw [getD_replicate_false] at hl; cases hl), fun t _ ht => getD_in (by simpa using ht) (getD_replicate_false _ _)⟩
  have H := head_lex (md := .any) (g := l.toArray.size - n) hsel hs hc hn (l.take n) 0 _ a (fun j hj => by
    rw [htl] at hj; simp [hj]) (by simpa using htl) inv0 (by rw [htl]; exact hlex) h
  refine wp_region_any hm ?_
  have H2 := any_of_head (Q := Q) (g := l.toArray.size - n) (fun listed a' hL w' hw' => by
    have := wpAny_of_seq (md := .any) (Q' := Q) (l.drop n) n listed a' w' (fun j => by simp [List.getElem?_drop]) (by rw [hdl]; exact hL.1) (hL.2 w' hw')
    rwa [hdl] at this) _ _ _ _ hC H
  rw [htl, show n + (l.toArray.size - n) = l.toArray.size by omega] at H2
  exact H2
end
theorem wpQuiet_mono {P : Program} {ops : Array Oper} {C : World → Prop} {Q Q' : Act → Prop} (hq : ∀ a, Q a → Q' a) : ∀ (l : List Oper) (a : Act), wpQuiet P ops C Q l a → wpQuiet P ops C Q' l a
  | [], a, h => hq a h
  | o :: l, a, h => by
    unfold wpQuiet at *
    split
    · rename_i hw; rw [if_pos hw] at h; exact Oper.quiet_mono (wpQuiet_mono hq l) h
    · rename_i hw; rw [if_neg hw] at h; exact wpQuiet_mono hq l _ h
section
variable {P : Program} {ops : Array Oper} {rest l : List Oper} {n k id : Nat} {f : Nat → Value} {W w0 : World} {F : List Nat} {L : List Ent} {Q : Exit → Act → World → Prop} {a : Act} {v : Value} {o : Oper} {Qa : Act → Prop} {C : World → Prop}
structure QL (P : Program) (ops : Array Oper) (C : World → Prop) (Qa : (Nat → Value) → Prop) (l : List Oper) (n : Nat) (f : Nat → Value) : Prop where
  out : wpQuiet P ops C (fun a => ∃ f', a = Fn n f' ∧ Qa f') l (Fn n f)
theorem k_q (hm : P.follows .mixedOrders = true) (hB : Region.lexB .any l.toArray = true) (H : Heap w0 F L W)
    (h : QL P l.toArray (fun W => Heap w0 F L W) (fun f' => ∀ W', Heap w0 F L W' → PQ Q .normal n f' W') l n f) : CW P (Code.region id l.toArray true) Q n f W :=
  ⟨wp_region_quiet hm hB H.drew (by
    refine wpQuiet_mono ?_ _ _ (by simpa using h.out)
    rintro a ⟨f', rfl, h2⟩ W' hW'
    exact (h2 W' hW').out)⟩
theorem k_qt (m : Nat) {l1 l2 : List Oper} (hm : P.follows .mixedOrders = true) (hB : Region.lexTailB .any l.toArray m = true) (H : Heap w0 F L W) (h1 : l.take m = l1) (h2 : l.drop m = l2)
    (h : QL P l.toArray (fun W => Heap w0 F L W) (fun f' => ∀ W', Heap w0 F L W' → SL P l.toArray Q l2 n f' W') l1 n f) : CW P (Code.region id l.toArray true) Q n f W :=
  ⟨region_tail m hm hB H.drew (by
    rw [h1, h2]
    refine wpQuiet_mono ?_ _ _ h.out
    rintro a ⟨f', rfl, h3⟩ W' hW'
    exact (h3 W' hW').out)⟩
theorem q_nil {Qa : (Nat → Value) → Prop} (h : Qa f) : QL P ops C Qa [] n f := ⟨⟨f, rfl, h⟩⟩
theorem q_run {Qa : (Nat → Value) → Prop} (hd : o.dst = some k) (hw : Region.wanted o (yl n f ops) = true) (hr : ∀ W, C W → (execOp (ev n f) o).run P W = .ok (.value v) W) (h : QL P ops C Qa rest n (upd f k v)) : QL P ops C Qa (o :: rest) n f := by
  constructor
  have hy : yielded ops (Fn n f).tmps = yl n f ops := funext (yl_eq n f ops)
  unfold wpQuiet
  rw [hy, if_pos hw]
  refine ⟨v, fun W hW => ?_, by rw [hd, Fn_put]; exact h.out⟩
  unfold Oper.quietAt
  rw [Fn_eval, hr W hW]
  exact ⟨rfl, rfl⟩
theorem q_off {Qa : (Nat → Value) → Prop} (hd : o.dst = some k) (hw : Region.wanted o (yl n f ops) = false) (h : QL P ops C Qa rest n (upd f k undef)) : QL P ops C Qa (o :: rest) n f := by
  constructor
  have hy : yielded ops (Fn n f).tmps = yl n f ops := funext (yl_eq n f ops)
  unfold wpQuiet
  rw [hy, hw, hd, Fn_put]
  exact h.out
theorem q_call {Qa : (Nat → Value) → Prop} {fn : FuncId} {vs : List Value} (hd : o.dst = some k) (hw : Region.wanted o (yl n f ops) = true) (hc : ∀ W, Heap w0 F L W → Calls P fn vs.toArray W (fun e w' => e = .returned v ∧ Only [] W w')) (hrun : ∀ W, (execOp (ev n f) o).run P W = .ok (.enter fn vs.toArray) W)
    (h : QL P ops (fun W => Heap w0 F L W) Qa rest n (upd f k v)) : QL P ops (fun W => Heap w0 F L W) Qa (o :: rest) n f := by
  constructor
  have hy : yielded ops (Fn n f).tmps = yl n f ops := funext (yl_eq n f ops)
  unfold wpQuiet
  rw [hy, if_pos hw]
  refine ⟨v, fun W hW => ?_, by rw [hd, Fn_put]; exact h.out⟩
  unfold Oper.quietAt
  rw [Fn_eval, hrun W]
  exact ⟨rfl, (hc W hW).mono fun e w' h2 => ⟨h2.1, hW.same h2.2⟩⟩
end
end Go.Proofs.Ytmekhdclnhhhbaa
