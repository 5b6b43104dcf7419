/- Two arrays of integers by value: are they alike? -/
import Derived.Test.YtmekhdclnhhhbaaInts
import Derived.Laws.StructEq
namespace Go.Proofs.Ytmekhdclnhhhbaa
set_option linter.unusedVariables false
open Go.RowKit
section
variable {P : Program} (w : World)
theorem run_eqItems_ints (d : Nat) {e : TypeId} {kk k : IntKind} (he : P.underlying e = some (.int kk)) (xs ys : List Int) (n : Nat) (hx : xs.length = n) (hy : ys.length = n) :
    ∀ is : List Nat, (∀ i ∈ is, i < n) → (Op.eqItems (d + 1) e 1 (xs.map (Value.int k)).toArray (ys.map (Value.int k)).toArray is).run P w = .ok (is.all fun i => xs.getD i 0 == ys.getD i 0) w
  | [], _ => by simp [Op.eqItems]
  | i :: is, h => by
    have hi : i < n := h i (by simp)
    have px : (part e (xs.map (Value.int k)).toArray (i * 1)).run P w = .ok (.int k (xs.getD i 0)) w := by
      simp [part, isAgg, run_underlying he, List.getD, List.getElem?_eq_getElem (show i < xs.length by omega)]
    have py : (part e (ys.map (Value.int k)).toArray (i * 1)).run P w = .ok (.int k (ys.getD i 0)) w := by
      simp [part, isAgg, run_underlying he, List.getD, List.getElem?_eq_getElem (show i < ys.length by omega)]
    have ih := run_eqItems_ints d (k := k) he xs ys n hx hy is (fun j hj => h j (by simp [hj]))
    simp only [Op.eqItems, Sem.run_bind, px, py, run_equalIn_int w d e k kk _ _ he, Result.andThen_ok, List.all_cons]
    cases hb : (xs.getD i 0 == ys.getD i 0)
    · simp
    · simpa using ih
theorem run_equalIn_ints (d : Nat) {t e : TypeId} {n : Nat} {kk k : IntKind} (ht : P.underlying t = some (.array n e)) (he : P.underlying e = some (.int kk)) {i : TypeInfo} (hi : P.info? e = some i) (hc : P.cellsOf e = 1) (xs ys : List Int) (hx : xs.length = n) (hy : ys.length = n) :
    (Op.equalIn (d + 2) t (.agg (xs.map (Value.int k)).toArray) (.agg (ys.map (Value.int k)).toArray)).run P w = .ok (eqB xs ys) w := by
  rw [run_equalIn_array w (d + 1) _ _ ht hi, hc, run_eqItems_ints w d he xs ys n hx hy (List.range n) (fun i hi => List.mem_range.1 hi)]
  congr 1
  unfold eqB
  rw [Bool.eq_iff_iff]
  simp only [List.all_eq_true, List.mem_range, beq_iff_eq, decide_eq_true_eq]
  constructor
  · intro h
    apply List.ext_getElem (by omega)
    intro j h1 h2
    have := h j (by omega)
    simpa [List.getD, List.getElem?_eq_getElem h1, List.getElem?_eq_getElem h2] using this
  · rintro rfl _ _; rfl
end
end Go.Proofs.Ytmekhdclnhhhbaa
