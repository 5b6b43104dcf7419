/- Arrays inside rows, by value. -/
import Derived.Test.YtmekhdclnhhhbaaSp7
import Derived.Test.YtmekhdclnhhhbaaArrEq
namespace Go.Proofs.Ytmekhdclnhhhbaa
set_option linter.unusedSimpArgs false
set_option linter.unusedVariables false
open Go.RowKit
section
variable {P : Program} {n : Nat} {f : Nat → Value} {W w0 : World} {F : List Nat} {L : List Ent} {dst : Option Tmp} {ty : TypeId} {pos : String} {af : Array Edge} {g : Option (Nat × Bool)} {x y : Operand} {v : Value} {k : IntKind} {a b : Int} {t t2 e T : TypeId} {p o m : Nat} {cs vs : List Value}
theorem run_loadReads {α : Type} {enc : α → Value} {zs : List α} (h : Reads enc W p o zs) (hl : zs.length = m) (hagg : ∀ W, (isAgg t).run P W = .ok true W) (hsz : ∀ W, (Go.sizeOf t).run P W = .ok m W) : (loadVar t ⟨p, o, none⟩).run P W = .ok (.agg (zs.map enc).toArray) W := by
  have hr := run_loadCells_list (P := P) W ⟨p, o, none⟩ (zs.map enc) (fun j u hj => by
    rw [add_plain]
    rw [List.getElem?_map] at hj
    cases hz : zs[j]? with
    | none => rw [hz] at hj; simp at hj
    | some z => rw [hz] at hj; rw [h j z hz]; simpa using hj)
  simp only [loadVar, Sem.run_bind, hagg, Result.andThen_ok, if_true, hsz]
  rw [List.length_map, hl] at hr
  rw [hr]; simp
theorem r_lA {α : Type} {enc : α → Value} {zs : List α} (h : Reads enc W p o zs) (hx : ev n f x = .pointer (some ⟨p, o, none⟩)) (hl : zs.length = m) (hagg : ∀ W, (isAgg t).run P W = .ok true W) (hsz : ∀ W, (Go.sizeOf t).run P W = .ok m W) :
    (execOp (ev n f) ⟨dst, .load t x, ty, pos, af, g⟩).run P W = .ok (.value (.agg (zs.map enc).toArray)) W := by
  have h2 := run_loadReads (P := P) (t := t) h hl hagg hsz
  simp only [execOp, Instr.loadAt, hx, Instr.sureAddr, Sem.run_bind, Sem.run_pure, Result.andThen_ok, h2]
/-- arr[:] -/
theorem r_sla {l : Nat} {q : Addr} (hx : ev n f x = .pointer (some q)) (h : P.underlying t = some (.array l e)) (hm : ∀ W, (Go.sizeOf e).run P W = .ok m W) (hl : 0 < l) :
    (execOp (ev n f) ⟨dst, .slice t x none none none, ty, pos, af, g⟩).run P W = .ok (.value (.slice (some q) l l)) W := by
  have h1 : ¬ l = 0 := by omega
  have h2 : q.add (0 * m) = q := by simp [Addr.add]
  simp only [execOp, Instr.sliceAt, Instr.sliceBounds, Instr.sureAddr, hx, Option.map_none, Sem.run_bind, run_underlying h, Result.andThen_ok, Sem.run_pure, hm, h1, if_false, h2, Nat.sub_zero]
theorem r_arrB {xs ys : List Int} {l : Nat} {kk : IntKind} (hx : ev n f x = .agg (xs.map (Value.int k)).toArray) (hy : ev n f y = .agg (ys.map (Value.int k)).toArray) (lx : xs.length = l) (ly : ys.length = l) (ht : P.underlying t = some (.array l e)) (he : P.underlying e = some (.int kk)) (hi : ∃ z s b, Inf P e z s b) (hc : P.cellsOf e = 1) (hg : P.eqGuardType P.depth t = false) {q : Bool} (hq : (!eqB xs ys) = q) :
    (execOp (ev n f) ⟨dst, .binOp .neq t x y t2, ty, pos, af, g⟩).run P W = .ok (.value (.bool q)) W := by
  subst hq
  obtain ⟨z, s, b, hi⟩ := hi
  obtain ⟨i, hi0, _⟩ := hi.ex
  have h : (Op.equalIn (9998 + 2) t (.agg (xs.map (Value.int k)).toArray) (.agg (ys.map (Value.int k)).toArray)).run P W = .ok (eqB xs ys) W := run_equalIn_ints W 9998 ht he hi0 hc xs ys lx ly
  have h2 : (binOp .neq t (.agg (xs.map (Value.int k)).toArray) (.agg (ys.map (Value.int k)).toArray)).run P W = .ok (.bool (!eqB xs ys)) W := by
    simp only [binOp]
    simp only [Op.equal, Op.maxDepth, Sem.run_bind]
    rw [show (10000 : Nat) = 9998 + 2 from rfl, h]
    rfl
  have hp : ∀ W, (program : Sem Program).run P W = .ok P W := fun _ => rfl
  have h3 : (eqGuard .neq t x y (.agg (xs.map (Value.int k)).toArray) (.agg (ys.map (Value.int k)).toArray)).run P W = .ok () W := by
    simp [eqGuard, hp, hg]
  simp only [execOp, hx, hy, Sem.run_bind, h3, h2, Result.andThen_ok]
  rfl
end
section
variable {P : Program} {ops : Array Oper} {rest : List Oper} {n k k2 : Nat} {f : Nat → Value} {W w0 : World} {F : List Nat} {L : List Ent} {Q : Exit → Act → World → Prop} {ty ty2 : TypeId} {pos pos2 : String} {af af2 : Array Edge} {g : Option (Nat × Bool)} {x y s : Operand} {v u : Value} {t e : TypeId}
/-- an array is stored into a row -/
theorem s_svA {α : Type} {enc : α → Value} {p o m : Nat} {xs zs : List α} {T : TypeId} (H : Heap w0 F L W) (j : Nat) (hw : Region.wanted ⟨none, .store t x y, ty, pos, af, g⟩ (yl n f ops) = true) (hx : ev n f x = .pointer (some ⟨p, o, none⟩)) (hy : ev n f y = .agg (zs.map enc).toArray) (hj : L[j]? = some (vec enc p xs T))
    (hl : zs.length = m) (hfit : o + m ≤ xs.length ∧ 0 < m) (h1 : ∀ q, (enc q).oneCell' = true) (hs : ∀ W, (Go.sizeOf t).run P W = .ok m W)
    (h : ∀ W', Heap w0 F (L.set j (vec enc p (xs.take o ++ (zs ++ xs.drop (o + m))) T)) W' → SL P ops Q rest n f W') : SL P ops Q (⟨none, .store t x y, ty, pos, af, g⟩ :: rest) n f W := by
  obtain ⟨rs, hg⟩ := H.vec_get j hj (by omega)
  have hst := run_storeCells_at P p o T (zs.map enc) 0 _ W hg (by simp; omega) (fun v hv => by
    obtain ⟨z, _, rfl⟩ := List.mem_map.1 hv; exact h1 z)
  have H2 := H.vec_cp j hj (o := o) (ys := zs) (by omega) (by omega) hg
  simp only [Nat.add_zero] at hst
  rw [hl] at H2
  have hr : (Instr.storeAt t (.pointer (some ⟨p, o, none⟩)) (.agg (zs.map enc).toArray)).run P W = .ok () (W.setRow p ((xs.map enc ++ rs).take o ++ zs.map enc ++ (xs.map enc ++ rs).drop (o + (zs.map enc).length)).toArray) := by
    simp only [Instr.storeAt, storeVar, Instr.sureAddr, Value.cells, Sem.run_bind, Sem.run_pure, Result.andThen_ok, hs, List.size_toArray, List.length_map, hl, ne_eq, not_true, if_false]
    simp only [List.length_map, hl] at hst
    exact hst
  exact s_do rfl hw (by simp only [execOp, hx, hy, Sem.run_bind, hr, Result.andThen_ok]; rfl) (h _ H2)
end
end Go.Proofs.Ytmekhdclnhhhbaa
