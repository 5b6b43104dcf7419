/- Loads in a region that changes nothing of a named world. -/
import Derived.Test.YtmekhdclnhhhbaaBlk
import Derived.Deep.RegionHeld3
namespace Go.Proofs.Ytmekhdclnhhhbaa
set_option linter.unusedVariables false
open Go.RowKit
theorem bcellR {W w1 : World} (hb : Below W.heap.size W w1) : (∀ b o, b < W.heap.size → w1.cell? ⟨b, o, none⟩ = W.cell? ⟨b, o, none⟩) ∧ (∀ b o, b < W.heap.size → w1.frozen? ⟨b, o, none⟩ = W.frozen? ⟨b, o, none⟩) :=
  ⟨fun b o h => hb.cell (p := ⟨b, o, none⟩) h, fun b o h => hb.frozen (p := ⟨b, o, none⟩) h⟩
theorem run_loadVar_row {P : Program} {W : World} {b : Nat} {cs : Array Value} {T t : TypeId} (X : Blk W b cs T) (hagg : ∀ W, (isAgg t).run P W = .ok true W) (hsz : ∀ W, (sizeOf t).run P W = .ok cs.size W) :
    (loadVar t ⟨b, 0, none⟩).run P W = .ok (.agg cs) W := by
  have hl := run_loadCells_list (P := P) W ⟨b, 0, none⟩ cs.toList (fun j v hv => by
    have e : ((⟨b, 0, none⟩ : Addr).add j) = ⟨b, j, none⟩ := by unfold Addr.add; split <;> simp_all
    rw [e]; exact X.cell j v (by simpa using hv))
  simp only [loadVar, Sem.run_bind, hagg, Result.andThen_ok, if_true, hsz]
  rw [show cs.toList.length = cs.size from by simp] at hl
  rw [hl]
  simp
theorem run_load_rowB {P : Program} {Z W : World} {b : Nat} {cs : Array Value} {T t ty : TypeId} {ρ : Operand → Value} {dst : Option Tmp} {x : Operand} {pos : String} {af : Array Edge} {g : Option (Nat × Bool)}
    (X : Blk Z b cs T) (hS : Below Z.heap.size Z W) (hx : ρ x = .pointer (some ⟨b, 0, none⟩)) (hagg : ∀ W, (isAgg t).run P W = .ok true W) (hsz : ∀ W, (sizeOf t).run P W = .ok cs.size W) :
    (execOp ρ ⟨dst, .load t x, ty, pos, af, g⟩).run P W = .ok (.value (.agg cs)) W := by
  have h := run_loadVar_row (P := P) (X.below hS X.lt) hagg hsz
  simp only [execOp, Instr.loadAt, hx, Instr.sureAddr, Sem.run_bind, Sem.run_pure, Result.andThen_ok, h]
theorem run_load_cellB {P : Program} {Z W : World} {b o : Nat} {cs : Array Value} {T t ty : TypeId} {ρ : Operand → Value} {dst : Option Tmp} {x : Operand} {pos : String} {af : Array Edge} {g : Option (Nat × Bool)} {v : Value}
    (X : Blk Z b cs T) (hS : Below Z.heap.size Z W) (hx : ρ x = .pointer (some ⟨b, o, none⟩)) (hv : cs[o]? = some v) (hagg : ∀ W, (isAgg t).run P W = .ok false W) :
    (execOp ρ ⟨dst, .load t x, ty, pos, af, g⟩).run P W = .ok (.value v) W := by
  have h := (X.below hS X.lt).cell o v hv
  have h2 : (load ⟨b, o, none⟩).run P W = .ok v W := by simp [load, Sem.run, h]
  simp only [execOp, Instr.loadAt, loadVar, hx, Instr.sureAddr, Sem.run_bind, Sem.run_pure, Result.andThen_ok, hagg, Bool.false_eq_true, if_false, h2]
end Go.Proofs.Ytmekhdclnhhhbaa
