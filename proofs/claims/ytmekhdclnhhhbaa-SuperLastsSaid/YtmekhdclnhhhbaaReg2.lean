/- Whole blocks that are stored anew. -/
import Derived.Test.YtmekhdclnhhhbaaReg
namespace Go.Proofs.Ytmekhdclnhhhbaa
set_option linter.unusedVariables false
open Go.RowKit
theorem Blk.setRow {W : World} {b : Nat} {old : Array Value} {T : TypeId} (h : Blk W b old T) (cs : Array Value) : Blk (W.setRow b cs) b cs T := setRow_heap W b old cs T (0, 0) h
theorem Blk.setRow_other {W : World} {b g : Nat} {old : Array Value} {T : TypeId} (h : Blk W b old T) (cs : Array Value) (hne : b ≠ g) : Blk (W.setRow g cs) b old T := by
  unfold Blk; rw [Go.setRow_other W g b cs hne]; exact h
end Go.Proofs.Ytmekhdclnhhhbaa
