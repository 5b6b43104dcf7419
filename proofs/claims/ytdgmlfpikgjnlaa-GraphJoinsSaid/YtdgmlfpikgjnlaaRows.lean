/-
  No cell of these rows narrows 'for every input' (looked for: loops, veiled, ifaces, maps, wideKeys, modest, calm, conditions, laid).
  DERIVED. THE GIVEN ROWS OF THIS SEAT. 10 by the template 'for every input the law returns true; each argument reads behind the call as it read before'; 0 by the template 'total and deterministic' (their statements: YtdgmlfpikgjnlaaTotals.lean).
  GIVEN WITH THE SEED: the statements are not yours to turn. If you find one false, say at which input.
  Laid BY PROGRAM, IN A SANDBOX (cutbox-rows.mjs): the forced cells as the released guide's own fill.sh prints them over the translation 387b64472ead3811… (all of the seat's roots in one cut). By AI agents, Wed Nov 11 2026. No macro, syntax, notation, axiom, sorry.
-/
import Derived.Test.YtdgmlfpikgjnlaaChecked
import GoSem.Claim
import GoSem.ClaimJoined
import GoSem.ClaimMapViews
import Derived.JoinedTies
import Derived.KernelRfl
namespace Go.Proofs.Ytdgmlfpikgjnlaa
/- THE CELL 'sum', in the pinned program and in every row, IS THE sha256 OF THE DUMP (.gsa) THAT YtdgmlfpikgjnlaaProg.lean LOADS. Nothing in Lean hashes anything: it is a label: what it is worth is what the hold of that sum in a sandbox is worth. -/
noncomputable def Try.pinned : Pinned := { name := "ytdgmlfpikgjnlaa", sum := "387b64472ead3811b29297922d13ad0a0d4b1fcdc39171ce6c6e67b4fd3b4343", checked := Try.checked }
namespace Rows
def none {H : Type} : Left H := { results := [], args := [] }

/-- 'taprootlaw38.GraphSames': WHATEVER THE INPUT: true; the input reads as it did. -/
def graphSamesSpec : ChangeSpec := { name := "graphSames", fn := fun _ => fun
  | [d1, d2] => { results := [.lit (.bool true)], args := [d1, d2] }
  | _ => none }
def graphSamesRow : OpenClaim := { program := "ytdgmlfpikgjnlaa", sum := "387b64472ead3811b29297922d13ad0a0d4b1fcdc39171ce6c6e67b4fd3b4343", func := "taproot/taprootlaw38.GraphSames", spec := "graphSames", unfollowed := true, recurses := true, apart := false }
def GraphSamesSaid : Prop := graphSamesRow.holds Try.pinned (OpenSpec.ofChange graphSamesSpec)

/-- ITS FALSE NEIGHBOUR: 'it returns false'. Refute it at one input. -/
def graphSamesWrong : ChangeSpec := { name := "graphSames", fn := fun _ => fun
  | [d1, d2] => { results := [.lit (.bool false)], args := [d1, d2] }
  | _ => none }
def GraphSamesWrongFalsely : Prop := graphSamesRow.holds Try.pinned (OpenSpec.ofChange graphSamesWrong)

/-- 'taprootlaw38.GraphJoins': WHATEVER THE INPUT: true; the input reads as it did. -/
def graphJoinsSpec : ChangeSpec := { name := "graphJoins", fn := fun _ => fun
  | [d1, d2] => { results := [.lit (.bool true)], args := [d1, d2] }
  | _ => none }
def graphJoinsRow : OpenClaim := { program := "ytdgmlfpikgjnlaa", sum := "387b64472ead3811b29297922d13ad0a0d4b1fcdc39171ce6c6e67b4fd3b4343", func := "taproot/taprootlaw38.GraphJoins", spec := "graphJoins", unfollowed := true, recurses := true, apart := false }
def GraphJoinsSaid : Prop := graphJoinsRow.holds Try.pinned (OpenSpec.ofChange graphJoinsSpec)

/-- ITS FALSE NEIGHBOUR: 'it returns false'. Refute it at one input. -/
def graphJoinsWrong : ChangeSpec := { name := "graphJoins", fn := fun _ => fun
  | [d1, d2] => { results := [.lit (.bool false)], args := [d1, d2] }
  | _ => none }
def GraphJoinsWrongFalsely : Prop := graphJoinsRow.holds Try.pinned (OpenSpec.ofChange graphJoinsWrong)

/-- 'taprootlaw38.GraphCycles': WHATEVER THE INPUT: true; the input reads as it did. -/
def graphCyclesSpec : ChangeSpec := { name := "graphCycles", fn := fun _ => fun
  | [d] => { results := [.lit (.bool true)], args := [d] }
  | _ => none }
def graphCyclesRow : OpenClaim := { program := "ytdgmlfpikgjnlaa", sum := "387b64472ead3811b29297922d13ad0a0d4b1fcdc39171ce6c6e67b4fd3b4343", func := "taproot/taprootlaw38.GraphCycles", spec := "graphCycles", unfollowed := true, recurses := true, apart := false }
def GraphCyclesSaid : Prop := graphCyclesRow.holds Try.pinned (OpenSpec.ofChange graphCyclesSpec)

/-- ITS FALSE NEIGHBOUR: 'it returns false'. Refute it at one input. -/
def graphCyclesWrong : ChangeSpec := { name := "graphCycles", fn := fun _ => fun
  | [d] => { results := [.lit (.bool false)], args := [d] }
  | _ => none }
def GraphCyclesWrongFalsely : Prop := graphCyclesRow.holds Try.pinned (OpenSpec.ofChange graphCyclesWrong)

/-- 'taprootlaw38.GraphTurned': WHATEVER THE INPUT: true; the input reads as it did. -/
def graphTurnedSpec : ChangeSpec := { name := "graphTurned", fn := fun _ => fun
  | [d] => { results := [.lit (.bool true)], args := [d] }
  | _ => none }
def graphTurnedRow : OpenClaim := { program := "ytdgmlfpikgjnlaa", sum := "387b64472ead3811b29297922d13ad0a0d4b1fcdc39171ce6c6e67b4fd3b4343", func := "taproot/taprootlaw38.GraphTurned", spec := "graphTurned", unfollowed := true, recurses := true, apart := false }
def GraphTurnedSaid : Prop := graphTurnedRow.holds Try.pinned (OpenSpec.ofChange graphTurnedSpec)

/-- ITS FALSE NEIGHBOUR: 'it returns false'. Refute it at one input. -/
def graphTurnedWrong : ChangeSpec := { name := "graphTurned", fn := fun _ => fun
  | [d] => { results := [.lit (.bool false)], args := [d] }
  | _ => none }
def GraphTurnedWrongFalsely : Prop := graphTurnedRow.holds Try.pinned (OpenSpec.ofChange graphTurnedWrong)

/-- 'taprootlaw38.GraphCanons': WHATEVER THE INPUT: true; the input reads as it did. -/
def graphCanonsSpec : ChangeSpec := { name := "graphCanons", fn := fun _ => fun
  | [d] => { results := [.lit (.bool true)], args := [d] }
  | _ => none }
def graphCanonsRow : OpenClaim := { program := "ytdgmlfpikgjnlaa", sum := "387b64472ead3811b29297922d13ad0a0d4b1fcdc39171ce6c6e67b4fd3b4343", func := "taproot/taprootlaw38.GraphCanons", spec := "graphCanons", unfollowed := true, recurses := true, apart := false }
def GraphCanonsSaid : Prop := graphCanonsRow.holds Try.pinned (OpenSpec.ofChange graphCanonsSpec)

/-- ITS FALSE NEIGHBOUR: 'it returns false'. Refute it at one input. -/
def graphCanonsWrong : ChangeSpec := { name := "graphCanons", fn := fun _ => fun
  | [d] => { results := [.lit (.bool false)], args := [d] }
  | _ => none }
def GraphCanonsWrongFalsely : Prop := graphCanonsRow.holds Try.pinned (OpenSpec.ofChange graphCanonsWrong)

/-- 'taprootlaw09.CellsAll': WHATEVER THE INPUT: true; the input reads as it did. -/
def cellsAllSpec : ChangeSpec := { name := "cellsAll", fn := fun _ => fun
  | [d1, d2, d3] => { results := [.lit (.bool true)], args := [d1, d2, d3] }
  | _ => none }
def cellsAllRow : OpenClaim := { program := "ytdgmlfpikgjnlaa", sum := "387b64472ead3811b29297922d13ad0a0d4b1fcdc39171ce6c6e67b4fd3b4343", func := "taproot/taprootlaw09.CellsAll", spec := "cellsAll", unfollowed := true, recurses := true, apart := false }
def CellsAllSaid : Prop := cellsAllRow.holds Try.pinned (OpenSpec.ofChange cellsAllSpec)

/-- ITS FALSE NEIGHBOUR: 'it returns false'. Refute it at one input. -/
def cellsAllWrong : ChangeSpec := { name := "cellsAll", fn := fun _ => fun
  | [d1, d2, d3] => { results := [.lit (.bool false)], args := [d1, d2, d3] }
  | _ => none }
def CellsAllWrongFalsely : Prop := cellsAllRow.holds Try.pinned (OpenSpec.ofChange cellsAllWrong)

/-- 'taprootlaw09.CellsApart': WHATEVER THE INPUT: true; the input reads as it did. -/
def cellsApartSpec : ChangeSpec := { name := "cellsApart", fn := fun _ => fun
  | [d1, d2] => { results := [.lit (.bool true)], args := [d1, d2] }
  | _ => none }
def cellsApartRow : OpenClaim := { program := "ytdgmlfpikgjnlaa", sum := "387b64472ead3811b29297922d13ad0a0d4b1fcdc39171ce6c6e67b4fd3b4343", func := "taproot/taprootlaw09.CellsApart", spec := "cellsApart", unfollowed := true, recurses := true, apart := false }
def CellsApartSaid : Prop := cellsApartRow.holds Try.pinned (OpenSpec.ofChange cellsApartSpec)

/-- ITS FALSE NEIGHBOUR: 'it returns false'. Refute it at one input. -/
def cellsApartWrong : ChangeSpec := { name := "cellsApart", fn := fun _ => fun
  | [d1, d2] => { results := [.lit (.bool false)], args := [d1, d2] }
  | _ => none }
def CellsApartWrongFalsely : Prop := cellsApartRow.holds Try.pinned (OpenSpec.ofChange cellsApartWrong)

/-- 'taprootlaw13.BitmapPlays': WHATEVER THE INPUT: true; the input reads as it did. -/
def bitmapPlaysSpec : ChangeSpec := { name := "bitmapPlays", fn := fun _ => fun
  | [d1, d2, d3] => { results := [.lit (.bool true)], args := [d1, d2, d3] }
  | _ => none }
def bitmapPlaysRow : OpenClaim := { program := "ytdgmlfpikgjnlaa", sum := "387b64472ead3811b29297922d13ad0a0d4b1fcdc39171ce6c6e67b4fd3b4343", func := "taproot/taprootlaw13.BitmapPlays", spec := "bitmapPlays", unfollowed := true, recurses := true, apart := false }
def BitmapPlaysSaid : Prop := bitmapPlaysRow.holds Try.pinned (OpenSpec.ofChange bitmapPlaysSpec)

/-- ITS FALSE NEIGHBOUR: 'it returns false'. Refute it at one input. -/
def bitmapPlaysWrong : ChangeSpec := { name := "bitmapPlays", fn := fun _ => fun
  | [d1, d2, d3] => { results := [.lit (.bool false)], args := [d1, d2, d3] }
  | _ => none }
def BitmapPlaysWrongFalsely : Prop := bitmapPlaysRow.holds Try.pinned (OpenSpec.ofChange bitmapPlaysWrong)

/-- 'taprootlaw13.BitmapFinds': WHATEVER THE INPUT: true; the input reads as it did. -/
def bitmapFindsSpec : ChangeSpec := { name := "bitmapFinds", fn := fun _ => fun
  | [d1, d2, d3] => { results := [.lit (.bool true)], args := [d1, d2, d3] }
  | _ => none }
def bitmapFindsRow : OpenClaim := { program := "ytdgmlfpikgjnlaa", sum := "387b64472ead3811b29297922d13ad0a0d4b1fcdc39171ce6c6e67b4fd3b4343", func := "taproot/taprootlaw13.BitmapFinds", spec := "bitmapFinds", unfollowed := true, recurses := true, apart := false }
def BitmapFindsSaid : Prop := bitmapFindsRow.holds Try.pinned (OpenSpec.ofChange bitmapFindsSpec)

/-- ITS FALSE NEIGHBOUR: 'it returns false'. Refute it at one input. -/
def bitmapFindsWrong : ChangeSpec := { name := "bitmapFinds", fn := fun _ => fun
  | [d1, d2, d3] => { results := [.lit (.bool false)], args := [d1, d2, d3] }
  | _ => none }
def BitmapFindsWrongFalsely : Prop := bitmapFindsRow.holds Try.pinned (OpenSpec.ofChange bitmapFindsWrong)

/-- 'taprootlaw13.BitmapJoins': WHATEVER THE INPUT: true; the input reads as it did. -/
def bitmapJoinsSpec : ChangeSpec := { name := "bitmapJoins", fn := fun _ => fun
  | [d1, d2, d3] => { results := [.lit (.bool true)], args := [d1, d2, d3] }
  | _ => none }
def bitmapJoinsRow : OpenClaim := { program := "ytdgmlfpikgjnlaa", sum := "387b64472ead3811b29297922d13ad0a0d4b1fcdc39171ce6c6e67b4fd3b4343", func := "taproot/taprootlaw13.BitmapJoins", spec := "bitmapJoins", unfollowed := true, recurses := true, apart := false }
def BitmapJoinsSaid : Prop := bitmapJoinsRow.holds Try.pinned (OpenSpec.ofChange bitmapJoinsSpec)

/-- ITS FALSE NEIGHBOUR: 'it returns false'. Refute it at one input. -/
def bitmapJoinsWrong : ChangeSpec := { name := "bitmapJoins", fn := fun _ => fun
  | [d1, d2, d3] => { results := [.lit (.bool false)], args := [d1, d2, d3] }
  | _ => none }
def BitmapJoinsWrongFalsely : Prop := bitmapJoinsRow.holds Try.pinned (OpenSpec.ofChange bitmapJoinsWrong)

/- THE SECOND FORM. 'bulk': how many values and letters a reading holds, each counted each time it is reached (what is shared counts as often as it is met; a slice's spare places count too). A statement '..UptoSaid' is the law's where the arguments, and the package variables that the reading takes, are together of bulk at most 1048576: NARROWER than '..Said'. Prove '..Said' where nothing that the law and all that it calls make is longer than what came in: it says more and counts as full. Else prove '..UptoSaid'. A law counts once. -/
mutual
def uptoBulk {H : Type} : DataW H → Nat
  | .lit (.string bytes) => bytes.length + 1
  | .lit _ => 1
  | .nil => 1
  | .ptr d => uptoBulk d + 1
  | .slice elems spare => uptoBulkAll elems + uptoBulkAll spare + 1
  | .agg parts => uptoBulkAll parts + 1
  | .iface _ d => uptoBulk d + 1
  | .map entries => uptoBulkEntries entries + 1
  | .held _ => 1
def uptoBulkAll {H : Type} : List (DataW H) → Nat
  | [] => 0
  | d :: r => uptoBulk d + uptoBulkAll r
def uptoBulkEntries {H : Type} : List (Lit × DataW H) → Nat
  | [] => 0
  | x :: r => uptoBulkEntry x + uptoBulkEntries r
def uptoBulkEntry {H : Type} : Lit × DataW H → Nat
  | (.string bytes, d) => bytes.length + uptoBulk d + 1
  | (_, d) => uptoBulk d + 1
 end
def uptoSmall : (H : Type) → List (DataW H) → Bool := fun _ ds => decide (uptoBulkAll ds ≤ 1048576)
def OpenSpec.upto (s : _root_.Go.ChangeSpec) : _root_.Go.OpenSpec := { _root_.Go.OpenSpec.ofChange s with cond := some uptoSmall }

/-- 'taprootlaw38.GraphSames', WHERE WHAT IT READS IS OF BULK AT MOST 1048576: true; the input reads as it did. -/
def graphSamesUptoRow : OpenClaim := { program := "ytdgmlfpikgjnlaa", sum := "387b64472ead3811b29297922d13ad0a0d4b1fcdc39171ce6c6e67b4fd3b4343", func := "taproot/taprootlaw38.GraphSames", spec := "graphSames", unfollowed := true, recurses := true, apart := false, narrowed := true }
def GraphSamesUptoSaid : Prop := graphSamesUptoRow.holds Try.pinned (OpenSpec.upto graphSamesSpec)

/-- 'taprootlaw38.GraphJoins', WHERE WHAT IT READS IS OF BULK AT MOST 1048576: true; the input reads as it did. -/
def graphJoinsUptoRow : OpenClaim := { program := "ytdgmlfpikgjnlaa", sum := "387b64472ead3811b29297922d13ad0a0d4b1fcdc39171ce6c6e67b4fd3b4343", func := "taproot/taprootlaw38.GraphJoins", spec := "graphJoins", unfollowed := true, recurses := true, apart := false, narrowed := true }
def GraphJoinsUptoSaid : Prop := graphJoinsUptoRow.holds Try.pinned (OpenSpec.upto graphJoinsSpec)

/-- 'taprootlaw38.GraphCycles', WHERE WHAT IT READS IS OF BULK AT MOST 1048576: true; the input reads as it did. -/
def graphCyclesUptoRow : OpenClaim := { program := "ytdgmlfpikgjnlaa", sum := "387b64472ead3811b29297922d13ad0a0d4b1fcdc39171ce6c6e67b4fd3b4343", func := "taproot/taprootlaw38.GraphCycles", spec := "graphCycles", unfollowed := true, recurses := true, apart := false, narrowed := true }
def GraphCyclesUptoSaid : Prop := graphCyclesUptoRow.holds Try.pinned (OpenSpec.upto graphCyclesSpec)

/-- 'taprootlaw38.GraphTurned', WHERE WHAT IT READS IS OF BULK AT MOST 1048576: true; the input reads as it did. -/
def graphTurnedUptoRow : OpenClaim := { program := "ytdgmlfpikgjnlaa", sum := "387b64472ead3811b29297922d13ad0a0d4b1fcdc39171ce6c6e67b4fd3b4343", func := "taproot/taprootlaw38.GraphTurned", spec := "graphTurned", unfollowed := true, recurses := true, apart := false, narrowed := true }
def GraphTurnedUptoSaid : Prop := graphTurnedUptoRow.holds Try.pinned (OpenSpec.upto graphTurnedSpec)

/-- 'taprootlaw38.GraphCanons', WHERE WHAT IT READS IS OF BULK AT MOST 1048576: true; the input reads as it did. -/
def graphCanonsUptoRow : OpenClaim := { program := "ytdgmlfpikgjnlaa", sum := "387b64472ead3811b29297922d13ad0a0d4b1fcdc39171ce6c6e67b4fd3b4343", func := "taproot/taprootlaw38.GraphCanons", spec := "graphCanons", unfollowed := true, recurses := true, apart := false, narrowed := true }
def GraphCanonsUptoSaid : Prop := graphCanonsUptoRow.holds Try.pinned (OpenSpec.upto graphCanonsSpec)

/-- 'taprootlaw09.CellsAll', WHERE WHAT IT READS IS OF BULK AT MOST 1048576: true; the input reads as it did. -/
def cellsAllUptoRow : OpenClaim := { program := "ytdgmlfpikgjnlaa", sum := "387b64472ead3811b29297922d13ad0a0d4b1fcdc39171ce6c6e67b4fd3b4343", func := "taproot/taprootlaw09.CellsAll", spec := "cellsAll", unfollowed := true, recurses := true, apart := false, narrowed := true }
def CellsAllUptoSaid : Prop := cellsAllUptoRow.holds Try.pinned (OpenSpec.upto cellsAllSpec)

/-- 'taprootlaw09.CellsApart', WHERE WHAT IT READS IS OF BULK AT MOST 1048576: true; the input reads as it did. -/
def cellsApartUptoRow : OpenClaim := { program := "ytdgmlfpikgjnlaa", sum := "387b64472ead3811b29297922d13ad0a0d4b1fcdc39171ce6c6e67b4fd3b4343", func := "taproot/taprootlaw09.CellsApart", spec := "cellsApart", unfollowed := true, recurses := true, apart := false, narrowed := true }
def CellsApartUptoSaid : Prop := cellsApartUptoRow.holds Try.pinned (OpenSpec.upto cellsApartSpec)

/-- 'taprootlaw13.BitmapPlays', WHERE WHAT IT READS IS OF BULK AT MOST 1048576: true; the input reads as it did. -/
def bitmapPlaysUptoRow : OpenClaim := { program := "ytdgmlfpikgjnlaa", sum := "387b64472ead3811b29297922d13ad0a0d4b1fcdc39171ce6c6e67b4fd3b4343", func := "taproot/taprootlaw13.BitmapPlays", spec := "bitmapPlays", unfollowed := true, recurses := true, apart := false, narrowed := true }
def BitmapPlaysUptoSaid : Prop := bitmapPlaysUptoRow.holds Try.pinned (OpenSpec.upto bitmapPlaysSpec)

/-- 'taprootlaw13.BitmapFinds', WHERE WHAT IT READS IS OF BULK AT MOST 1048576: true; the input reads as it did. -/
def bitmapFindsUptoRow : OpenClaim := { program := "ytdgmlfpikgjnlaa", sum := "387b64472ead3811b29297922d13ad0a0d4b1fcdc39171ce6c6e67b4fd3b4343", func := "taproot/taprootlaw13.BitmapFinds", spec := "bitmapFinds", unfollowed := true, recurses := true, apart := false, narrowed := true }
def BitmapFindsUptoSaid : Prop := bitmapFindsUptoRow.holds Try.pinned (OpenSpec.upto bitmapFindsSpec)

/-- 'taprootlaw13.BitmapJoins', WHERE WHAT IT READS IS OF BULK AT MOST 1048576: true; the input reads as it did. -/
def bitmapJoinsUptoRow : OpenClaim := { program := "ytdgmlfpikgjnlaa", sum := "387b64472ead3811b29297922d13ad0a0d4b1fcdc39171ce6c6e67b4fd3b4343", func := "taproot/taprootlaw13.BitmapJoins", spec := "bitmapJoins", unfollowed := true, recurses := true, apart := false, narrowed := true }
def BitmapJoinsUptoSaid : Prop := bitmapJoinsUptoRow.holds Try.pinned (OpenSpec.upto bitmapJoinsSpec)

end Rows
end Go.Proofs.Ytdgmlfpikgjnlaa
