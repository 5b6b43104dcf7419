/-
  No cell of these rows narrows 'for every input' (looked for: loops, veiled, ifaces, maps, wideKeys, modest, calm, conditions, laid).
  DERIVED. THE GIVEN ROWS OF THIS SEAT. 8 by the template 'for every input the law returns true; each argument reads behind the call as it read before'; 0 by the template 'total and deterministic' (their statements: YtchobkabndnhoaaTotals.lean).
  GIVEN WITH THE SEED: the statements are not yours to turn. If you find one false, say at which input.
  Laid BY PROGRAM, IN A SANDBOX (cutbox-rows.mjs): the forced cells as the released guide's own fill.sh prints them over the translation 7b4d142c67ce2e27… (all of the seat's roots in one cut). By AI agents, Wed Nov 11 2026. No macro, syntax, notation, axiom, sorry.
-/
import Derived.Test.YtchobkabndnhoaaChecked
import GoSem.Claim
import GoSem.ClaimJoined
import GoSem.ClaimMapViews
import Derived.JoinedTies
import Derived.KernelRfl
namespace Go.Proofs.Ytchobkabndnhoaa
/- THE CELL 'sum', in the pinned program and in every row, IS THE sha256 OF THE DUMP (.gsa) THAT YtchobkabndnhoaaProg.lean LOADS. Nothing in Lean hashes anything: it is a label: what it is worth is what the hold of that sum in a sandbox is worth. -/
noncomputable def Try.pinned : Pinned := { name := "ytchobkabndnhoaa", sum := "7b4d142c67ce2e279f88acd1b18eec86c2d74de02e14704d5916ce1ba1abdf78", checked := Try.checked }
namespace Rows
def none {H : Type} : Left H := { results := [], args := [] }

/-- 'taprootlaw01.BitsBytes': WHATEVER THE INPUT: true; the input reads as it did. -/
def bitsBytesSpec : ChangeSpec := { name := "bitsBytes", fn := fun _ => fun
  | [d1, d2] => { results := [.lit (.bool true)], args := [d1, d2] }
  | _ => none }
def bitsBytesRow : OpenClaim := { program := "ytchobkabndnhoaa", sum := "7b4d142c67ce2e279f88acd1b18eec86c2d74de02e14704d5916ce1ba1abdf78", func := "taproot/taprootlaw01.BitsBytes", spec := "bitsBytes", apart := false }
def BitsBytesSaid : Prop := bitsBytesRow.holds Try.pinned (OpenSpec.ofChange bitsBytesSpec)

/-- ITS FALSE NEIGHBOUR: 'it returns false'. Refute it at one input. -/
def bitsBytesWrong : ChangeSpec := { name := "bitsBytes", fn := fun _ => fun
  | [d1, d2] => { results := [.lit (.bool false)], args := [d1, d2] }
  | _ => none }
def BitsBytesWrongFalsely : Prop := bitsBytesRow.holds Try.pinned (OpenSpec.ofChange bitsBytesWrong)

/-- 'taprootlaw09.CellsAll': WHATEVER THE INPUT: true; the input reads as it did. -/
def cellsAllSpec : ChangeSpec := { name := "cellsAll", fn := fun _ => fun
  | [d1, d2, d3] => { results := [.lit (.bool true)], args := [d1, d2, d3] }
  | _ => none }
def cellsAllRow : OpenClaim := { program := "ytchobkabndnhoaa", sum := "7b4d142c67ce2e279f88acd1b18eec86c2d74de02e14704d5916ce1ba1abdf78", func := "taproot/taprootlaw09.CellsAll", spec := "cellsAll", unfollowed := true, recurses := true, apart := false }
def CellsAllSaid : Prop := cellsAllRow.holds Try.pinned (OpenSpec.ofChange cellsAllSpec)

/-- ITS FALSE NEIGHBOUR: 'it returns false'. Refute it at one input. -/
def cellsAllWrong : ChangeSpec := { name := "cellsAll", fn := fun _ => fun
  | [d1, d2, d3] => { results := [.lit (.bool false)], args := [d1, d2, d3] }
  | _ => none }
def CellsAllWrongFalsely : Prop := cellsAllRow.holds Try.pinned (OpenSpec.ofChange cellsAllWrong)

/-- 'taprootlaw09.CellsApart': WHATEVER THE INPUT: true; the input reads as it did. -/
def cellsApartSpec : ChangeSpec := { name := "cellsApart", fn := fun _ => fun
  | [d1, d2] => { results := [.lit (.bool true)], args := [d1, d2] }
  | _ => none }
def cellsApartRow : OpenClaim := { program := "ytchobkabndnhoaa", sum := "7b4d142c67ce2e279f88acd1b18eec86c2d74de02e14704d5916ce1ba1abdf78", func := "taproot/taprootlaw09.CellsApart", spec := "cellsApart", unfollowed := true, recurses := true, apart := false }
def CellsApartSaid : Prop := cellsApartRow.holds Try.pinned (OpenSpec.ofChange cellsApartSpec)

/-- ITS FALSE NEIGHBOUR: 'it returns false'. Refute it at one input. -/
def cellsApartWrong : ChangeSpec := { name := "cellsApart", fn := fun _ => fun
  | [d1, d2] => { results := [.lit (.bool false)], args := [d1, d2] }
  | _ => none }
def CellsApartWrongFalsely : Prop := cellsApartRow.holds Try.pinned (OpenSpec.ofChange cellsApartWrong)

/-- 'taprootlaw09.CellsAddresses': WHATEVER THE INPUT: true; the input reads as it did. -/
def cellsAddressesSpec : ChangeSpec := { name := "cellsAddresses", fn := fun _ => fun
  | [d1, d2, d3] => { results := [.lit (.bool true)], args := [d1, d2, d3] }
  | _ => none }
def cellsAddressesRow : OpenClaim := { program := "ytchobkabndnhoaa", sum := "7b4d142c67ce2e279f88acd1b18eec86c2d74de02e14704d5916ce1ba1abdf78", func := "taproot/taprootlaw09.CellsAddresses", spec := "cellsAddresses", apart := false }
def CellsAddressesSaid : Prop := cellsAddressesRow.holds Try.pinned (OpenSpec.ofChange cellsAddressesSpec)

/-- ITS FALSE NEIGHBOUR: 'it returns false'. Refute it at one input. -/
def cellsAddressesWrong : ChangeSpec := { name := "cellsAddresses", fn := fun _ => fun
  | [d1, d2, d3] => { results := [.lit (.bool false)], args := [d1, d2, d3] }
  | _ => none }
def CellsAddressesWrongFalsely : Prop := cellsAddressesRow.holds Try.pinned (OpenSpec.ofChange cellsAddressesWrong)

/-- 'taprootlaw36.ExploreWays': WHATEVER THE INPUT: true; the input reads as it did. -/
def exploreWaysSpec : ChangeSpec := { name := "exploreWays", fn := fun _ => fun
  | [d1, d2, d3] => { results := [.lit (.bool true)], args := [d1, d2, d3] }
  | _ => none }
def exploreWaysRow : OpenClaim := { program := "ytchobkabndnhoaa", sum := "7b4d142c67ce2e279f88acd1b18eec86c2d74de02e14704d5916ce1ba1abdf78", func := "taproot/taprootlaw36.ExploreWays", spec := "exploreWays", apart := false }
def ExploreWaysSaid : Prop := exploreWaysRow.holds Try.pinned (OpenSpec.ofChange exploreWaysSpec)

/-- ITS FALSE NEIGHBOUR: 'it returns false'. Refute it at one input. -/
def exploreWaysWrong : ChangeSpec := { name := "exploreWays", fn := fun _ => fun
  | [d1, d2, d3] => { results := [.lit (.bool false)], args := [d1, d2, d3] }
  | _ => none }
def ExploreWaysWrongFalsely : Prop := exploreWaysRow.holds Try.pinned (OpenSpec.ofChange exploreWaysWrong)

/-- 'taprootlaw36.ExploreGray': WHATEVER THE INPUT: true; the input reads as it did. -/
def exploreGraySpec : ChangeSpec := { name := "exploreGray", fn := fun _ => fun
  | [d1, d2, d3] => { results := [.lit (.bool true)], args := [d1, d2, d3] }
  | _ => none }
def exploreGrayRow : OpenClaim := { program := "ytchobkabndnhoaa", sum := "7b4d142c67ce2e279f88acd1b18eec86c2d74de02e14704d5916ce1ba1abdf78", func := "taproot/taprootlaw36.ExploreGray", spec := "exploreGray", apart := false }
def ExploreGraySaid : Prop := exploreGrayRow.holds Try.pinned (OpenSpec.ofChange exploreGraySpec)

/-- ITS FALSE NEIGHBOUR: 'it returns false'. Refute it at one input. -/
def exploreGrayWrong : ChangeSpec := { name := "exploreGray", fn := fun _ => fun
  | [d1, d2, d3] => { results := [.lit (.bool false)], args := [d1, d2, d3] }
  | _ => none }
def ExploreGrayWrongFalsely : Prop := exploreGrayRow.holds Try.pinned (OpenSpec.ofChange exploreGrayWrong)

/-- 'taprootlaw36.ExploreSpreads': WHATEVER THE INPUT: true; the input reads as it did. -/
def exploreSpreadsSpec : ChangeSpec := { name := "exploreSpreads", fn := fun _ => fun
  | [d1, d2] => { results := [.lit (.bool true)], args := [d1, d2] }
  | _ => none }
def exploreSpreadsRow : OpenClaim := { program := "ytchobkabndnhoaa", sum := "7b4d142c67ce2e279f88acd1b18eec86c2d74de02e14704d5916ce1ba1abdf78", func := "taproot/taprootlaw36.ExploreSpreads", spec := "exploreSpreads", apart := false }
def ExploreSpreadsSaid : Prop := exploreSpreadsRow.holds Try.pinned (OpenSpec.ofChange exploreSpreadsSpec)

/-- ITS FALSE NEIGHBOUR: 'it returns false'. Refute it at one input. -/
def exploreSpreadsWrong : ChangeSpec := { name := "exploreSpreads", fn := fun _ => fun
  | [d1, d2] => { results := [.lit (.bool false)], args := [d1, d2] }
  | _ => none }
def ExploreSpreadsWrongFalsely : Prop := exploreSpreadsRow.holds Try.pinned (OpenSpec.ofChange exploreSpreadsWrong)

/-- 'taprootlaw36.ExploreNumbers': WHATEVER THE INPUT: true; the input reads as it did. -/
def exploreNumbersSpec : ChangeSpec := { name := "exploreNumbers", fn := fun _ => fun
  | [d1, d2] => { results := [.lit (.bool true)], args := [d1, d2] }
  | _ => none }
def exploreNumbersRow : OpenClaim := { program := "ytchobkabndnhoaa", sum := "7b4d142c67ce2e279f88acd1b18eec86c2d74de02e14704d5916ce1ba1abdf78", func := "taproot/taprootlaw36.ExploreNumbers", spec := "exploreNumbers", apart := false }
def ExploreNumbersSaid : Prop := exploreNumbersRow.holds Try.pinned (OpenSpec.ofChange exploreNumbersSpec)

/-- ITS FALSE NEIGHBOUR: 'it returns false'. Refute it at one input. -/
def exploreNumbersWrong : ChangeSpec := { name := "exploreNumbers", fn := fun _ => fun
  | [d1, d2] => { results := [.lit (.bool false)], args := [d1, d2] }
  | _ => none }
def ExploreNumbersWrongFalsely : Prop := exploreNumbersRow.holds Try.pinned (OpenSpec.ofChange exploreNumbersWrong)

/- THE SECOND FORM. 'bulk': how many values and letters a reading holds, each counted each time it is reached (what is shared counts as often as it is met; a slice's spare places count too). A statement '..UptoSaid' is the law's where the arguments, and the package variables that the reading takes, are together of bulk at most 1048576: NARROWER than '..Said'. Prove '..Said' where nothing that the law and all that it calls make is longer than what came in: it says more and counts as full. Else prove '..UptoSaid'. A law counts once. -/
mutual
def uptoBulk {H : Type} : DataW H → Nat
  | .lit (.string bytes) => bytes.length + 1
  | .lit _ => 1
  | .nil => 1
  | .ptr d => uptoBulk d + 1
  | .slice elems spare => uptoBulkAll elems + uptoBulkAll spare + 1
  | .agg parts => uptoBulkAll parts + 1
  | .iface _ d => uptoBulk d + 1
  | .map entries => uptoBulkEntries entries + 1
  | .held _ => 1
def uptoBulkAll {H : Type} : List (DataW H) → Nat
  | [] => 0
  | d :: r => uptoBulk d + uptoBulkAll r
def uptoBulkEntries {H : Type} : List (Lit × DataW H) → Nat
  | [] => 0
  | x :: r => uptoBulkEntry x + uptoBulkEntries r
def uptoBulkEntry {H : Type} : Lit × DataW H → Nat
  | (.string bytes, d) => bytes.length + uptoBulk d + 1
  | (_, d) => uptoBulk d + 1
 end
def uptoSmall : (H : Type) → List (DataW H) → Bool := fun _ ds => decide (uptoBulkAll ds ≤ 1048576)
def OpenSpec.upto (s : _root_.Go.ChangeSpec) : _root_.Go.OpenSpec := { _root_.Go.OpenSpec.ofChange s with cond := some uptoSmall }

/-- 'taprootlaw01.BitsBytes', WHERE WHAT IT READS IS OF BULK AT MOST 1048576: true; the input reads as it did. -/
def bitsBytesUptoRow : OpenClaim := { program := "ytchobkabndnhoaa", sum := "7b4d142c67ce2e279f88acd1b18eec86c2d74de02e14704d5916ce1ba1abdf78", func := "taproot/taprootlaw01.BitsBytes", spec := "bitsBytes", apart := false, narrowed := true }
def BitsBytesUptoSaid : Prop := bitsBytesUptoRow.holds Try.pinned (OpenSpec.upto bitsBytesSpec)

/-- 'taprootlaw09.CellsAll', WHERE WHAT IT READS IS OF BULK AT MOST 1048576: true; the input reads as it did. -/
def cellsAllUptoRow : OpenClaim := { program := "ytchobkabndnhoaa", sum := "7b4d142c67ce2e279f88acd1b18eec86c2d74de02e14704d5916ce1ba1abdf78", func := "taproot/taprootlaw09.CellsAll", spec := "cellsAll", unfollowed := true, recurses := true, apart := false, narrowed := true }
def CellsAllUptoSaid : Prop := cellsAllUptoRow.holds Try.pinned (OpenSpec.upto cellsAllSpec)

/-- 'taprootlaw09.CellsApart', WHERE WHAT IT READS IS OF BULK AT MOST 1048576: true; the input reads as it did. -/
def cellsApartUptoRow : OpenClaim := { program := "ytchobkabndnhoaa", sum := "7b4d142c67ce2e279f88acd1b18eec86c2d74de02e14704d5916ce1ba1abdf78", func := "taproot/taprootlaw09.CellsApart", spec := "cellsApart", unfollowed := true, recurses := true, apart := false, narrowed := true }
def CellsApartUptoSaid : Prop := cellsApartUptoRow.holds Try.pinned (OpenSpec.upto cellsApartSpec)

/-- 'taprootlaw09.CellsAddresses', WHERE WHAT IT READS IS OF BULK AT MOST 1048576: true; the input reads as it did. -/
def cellsAddressesUptoRow : OpenClaim := { program := "ytchobkabndnhoaa", sum := "7b4d142c67ce2e279f88acd1b18eec86c2d74de02e14704d5916ce1ba1abdf78", func := "taproot/taprootlaw09.CellsAddresses", spec := "cellsAddresses", apart := false, narrowed := true }
def CellsAddressesUptoSaid : Prop := cellsAddressesUptoRow.holds Try.pinned (OpenSpec.upto cellsAddressesSpec)

/-- 'taprootlaw36.ExploreWays', WHERE WHAT IT READS IS OF BULK AT MOST 1048576: true; the input reads as it did. -/
def exploreWaysUptoRow : OpenClaim := { program := "ytchobkabndnhoaa", sum := "7b4d142c67ce2e279f88acd1b18eec86c2d74de02e14704d5916ce1ba1abdf78", func := "taproot/taprootlaw36.ExploreWays", spec := "exploreWays", apart := false, narrowed := true }
def ExploreWaysUptoSaid : Prop := exploreWaysUptoRow.holds Try.pinned (OpenSpec.upto exploreWaysSpec)

/-- 'taprootlaw36.ExploreGray', WHERE WHAT IT READS IS OF BULK AT MOST 1048576: true; the input reads as it did. -/
def exploreGrayUptoRow : OpenClaim := { program := "ytchobkabndnhoaa", sum := "7b4d142c67ce2e279f88acd1b18eec86c2d74de02e14704d5916ce1ba1abdf78", func := "taproot/taprootlaw36.ExploreGray", spec := "exploreGray", apart := false, narrowed := true }
def ExploreGrayUptoSaid : Prop := exploreGrayUptoRow.holds Try.pinned (OpenSpec.upto exploreGraySpec)

/-- 'taprootlaw36.ExploreSpreads', WHERE WHAT IT READS IS OF BULK AT MOST 1048576: true; the input reads as it did. -/
def exploreSpreadsUptoRow : OpenClaim := { program := "ytchobkabndnhoaa", sum := "7b4d142c67ce2e279f88acd1b18eec86c2d74de02e14704d5916ce1ba1abdf78", func := "taproot/taprootlaw36.ExploreSpreads", spec := "exploreSpreads", apart := false, narrowed := true }
def ExploreSpreadsUptoSaid : Prop := exploreSpreadsUptoRow.holds Try.pinned (OpenSpec.upto exploreSpreadsSpec)

/-- 'taprootlaw36.ExploreNumbers', WHERE WHAT IT READS IS OF BULK AT MOST 1048576: true; the input reads as it did. -/
def exploreNumbersUptoRow : OpenClaim := { program := "ytchobkabndnhoaa", sum := "7b4d142c67ce2e279f88acd1b18eec86c2d74de02e14704d5916ce1ba1abdf78", func := "taproot/taprootlaw36.ExploreNumbers", spec := "exploreNumbers", apart := false, narrowed := true }
def ExploreNumbersUptoSaid : Prop := exploreNumbersUptoRow.holds Try.pinned (OpenSpec.upto exploreNumbersSpec)

end Rows
end Go.Proofs.Ytchobkabndnhoaa
