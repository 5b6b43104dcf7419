/-
  No cell of these rows narrows 'for every input' (looked for: loops, veiled, ifaces, maps, wideKeys, modest, calm, conditions, laid).
  DERIVED. THE GIVEN ROWS OF THIS SEAT. 12 by the template 'for every input the law returns true; each argument reads behind the call as it read before'; 0 by the template 'total and deterministic' (their statements: YtmekhdclnhhhbaaTotals.lean).
  GIVEN WITH THE SEED: the statements are not yours to turn. If you find one false, say at which input.
  Laid BY PROGRAM, IN A SANDBOX (cutbox-rows.mjs): the forced cells as the released guide's own fill.sh prints them over the translation 9a1f88317a2638df… (all of the seat's roots in one cut). By AI agents, Wed Nov 11 2026. No macro, syntax, notation, axiom, sorry.
-/
import Derived.Test.YtmekhdclnhhhbaaChecked
import GoSem.Claim
import GoSem.ClaimJoined
import GoSem.ClaimMapViews
import Derived.JoinedTies
import Derived.KernelRfl
namespace Go.Proofs.Ytmekhdclnhhhbaa
/- THE CELL 'sum', in the pinned program and in every row, IS THE sha256 OF THE DUMP (.gsa) THAT YtmekhdclnhhhbaaProg.lean LOADS. Nothing in Lean hashes anything: it is a label: what it is worth is what the hold of that sum in a sandbox is worth. -/
noncomputable def Try.pinned : Pinned := { name := "ytmekhdclnhhhbaa", sum := "9a1f88317a2638df15e42a53757f00492d202beb63c35e6c170c110aea121844", checked := Try.checked }
namespace Rows
def none {H : Type} : Left H := { results := [], args := [] }

/-- 'taprootlaw05.SuperReads': WHATEVER THE INPUT: true; the input reads as it did. -/
def superReadsSpec : ChangeSpec := { name := "superReads", fn := fun _ => fun
  | [d1, d2] => { results := [.lit (.bool true)], args := [d1, d2] }
  | _ => none }
def superReadsRow : OpenClaim := { program := "ytmekhdclnhhhbaa", sum := "9a1f88317a2638df15e42a53757f00492d202beb63c35e6c170c110aea121844", func := "taproot/taprootlaw05.SuperReads", spec := "superReads", apart := false }
def SuperReadsSaid : Prop := superReadsRow.holds Try.pinned (OpenSpec.ofChange superReadsSpec)

/-- ITS FALSE NEIGHBOUR: 'it returns false'. Refute it at one input. -/
def superReadsWrong : ChangeSpec := { name := "superReads", fn := fun _ => fun
  | [d1, d2] => { results := [.lit (.bool false)], args := [d1, d2] }
  | _ => none }
def SuperReadsWrongFalsely : Prop := superReadsRow.holds Try.pinned (OpenSpec.ofChange superReadsWrong)

/-- 'taprootlaw03.NvmSizes': WHATEVER THE INPUT: true; the input reads as it did. -/
def nvmSizesSpec : ChangeSpec := { name := "nvmSizes", fn := fun _ => fun
  | [d1, d2] => { results := [.lit (.bool true)], args := [d1, d2] }
  | _ => none }
def nvmSizesRow : OpenClaim := { program := "ytmekhdclnhhhbaa", sum := "9a1f88317a2638df15e42a53757f00492d202beb63c35e6c170c110aea121844", func := "taproot/taprootlaw03.NvmSizes", spec := "nvmSizes", apart := false }
def NvmSizesSaid : Prop := nvmSizesRow.holds Try.pinned (OpenSpec.ofChange nvmSizesSpec)

/-- ITS FALSE NEIGHBOUR: 'it returns false'. Refute it at one input. -/
def nvmSizesWrong : ChangeSpec := { name := "nvmSizes", fn := fun _ => fun
  | [d1, d2] => { results := [.lit (.bool false)], args := [d1, d2] }
  | _ => none }
def NvmSizesWrongFalsely : Prop := nvmSizesRow.holds Try.pinned (OpenSpec.ofChange nvmSizesWrong)

/-- 'taprootlaw03.NvmStops': WHATEVER THE INPUT: true; the input reads as it did. -/
def nvmStopsSpec : ChangeSpec := { name := "nvmStops", fn := fun _ => fun
  | [d1, d2, d3] => { results := [.lit (.bool true)], args := [d1, d2, d3] }
  | _ => none }
def nvmStopsRow : OpenClaim := { program := "ytmekhdclnhhhbaa", sum := "9a1f88317a2638df15e42a53757f00492d202beb63c35e6c170c110aea121844", func := "taproot/taprootlaw03.NvmStops", spec := "nvmStops", apart := false }
def NvmStopsSaid : Prop := nvmStopsRow.holds Try.pinned (OpenSpec.ofChange nvmStopsSpec)

/-- ITS FALSE NEIGHBOUR: 'it returns false'. Refute it at one input. -/
def nvmStopsWrong : ChangeSpec := { name := "nvmStops", fn := fun _ => fun
  | [d1, d2, d3] => { results := [.lit (.bool false)], args := [d1, d2, d3] }
  | _ => none }
def NvmStopsWrongFalsely : Prop := nvmStopsRow.holds Try.pinned (OpenSpec.ofChange nvmStopsWrong)

/-- 'taprootlaw03.NvmPlays': WHATEVER THE INPUT: true; the input reads as it did. -/
def nvmPlaysSpec : ChangeSpec := { name := "nvmPlays", fn := fun _ => fun
  | [d1, d2] => { results := [.lit (.bool true)], args := [d1, d2] }
  | _ => none }
def nvmPlaysRow : OpenClaim := { program := "ytmekhdclnhhhbaa", sum := "9a1f88317a2638df15e42a53757f00492d202beb63c35e6c170c110aea121844", func := "taproot/taprootlaw03.NvmPlays", spec := "nvmPlays", apart := false }
def NvmPlaysSaid : Prop := nvmPlaysRow.holds Try.pinned (OpenSpec.ofChange nvmPlaysSpec)

/-- ITS FALSE NEIGHBOUR: 'it returns false'. Refute it at one input. -/
def nvmPlaysWrong : ChangeSpec := { name := "nvmPlays", fn := fun _ => fun
  | [d1, d2] => { results := [.lit (.bool false)], args := [d1, d2] }
  | _ => none }
def NvmPlaysWrongFalsely : Prop := nvmPlaysRow.holds Try.pinned (OpenSpec.ofChange nvmPlaysWrong)

/-- 'taprootlaw03.NvmLasts': WHATEVER THE INPUT: true; the input reads as it did. -/
def nvmLastsSpec : ChangeSpec := { name := "nvmLasts", fn := fun _ => fun
  | [d1, d2, d3] => { results := [.lit (.bool true)], args := [d1, d2, d3] }
  | _ => none }
def nvmLastsRow : OpenClaim := { program := "ytmekhdclnhhhbaa", sum := "9a1f88317a2638df15e42a53757f00492d202beb63c35e6c170c110aea121844", func := "taproot/taprootlaw03.NvmLasts", spec := "nvmLasts", apart := false }
def NvmLastsSaid : Prop := nvmLastsRow.holds Try.pinned (OpenSpec.ofChange nvmLastsSpec)

/-- ITS FALSE NEIGHBOUR: 'it returns false'. Refute it at one input. -/
def nvmLastsWrong : ChangeSpec := { name := "nvmLasts", fn := fun _ => fun
  | [d1, d2, d3] => { results := [.lit (.bool false)], args := [d1, d2, d3] }
  | _ => none }
def NvmLastsWrongFalsely : Prop := nvmLastsRow.holds Try.pinned (OpenSpec.ofChange nvmLastsWrong)

/-- 'taprootlaw05.SuperLasts': WHATEVER THE INPUT: true; the input reads as it did. -/
def superLastsSpec : ChangeSpec := { name := "superLasts", fn := fun _ => fun
  | [d1, d2, d3] => { results := [.lit (.bool true)], args := [d1, d2, d3] }
  | _ => none }
def superLastsRow : OpenClaim := { program := "ytmekhdclnhhhbaa", sum := "9a1f88317a2638df15e42a53757f00492d202beb63c35e6c170c110aea121844", func := "taproot/taprootlaw05.SuperLasts", spec := "superLasts", apart := false }
def SuperLastsSaid : Prop := superLastsRow.holds Try.pinned (OpenSpec.ofChange superLastsSpec)

/-- ITS FALSE NEIGHBOUR: 'it returns false'. Refute it at one input. -/
def superLastsWrong : ChangeSpec := { name := "superLasts", fn := fun _ => fun
  | [d1, d2, d3] => { results := [.lit (.bool false)], args := [d1, d2, d3] }
  | _ => none }
def SuperLastsWrongFalsely : Prop := superLastsRow.holds Try.pinned (OpenSpec.ofChange superLastsWrong)

/-- 'taprootlaw30.ImageSame': WHATEVER THE INPUT: true; the input reads as it did. -/
def imageSameSpec : ChangeSpec := { name := "imageSame", fn := fun _ => fun
  | [d1, d2] => { results := [.lit (.bool true)], args := [d1, d2] }
  | _ => none }
def imageSameRow : OpenClaim := { program := "ytmekhdclnhhhbaa", sum := "9a1f88317a2638df15e42a53757f00492d202beb63c35e6c170c110aea121844", func := "taproot/taprootlaw30.ImageSame", spec := "imageSame", apart := false }
def ImageSameSaid : Prop := imageSameRow.holds Try.pinned (OpenSpec.ofChange imageSameSpec)

/-- ITS FALSE NEIGHBOUR: 'it returns false'. Refute it at one input. -/
def imageSameWrong : ChangeSpec := { name := "imageSame", fn := fun _ => fun
  | [d1, d2] => { results := [.lit (.bool false)], args := [d1, d2] }
  | _ => none }
def ImageSameWrongFalsely : Prop := imageSameRow.holds Try.pinned (OpenSpec.ofChange imageSameWrong)

/-- 'taprootlaw30.ImageReads': WHATEVER THE INPUT: true; the input reads as it did. -/
def imageReadsSpec : ChangeSpec := { name := "imageReads", fn := fun _ => fun
  | [d] => { results := [.lit (.bool true)], args := [d] }
  | _ => none }
def imageReadsRow : OpenClaim := { program := "ytmekhdclnhhhbaa", sum := "9a1f88317a2638df15e42a53757f00492d202beb63c35e6c170c110aea121844", func := "taproot/taprootlaw30.ImageReads", spec := "imageReads", apart := false }
def ImageReadsSaid : Prop := imageReadsRow.holds Try.pinned (OpenSpec.ofChange imageReadsSpec)

/-- ITS FALSE NEIGHBOUR: 'it returns false'. Refute it at one input. -/
def imageReadsWrong : ChangeSpec := { name := "imageReads", fn := fun _ => fun
  | [d] => { results := [.lit (.bool false)], args := [d] }
  | _ => none }
def ImageReadsWrongFalsely : Prop := imageReadsRow.holds Try.pinned (OpenSpec.ofChange imageReadsWrong)

/-- 'taprootlaw30.ImageSaves': WHATEVER THE INPUT: true; the input reads as it did. -/
def imageSavesSpec : ChangeSpec := { name := "imageSaves", fn := fun _ => fun
  | [d1, d2] => { results := [.lit (.bool true)], args := [d1, d2] }
  | _ => none }
def imageSavesRow : OpenClaim := { program := "ytmekhdclnhhhbaa", sum := "9a1f88317a2638df15e42a53757f00492d202beb63c35e6c170c110aea121844", func := "taproot/taprootlaw30.ImageSaves", spec := "imageSaves", apart := false }
def ImageSavesSaid : Prop := imageSavesRow.holds Try.pinned (OpenSpec.ofChange imageSavesSpec)

/-- ITS FALSE NEIGHBOUR: 'it returns false'. Refute it at one input. -/
def imageSavesWrong : ChangeSpec := { name := "imageSaves", fn := fun _ => fun
  | [d1, d2] => { results := [.lit (.bool false)], args := [d1, d2] }
  | _ => none }
def ImageSavesWrongFalsely : Prop := imageSavesRow.holds Try.pinned (OpenSpec.ofChange imageSavesWrong)

/-- 'taprootlaw36.ExploreStates': WHATEVER THE INPUT: true; the input reads as it did. -/
def exploreStatesSpec : ChangeSpec := { name := "exploreStates", fn := fun _ => fun
  | [d1, d2, d3] => { results := [.lit (.bool true)], args := [d1, d2, d3] }
  | _ => none }
def exploreStatesRow : OpenClaim := { program := "ytmekhdclnhhhbaa", sum := "9a1f88317a2638df15e42a53757f00492d202beb63c35e6c170c110aea121844", func := "taproot/taprootlaw36.ExploreStates", spec := "exploreStates", apart := false }
def ExploreStatesSaid : Prop := exploreStatesRow.holds Try.pinned (OpenSpec.ofChange exploreStatesSpec)

/-- ITS FALSE NEIGHBOUR: 'it returns false'. Refute it at one input. -/
def exploreStatesWrong : ChangeSpec := { name := "exploreStates", fn := fun _ => fun
  | [d1, d2, d3] => { results := [.lit (.bool false)], args := [d1, d2, d3] }
  | _ => none }
def ExploreStatesWrongFalsely : Prop := exploreStatesRow.holds Try.pinned (OpenSpec.ofChange exploreStatesWrong)

/-- 'taprootlaw18.RootsPlays': WHATEVER THE INPUT: true; the input reads as it did. -/
def rootsPlaysSpec : ChangeSpec := { name := "rootsPlays", fn := fun _ => fun
  | [d] => { results := [.lit (.bool true)], args := [d] }
  | _ => none }
def rootsPlaysRow : OpenClaim := { program := "ytmekhdclnhhhbaa", sum := "9a1f88317a2638df15e42a53757f00492d202beb63c35e6c170c110aea121844", func := "taproot/taprootlaw18.RootsPlays", spec := "rootsPlays", apart := false }
def RootsPlaysSaid : Prop := rootsPlaysRow.holds Try.pinned (OpenSpec.ofChange rootsPlaysSpec)

/-- ITS FALSE NEIGHBOUR: 'it returns false'. Refute it at one input. -/
def rootsPlaysWrong : ChangeSpec := { name := "rootsPlays", fn := fun _ => fun
  | [d] => { results := [.lit (.bool false)], args := [d] }
  | _ => none }
def RootsPlaysWrongFalsely : Prop := rootsPlaysRow.holds Try.pinned (OpenSpec.ofChange rootsPlaysWrong)

/-- 'taprootlaw18.RootsOpens': WHATEVER THE INPUT: true; the input reads as it did. -/
def rootsOpensSpec : ChangeSpec := { name := "rootsOpens", fn := fun _ => fun
  | [d1, d2] => { results := [.lit (.bool true)], args := [d1, d2] }
  | _ => none }
def rootsOpensRow : OpenClaim := { program := "ytmekhdclnhhhbaa", sum := "9a1f88317a2638df15e42a53757f00492d202beb63c35e6c170c110aea121844", func := "taproot/taprootlaw18.RootsOpens", spec := "rootsOpens", apart := false }
def RootsOpensSaid : Prop := rootsOpensRow.holds Try.pinned (OpenSpec.ofChange rootsOpensSpec)

/-- ITS FALSE NEIGHBOUR: 'it returns false'. Refute it at one input. -/
def rootsOpensWrong : ChangeSpec := { name := "rootsOpens", fn := fun _ => fun
  | [d1, d2] => { results := [.lit (.bool false)], args := [d1, d2] }
  | _ => none }
def RootsOpensWrongFalsely : Prop := rootsOpensRow.holds Try.pinned (OpenSpec.ofChange rootsOpensWrong)

/- THE SECOND FORM. 'bulk': how many values and letters a reading holds, each counted each time it is reached (what is shared counts as often as it is met; a slice's spare places count too). A statement '..UptoSaid' is the law's where the arguments, and the package variables that the reading takes, are together of bulk at most 1048576: NARROWER than '..Said'. Prove '..Said' where nothing that the law and all that it calls make is longer than what came in: it says more and counts as full. Else prove '..UptoSaid'. A law counts once. -/
mutual
def uptoBulk {H : Type} : DataW H → Nat
  | .lit (.string bytes) => bytes.length + 1
  | .lit _ => 1
  | .nil => 1
  | .ptr d => uptoBulk d + 1
  | .slice elems spare => uptoBulkAll elems + uptoBulkAll spare + 1
  | .agg parts => uptoBulkAll parts + 1
  | .iface _ d => uptoBulk d + 1
  | .map entries => uptoBulkEntries entries + 1
  | .held _ => 1
def uptoBulkAll {H : Type} : List (DataW H) → Nat
  | [] => 0
  | d :: r => uptoBulk d + uptoBulkAll r
def uptoBulkEntries {H : Type} : List (Lit × DataW H) → Nat
  | [] => 0
  | x :: r => uptoBulkEntry x + uptoBulkEntries r
def uptoBulkEntry {H : Type} : Lit × DataW H → Nat
  | (.string bytes, d) => bytes.length + uptoBulk d + 1
  | (_, d) => uptoBulk d + 1
 end
def uptoSmall : (H : Type) → List (DataW H) → Bool := fun _ ds => decide (uptoBulkAll ds ≤ 1048576)
def OpenSpec.upto (s : _root_.Go.ChangeSpec) : _root_.Go.OpenSpec := { _root_.Go.OpenSpec.ofChange s with cond := some uptoSmall }

/-- 'taprootlaw05.SuperReads', WHERE WHAT IT READS IS OF BULK AT MOST 1048576: true; the input reads as it did. -/
def superReadsUptoRow : OpenClaim := { program := "ytmekhdclnhhhbaa", sum := "9a1f88317a2638df15e42a53757f00492d202beb63c35e6c170c110aea121844", func := "taproot/taprootlaw05.SuperReads", spec := "superReads", apart := false, narrowed := true }
def SuperReadsUptoSaid : Prop := superReadsUptoRow.holds Try.pinned (OpenSpec.upto superReadsSpec)

/-- 'taprootlaw03.NvmSizes', WHERE WHAT IT READS IS OF BULK AT MOST 1048576: true; the input reads as it did. -/
def nvmSizesUptoRow : OpenClaim := { program := "ytmekhdclnhhhbaa", sum := "9a1f88317a2638df15e42a53757f00492d202beb63c35e6c170c110aea121844", func := "taproot/taprootlaw03.NvmSizes", spec := "nvmSizes", apart := false, narrowed := true }
def NvmSizesUptoSaid : Prop := nvmSizesUptoRow.holds Try.pinned (OpenSpec.upto nvmSizesSpec)

/-- 'taprootlaw03.NvmStops', WHERE WHAT IT READS IS OF BULK AT MOST 1048576: true; the input reads as it did. -/
def nvmStopsUptoRow : OpenClaim := { program := "ytmekhdclnhhhbaa", sum := "9a1f88317a2638df15e42a53757f00492d202beb63c35e6c170c110aea121844", func := "taproot/taprootlaw03.NvmStops", spec := "nvmStops", apart := false, narrowed := true }
def NvmStopsUptoSaid : Prop := nvmStopsUptoRow.holds Try.pinned (OpenSpec.upto nvmStopsSpec)

/-- 'taprootlaw03.NvmPlays', WHERE WHAT IT READS IS OF BULK AT MOST 1048576: true; the input reads as it did. -/
def nvmPlaysUptoRow : OpenClaim := { program := "ytmekhdclnhhhbaa", sum := "9a1f88317a2638df15e42a53757f00492d202beb63c35e6c170c110aea121844", func := "taproot/taprootlaw03.NvmPlays", spec := "nvmPlays", apart := false, narrowed := true }
def NvmPlaysUptoSaid : Prop := nvmPlaysUptoRow.holds Try.pinned (OpenSpec.upto nvmPlaysSpec)

/-- 'taprootlaw03.NvmLasts', WHERE WHAT IT READS IS OF BULK AT MOST 1048576: true; the input reads as it did. -/
def nvmLastsUptoRow : OpenClaim := { program := "ytmekhdclnhhhbaa", sum := "9a1f88317a2638df15e42a53757f00492d202beb63c35e6c170c110aea121844", func := "taproot/taprootlaw03.NvmLasts", spec := "nvmLasts", apart := false, narrowed := true }
def NvmLastsUptoSaid : Prop := nvmLastsUptoRow.holds Try.pinned (OpenSpec.upto nvmLastsSpec)

/-- 'taprootlaw05.SuperLasts', WHERE WHAT IT READS IS OF BULK AT MOST 1048576: true; the input reads as it did. -/
def superLastsUptoRow : OpenClaim := { program := "ytmekhdclnhhhbaa", sum := "9a1f88317a2638df15e42a53757f00492d202beb63c35e6c170c110aea121844", func := "taproot/taprootlaw05.SuperLasts", spec := "superLasts", apart := false, narrowed := true }
def SuperLastsUptoSaid : Prop := superLastsUptoRow.holds Try.pinned (OpenSpec.upto superLastsSpec)

/-- 'taprootlaw30.ImageSame', WHERE WHAT IT READS IS OF BULK AT MOST 1048576: true; the input reads as it did. -/
def imageSameUptoRow : OpenClaim := { program := "ytmekhdclnhhhbaa", sum := "9a1f88317a2638df15e42a53757f00492d202beb63c35e6c170c110aea121844", func := "taproot/taprootlaw30.ImageSame", spec := "imageSame", apart := false, narrowed := true }
def ImageSameUptoSaid : Prop := imageSameUptoRow.holds Try.pinned (OpenSpec.upto imageSameSpec)

/-- 'taprootlaw30.ImageReads', WHERE WHAT IT READS IS OF BULK AT MOST 1048576: true; the input reads as it did. -/
def imageReadsUptoRow : OpenClaim := { program := "ytmekhdclnhhhbaa", sum := "9a1f88317a2638df15e42a53757f00492d202beb63c35e6c170c110aea121844", func := "taproot/taprootlaw30.ImageReads", spec := "imageReads", apart := false, narrowed := true }
def ImageReadsUptoSaid : Prop := imageReadsUptoRow.holds Try.pinned (OpenSpec.upto imageReadsSpec)

/-- 'taprootlaw30.ImageSaves', WHERE WHAT IT READS IS OF BULK AT MOST 1048576: true; the input reads as it did. -/
def imageSavesUptoRow : OpenClaim := { program := "ytmekhdclnhhhbaa", sum := "9a1f88317a2638df15e42a53757f00492d202beb63c35e6c170c110aea121844", func := "taproot/taprootlaw30.ImageSaves", spec := "imageSaves", apart := false, narrowed := true }
def ImageSavesUptoSaid : Prop := imageSavesUptoRow.holds Try.pinned (OpenSpec.upto imageSavesSpec)

/-- 'taprootlaw36.ExploreStates', WHERE WHAT IT READS IS OF BULK AT MOST 1048576: true; the input reads as it did. -/
def exploreStatesUptoRow : OpenClaim := { program := "ytmekhdclnhhhbaa", sum := "9a1f88317a2638df15e42a53757f00492d202beb63c35e6c170c110aea121844", func := "taproot/taprootlaw36.ExploreStates", spec := "exploreStates", apart := false, narrowed := true }
def ExploreStatesUptoSaid : Prop := exploreStatesUptoRow.holds Try.pinned (OpenSpec.upto exploreStatesSpec)

/-- 'taprootlaw18.RootsPlays', WHERE WHAT IT READS IS OF BULK AT MOST 1048576: true; the input reads as it did. -/
def rootsPlaysUptoRow : OpenClaim := { program := "ytmekhdclnhhhbaa", sum := "9a1f88317a2638df15e42a53757f00492d202beb63c35e6c170c110aea121844", func := "taproot/taprootlaw18.RootsPlays", spec := "rootsPlays", apart := false, narrowed := true }
def RootsPlaysUptoSaid : Prop := rootsPlaysUptoRow.holds Try.pinned (OpenSpec.upto rootsPlaysSpec)

/-- 'taprootlaw18.RootsOpens', WHERE WHAT IT READS IS OF BULK AT MOST 1048576: true; the input reads as it did. -/
def rootsOpensUptoRow : OpenClaim := { program := "ytmekhdclnhhhbaa", sum := "9a1f88317a2638df15e42a53757f00492d202beb63c35e6c170c110aea121844", func := "taproot/taprootlaw18.RootsOpens", spec := "rootsOpens", apart := false, narrowed := true }
def RootsOpensUptoSaid : Prop := rootsOpensUptoRow.holds Try.pinned (OpenSpec.upto rootsOpensSpec)

end Rows
end Go.Proofs.Ytmekhdclnhhhbaa
