/-
  No cell of these rows narrows 'for every input' (looked for: loops, veiled, ifaces, maps, wideKeys, modest, calm, conditions, laid).
  DERIVED. THE GIVEN ROWS OF THIS SEAT. 10 by the template 'for every input the law returns true; each argument reads behind the call as it read before'; 0 by the template 'total and deterministic' (their statements: YtgcjagffoeoldaaTotals.lean).
  GIVEN WITH THE SEED: the statements are not yours to turn. If you find one false, say at which input.
  Laid BY PROGRAM, IN A SANDBOX (cutbox-rows.mjs): the forced cells as the released guide's own fill.sh prints them over the translation e11e002334d62f85… (all of the seat's roots in one cut). By AI agents, Wed Nov 11 2026. No macro, syntax, notation, axiom, sorry.
-/
import Derived.Test.YtgcjagffoeoldaaChecked
import GoSem.Claim
import GoSem.ClaimJoined
import GoSem.ClaimMapViews
import Derived.JoinedTies
import Derived.KernelRfl
namespace Go.Proofs.Ytgcjagffoeoldaa
/- THE CELL 'sum', in the pinned program and in every row, IS THE sha256 OF THE DUMP (.gsa) THAT YtgcjagffoeoldaaProg.lean LOADS. Nothing in Lean hashes anything: it is a label: what it is worth is what the hold of that sum in a sandbox is worth. -/
noncomputable def Try.pinned : Pinned := { name := "ytgcjagffoeoldaa", sum := "e11e002334d62f85f86e5581eed0a6636d05c61140351f143e43a8ccf08b32c3", checked := Try.checked }
namespace Rows
def none {H : Type} : Left H := { results := [], args := [] }

/-- 'taprootlaw05.SuperCodes': WHATEVER THE INPUT: true; the input reads as it did. -/
def superCodesSpec : ChangeSpec := { name := "superCodes", fn := fun _ => fun
  | [d1, d2, d3] => { results := [.lit (.bool true)], args := [d1, d2, d3] }
  | _ => none }
def superCodesRow : OpenClaim := { program := "ytgcjagffoeoldaa", sum := "e11e002334d62f85f86e5581eed0a6636d05c61140351f143e43a8ccf08b32c3", func := "taproot/taprootlaw05.SuperCodes", spec := "superCodes", apart := false }
def SuperCodesSaid : Prop := superCodesRow.holds Try.pinned (OpenSpec.ofChange superCodesSpec)

/-- ITS FALSE NEIGHBOUR: 'it returns false'. Refute it at one input. -/
def superCodesWrong : ChangeSpec := { name := "superCodes", fn := fun _ => fun
  | [d1, d2, d3] => { results := [.lit (.bool false)], args := [d1, d2, d3] }
  | _ => none }
def SuperCodesWrongFalsely : Prop := superCodesRow.holds Try.pinned (OpenSpec.ofChange superCodesWrong)

/-- 'taprootlaw17.SlotCodes': WHATEVER THE INPUT: true; the input reads as it did. -/
def slotCodesSpec : ChangeSpec := { name := "slotCodes", fn := fun _ => fun
  | [d1, d2] => { results := [.lit (.bool true)], args := [d1, d2] }
  | _ => none }
def slotCodesRow : OpenClaim := { program := "ytgcjagffoeoldaa", sum := "e11e002334d62f85f86e5581eed0a6636d05c61140351f143e43a8ccf08b32c3", func := "taproot/taprootlaw17.SlotCodes", spec := "slotCodes", apart := false }
def SlotCodesSaid : Prop := slotCodesRow.holds Try.pinned (OpenSpec.ofChange slotCodesSpec)

/-- ITS FALSE NEIGHBOUR: 'it returns false'. Refute it at one input. -/
def slotCodesWrong : ChangeSpec := { name := "slotCodes", fn := fun _ => fun
  | [d1, d2] => { results := [.lit (.bool false)], args := [d1, d2] }
  | _ => none }
def SlotCodesWrongFalsely : Prop := slotCodesRow.holds Try.pinned (OpenSpec.ofChange slotCodesWrong)

/-- 'taprootlaw17.SlotMixed': WHATEVER THE INPUT: true; the input reads as it did. -/
def slotMixedSpec : ChangeSpec := { name := "slotMixed", fn := fun _ => fun
  | [d1, d2] => { results := [.lit (.bool true)], args := [d1, d2] }
  | _ => none }
def slotMixedRow : OpenClaim := { program := "ytgcjagffoeoldaa", sum := "e11e002334d62f85f86e5581eed0a6636d05c61140351f143e43a8ccf08b32c3", func := "taproot/taprootlaw17.SlotMixed", spec := "slotMixed", apart := false }
def SlotMixedSaid : Prop := slotMixedRow.holds Try.pinned (OpenSpec.ofChange slotMixedSpec)

/-- ITS FALSE NEIGHBOUR: 'it returns false'. Refute it at one input. -/
def slotMixedWrong : ChangeSpec := { name := "slotMixed", fn := fun _ => fun
  | [d1, d2] => { results := [.lit (.bool false)], args := [d1, d2] }
  | _ => none }
def SlotMixedWrongFalsely : Prop := slotMixedRow.holds Try.pinned (OpenSpec.ofChange slotMixedWrong)

/-- 'taprootlaw17.SlotChooses': WHATEVER THE INPUT: true; the input reads as it did. -/
def slotChoosesSpec : ChangeSpec := { name := "slotChooses", fn := fun _ => fun
  | [d1, d2] => { results := [.lit (.bool true)], args := [d1, d2] }
  | _ => none }
def slotChoosesRow : OpenClaim := { program := "ytgcjagffoeoldaa", sum := "e11e002334d62f85f86e5581eed0a6636d05c61140351f143e43a8ccf08b32c3", func := "taproot/taprootlaw17.SlotChooses", spec := "slotChooses", apart := false }
def SlotChoosesSaid : Prop := slotChoosesRow.holds Try.pinned (OpenSpec.ofChange slotChoosesSpec)

/-- ITS FALSE NEIGHBOUR: 'it returns false'. Refute it at one input. -/
def slotChoosesWrong : ChangeSpec := { name := "slotChooses", fn := fun _ => fun
  | [d1, d2] => { results := [.lit (.bool false)], args := [d1, d2] }
  | _ => none }
def SlotChoosesWrongFalsely : Prop := slotChoosesRow.holds Try.pinned (OpenSpec.ofChange slotChoosesWrong)

/-- 'taprootlaw05.SuperReads': WHATEVER THE INPUT: true; the input reads as it did. -/
def superReadsSpec : ChangeSpec := { name := "superReads", fn := fun _ => fun
  | [d1, d2] => { results := [.lit (.bool true)], args := [d1, d2] }
  | _ => none }
def superReadsRow : OpenClaim := { program := "ytgcjagffoeoldaa", sum := "e11e002334d62f85f86e5581eed0a6636d05c61140351f143e43a8ccf08b32c3", func := "taproot/taprootlaw05.SuperReads", spec := "superReads", apart := false }
def SuperReadsSaid : Prop := superReadsRow.holds Try.pinned (OpenSpec.ofChange superReadsSpec)

/-- ITS FALSE NEIGHBOUR: 'it returns false'. Refute it at one input. -/
def superReadsWrong : ChangeSpec := { name := "superReads", fn := fun _ => fun
  | [d1, d2] => { results := [.lit (.bool false)], args := [d1, d2] }
  | _ => none }
def SuperReadsWrongFalsely : Prop := superReadsRow.holds Try.pinned (OpenSpec.ofChange superReadsWrong)

/-- 'taprootlaw03.NvmSizes': WHATEVER THE INPUT: true; the input reads as it did. -/
def nvmSizesSpec : ChangeSpec := { name := "nvmSizes", fn := fun _ => fun
  | [d1, d2] => { results := [.lit (.bool true)], args := [d1, d2] }
  | _ => none }
def nvmSizesRow : OpenClaim := { program := "ytgcjagffoeoldaa", sum := "e11e002334d62f85f86e5581eed0a6636d05c61140351f143e43a8ccf08b32c3", func := "taproot/taprootlaw03.NvmSizes", spec := "nvmSizes", apart := false }
def NvmSizesSaid : Prop := nvmSizesRow.holds Try.pinned (OpenSpec.ofChange nvmSizesSpec)

/-- ITS FALSE NEIGHBOUR: 'it returns false'. Refute it at one input. -/
def nvmSizesWrong : ChangeSpec := { name := "nvmSizes", fn := fun _ => fun
  | [d1, d2] => { results := [.lit (.bool false)], args := [d1, d2] }
  | _ => none }
def NvmSizesWrongFalsely : Prop := nvmSizesRow.holds Try.pinned (OpenSpec.ofChange nvmSizesWrong)

/-- 'taprootlaw03.NvmStops': WHATEVER THE INPUT: true; the input reads as it did. -/
def nvmStopsSpec : ChangeSpec := { name := "nvmStops", fn := fun _ => fun
  | [d1, d2, d3] => { results := [.lit (.bool true)], args := [d1, d2, d3] }
  | _ => none }
def nvmStopsRow : OpenClaim := { program := "ytgcjagffoeoldaa", sum := "e11e002334d62f85f86e5581eed0a6636d05c61140351f143e43a8ccf08b32c3", func := "taproot/taprootlaw03.NvmStops", spec := "nvmStops", apart := false }
def NvmStopsSaid : Prop := nvmStopsRow.holds Try.pinned (OpenSpec.ofChange nvmStopsSpec)

/-- ITS FALSE NEIGHBOUR: 'it returns false'. Refute it at one input. -/
def nvmStopsWrong : ChangeSpec := { name := "nvmStops", fn := fun _ => fun
  | [d1, d2, d3] => { results := [.lit (.bool false)], args := [d1, d2, d3] }
  | _ => none }
def NvmStopsWrongFalsely : Prop := nvmStopsRow.holds Try.pinned (OpenSpec.ofChange nvmStopsWrong)

/-- 'taprootlaw03.NvmPlays': WHATEVER THE INPUT: true; the input reads as it did. -/
def nvmPlaysSpec : ChangeSpec := { name := "nvmPlays", fn := fun _ => fun
  | [d1, d2] => { results := [.lit (.bool true)], args := [d1, d2] }
  | _ => none }
def nvmPlaysRow : OpenClaim := { program := "ytgcjagffoeoldaa", sum := "e11e002334d62f85f86e5581eed0a6636d05c61140351f143e43a8ccf08b32c3", func := "taproot/taprootlaw03.NvmPlays", spec := "nvmPlays", apart := false }
def NvmPlaysSaid : Prop := nvmPlaysRow.holds Try.pinned (OpenSpec.ofChange nvmPlaysSpec)

/-- ITS FALSE NEIGHBOUR: 'it returns false'. Refute it at one input. -/
def nvmPlaysWrong : ChangeSpec := { name := "nvmPlays", fn := fun _ => fun
  | [d1, d2] => { results := [.lit (.bool false)], args := [d1, d2] }
  | _ => none }
def NvmPlaysWrongFalsely : Prop := nvmPlaysRow.holds Try.pinned (OpenSpec.ofChange nvmPlaysWrong)

/-- 'taprootlaw03.NvmLasts': WHATEVER THE INPUT: true; the input reads as it did. -/
def nvmLastsSpec : ChangeSpec := { name := "nvmLasts", fn := fun _ => fun
  | [d1, d2, d3] => { results := [.lit (.bool true)], args := [d1, d2, d3] }
  | _ => none }
def nvmLastsRow : OpenClaim := { program := "ytgcjagffoeoldaa", sum := "e11e002334d62f85f86e5581eed0a6636d05c61140351f143e43a8ccf08b32c3", func := "taproot/taprootlaw03.NvmLasts", spec := "nvmLasts", apart := false }
def NvmLastsSaid : Prop := nvmLastsRow.holds Try.pinned (OpenSpec.ofChange nvmLastsSpec)

/-- ITS FALSE NEIGHBOUR: 'it returns false'. Refute it at one input. -/
def nvmLastsWrong : ChangeSpec := { name := "nvmLasts", fn := fun _ => fun
  | [d1, d2, d3] => { results := [.lit (.bool false)], args := [d1, d2, d3] }
  | _ => none }
def NvmLastsWrongFalsely : Prop := nvmLastsRow.holds Try.pinned (OpenSpec.ofChange nvmLastsWrong)

/-- 'taprootlaw05.SuperLasts': WHATEVER THE INPUT: true; the input reads as it did. -/
def superLastsSpec : ChangeSpec := { name := "superLasts", fn := fun _ => fun
  | [d1, d2, d3] => { results := [.lit (.bool true)], args := [d1, d2, d3] }
  | _ => none }
def superLastsRow : OpenClaim := { program := "ytgcjagffoeoldaa", sum := "e11e002334d62f85f86e5581eed0a6636d05c61140351f143e43a8ccf08b32c3", func := "taproot/taprootlaw05.SuperLasts", spec := "superLasts", apart := false }
def SuperLastsSaid : Prop := superLastsRow.holds Try.pinned (OpenSpec.ofChange superLastsSpec)

/-- ITS FALSE NEIGHBOUR: 'it returns false'. Refute it at one input. -/
def superLastsWrong : ChangeSpec := { name := "superLasts", fn := fun _ => fun
  | [d1, d2, d3] => { results := [.lit (.bool false)], args := [d1, d2, d3] }
  | _ => none }
def SuperLastsWrongFalsely : Prop := superLastsRow.holds Try.pinned (OpenSpec.ofChange superLastsWrong)

/- THE SECOND FORM. 'bulk': how many values and letters a reading holds, each counted each time it is reached (what is shared counts as often as it is met; a slice's spare places count too). A statement '..UptoSaid' is the law's where the arguments, and the package variables that the reading takes, are together of bulk at most 1048576: NARROWER than '..Said'. Prove '..Said' where nothing that the law and all that it calls make is longer than what came in: it says more and counts as full. Else prove '..UptoSaid'. A law counts once. -/
mutual
def uptoBulk {H : Type} : DataW H → Nat
  | .lit (.string bytes) => bytes.length + 1
  | .lit _ => 1
  | .nil => 1
  | .ptr d => uptoBulk d + 1
  | .slice elems spare => uptoBulkAll elems + uptoBulkAll spare + 1
  | .agg parts => uptoBulkAll parts + 1
  | .iface _ d => uptoBulk d + 1
  | .map entries => uptoBulkEntries entries + 1
  | .held _ => 1
def uptoBulkAll {H : Type} : List (DataW H) → Nat
  | [] => 0
  | d :: r => uptoBulk d + uptoBulkAll r
def uptoBulkEntries {H : Type} : List (Lit × DataW H) → Nat
  | [] => 0
  | x :: r => uptoBulkEntry x + uptoBulkEntries r
def uptoBulkEntry {H : Type} : Lit × DataW H → Nat
  | (.string bytes, d) => bytes.length + uptoBulk d + 1
  | (_, d) => uptoBulk d + 1
 end
def uptoSmall : (H : Type) → List (DataW H) → Bool := fun _ ds => decide (uptoBulkAll ds ≤ 1048576)
def OpenSpec.upto (s : _root_.Go.ChangeSpec) : _root_.Go.OpenSpec := { _root_.Go.OpenSpec.ofChange s with cond := some uptoSmall }

/-- 'taprootlaw05.SuperCodes', WHERE WHAT IT READS IS OF BULK AT MOST 1048576: true; the input reads as it did. -/
def superCodesUptoRow : OpenClaim := { program := "ytgcjagffoeoldaa", sum := "e11e002334d62f85f86e5581eed0a6636d05c61140351f143e43a8ccf08b32c3", func := "taproot/taprootlaw05.SuperCodes", spec := "superCodes", apart := false, narrowed := true }
def SuperCodesUptoSaid : Prop := superCodesUptoRow.holds Try.pinned (OpenSpec.upto superCodesSpec)

/-- 'taprootlaw17.SlotCodes', WHERE WHAT IT READS IS OF BULK AT MOST 1048576: true; the input reads as it did. -/
def slotCodesUptoRow : OpenClaim := { program := "ytgcjagffoeoldaa", sum := "e11e002334d62f85f86e5581eed0a6636d05c61140351f143e43a8ccf08b32c3", func := "taproot/taprootlaw17.SlotCodes", spec := "slotCodes", apart := false, narrowed := true }
def SlotCodesUptoSaid : Prop := slotCodesUptoRow.holds Try.pinned (OpenSpec.upto slotCodesSpec)

/-- 'taprootlaw17.SlotMixed', WHERE WHAT IT READS IS OF BULK AT MOST 1048576: true; the input reads as it did. -/
def slotMixedUptoRow : OpenClaim := { program := "ytgcjagffoeoldaa", sum := "e11e002334d62f85f86e5581eed0a6636d05c61140351f143e43a8ccf08b32c3", func := "taproot/taprootlaw17.SlotMixed", spec := "slotMixed", apart := false, narrowed := true }
def SlotMixedUptoSaid : Prop := slotMixedUptoRow.holds Try.pinned (OpenSpec.upto slotMixedSpec)

/-- 'taprootlaw17.SlotChooses', WHERE WHAT IT READS IS OF BULK AT MOST 1048576: true; the input reads as it did. -/
def slotChoosesUptoRow : OpenClaim := { program := "ytgcjagffoeoldaa", sum := "e11e002334d62f85f86e5581eed0a6636d05c61140351f143e43a8ccf08b32c3", func := "taproot/taprootlaw17.SlotChooses", spec := "slotChooses", apart := false, narrowed := true }
def SlotChoosesUptoSaid : Prop := slotChoosesUptoRow.holds Try.pinned (OpenSpec.upto slotChoosesSpec)

/-- 'taprootlaw05.SuperReads', WHERE WHAT IT READS IS OF BULK AT MOST 1048576: true; the input reads as it did. -/
def superReadsUptoRow : OpenClaim := { program := "ytgcjagffoeoldaa", sum := "e11e002334d62f85f86e5581eed0a6636d05c61140351f143e43a8ccf08b32c3", func := "taproot/taprootlaw05.SuperReads", spec := "superReads", apart := false, narrowed := true }
def SuperReadsUptoSaid : Prop := superReadsUptoRow.holds Try.pinned (OpenSpec.upto superReadsSpec)

/-- 'taprootlaw03.NvmSizes', WHERE WHAT IT READS IS OF BULK AT MOST 1048576: true; the input reads as it did. -/
def nvmSizesUptoRow : OpenClaim := { program := "ytgcjagffoeoldaa", sum := "e11e002334d62f85f86e5581eed0a6636d05c61140351f143e43a8ccf08b32c3", func := "taproot/taprootlaw03.NvmSizes", spec := "nvmSizes", apart := false, narrowed := true }
def NvmSizesUptoSaid : Prop := nvmSizesUptoRow.holds Try.pinned (OpenSpec.upto nvmSizesSpec)

/-- 'taprootlaw03.NvmStops', WHERE WHAT IT READS IS OF BULK AT MOST 1048576: true; the input reads as it did. -/
def nvmStopsUptoRow : OpenClaim := { program := "ytgcjagffoeoldaa", sum := "e11e002334d62f85f86e5581eed0a6636d05c61140351f143e43a8ccf08b32c3", func := "taproot/taprootlaw03.NvmStops", spec := "nvmStops", apart := false, narrowed := true }
def NvmStopsUptoSaid : Prop := nvmStopsUptoRow.holds Try.pinned (OpenSpec.upto nvmStopsSpec)

/-- 'taprootlaw03.NvmPlays', WHERE WHAT IT READS IS OF BULK AT MOST 1048576: true; the input reads as it did. -/
def nvmPlaysUptoRow : OpenClaim := { program := "ytgcjagffoeoldaa", sum := "e11e002334d62f85f86e5581eed0a6636d05c61140351f143e43a8ccf08b32c3", func := "taproot/taprootlaw03.NvmPlays", spec := "nvmPlays", apart := false, narrowed := true }
def NvmPlaysUptoSaid : Prop := nvmPlaysUptoRow.holds Try.pinned (OpenSpec.upto nvmPlaysSpec)

/-- 'taprootlaw03.NvmLasts', WHERE WHAT IT READS IS OF BULK AT MOST 1048576: true; the input reads as it did. -/
def nvmLastsUptoRow : OpenClaim := { program := "ytgcjagffoeoldaa", sum := "e11e002334d62f85f86e5581eed0a6636d05c61140351f143e43a8ccf08b32c3", func := "taproot/taprootlaw03.NvmLasts", spec := "nvmLasts", apart := false, narrowed := true }
def NvmLastsUptoSaid : Prop := nvmLastsUptoRow.holds Try.pinned (OpenSpec.upto nvmLastsSpec)

/-- 'taprootlaw05.SuperLasts', WHERE WHAT IT READS IS OF BULK AT MOST 1048576: true; the input reads as it did. -/
def superLastsUptoRow : OpenClaim := { program := "ytgcjagffoeoldaa", sum := "e11e002334d62f85f86e5581eed0a6636d05c61140351f143e43a8ccf08b32c3", func := "taproot/taprootlaw05.SuperLasts", spec := "superLasts", apart := false, narrowed := true }
def SuperLastsUptoSaid : Prop := superLastsUptoRow.holds Try.pinned (OpenSpec.upto superLastsSpec)

end Rows
end Go.Proofs.Ytgcjagffoeoldaa
