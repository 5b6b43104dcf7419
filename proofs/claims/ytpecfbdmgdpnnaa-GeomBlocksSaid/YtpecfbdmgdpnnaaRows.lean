/-
  No cell of these rows narrows 'for every input' (looked for: loops, veiled, ifaces, maps, wideKeys, modest, calm, conditions, laid).
  DERIVED. THE GIVEN ROWS OF THIS SEAT. 12 by the template 'for every input the law returns true; each argument reads behind the call as it read before'; 0 by the template 'total and deterministic' (their statements: YtpecfbdmgdpnnaaTotals.lean).
  GIVEN WITH THE SEED: the statements are not yours to turn. If you find one false, say at which input.
  Laid BY PROGRAM, IN A SANDBOX (cutbox-rows.mjs): the forced cells as the released guide's own fill.sh prints them over the translation 1db0c61d344e3b15… (all of the seat's roots in one cut). By AI agents, Wed Nov 11 2026. No macro, syntax, notation, axiom, sorry.
-/
import Derived.Test.YtpecfbdmgdpnnaaChecked
import GoSem.Claim
import GoSem.ClaimJoined
import GoSem.ClaimMapViews
import Derived.JoinedTies
import Derived.KernelRfl
namespace Go.Proofs.Ytpecfbdmgdpnnaa
/- THE CELL 'sum', in the pinned program and in every row, IS THE sha256 OF THE DUMP (.gsa) THAT YtpecfbdmgdpnnaaProg.lean LOADS. Nothing in Lean hashes anything: it is a label: what it is worth is what the hold of that sum in a sandbox is worth. -/
noncomputable def Try.pinned : Pinned := { name := "ytpecfbdmgdpnnaa", sum := "1db0c61d344e3b157392adad161cf93d9a0f7aa9bb00f24cafa8859b11f21e0b", checked := Try.checked }
namespace Rows
def none {H : Type} : Left H := { results := [], args := [] }

/-- 'taprootlaw02.CrcSums': WHATEVER THE INPUT: true; the input reads as it did. -/
def crcSumsSpec : ChangeSpec := { name := "crcSums", fn := fun _ => fun
  | [d1, d2] => { results := [.lit (.bool true)], args := [d1, d2] }
  | _ => none }
def crcSumsRow : OpenClaim := { program := "ytpecfbdmgdpnnaa", sum := "1db0c61d344e3b157392adad161cf93d9a0f7aa9bb00f24cafa8859b11f21e0b", func := "taproot/taprootlaw02.CrcSums", spec := "crcSums", apart := false }
def CrcSumsSaid : Prop := crcSumsRow.holds Try.pinned (OpenSpec.ofChange crcSumsSpec)

/-- ITS FALSE NEIGHBOUR: 'it returns false'. Refute it at one input. -/
def crcSumsWrong : ChangeSpec := { name := "crcSums", fn := fun _ => fun
  | [d1, d2] => { results := [.lit (.bool false)], args := [d1, d2] }
  | _ => none }
def CrcSumsWrongFalsely : Prop := crcSumsRow.holds Try.pinned (OpenSpec.ofChange crcSumsWrong)

/-- 'taprootlaw04.GeomParts': WHATEVER THE INPUT: true; the input reads as it did. -/
def geomPartsSpec : ChangeSpec := { name := "geomParts", fn := fun _ => fun
  | [d1, d2, d3] => { results := [.lit (.bool true)], args := [d1, d2, d3] }
  | _ => none }
def geomPartsRow : OpenClaim := { program := "ytpecfbdmgdpnnaa", sum := "1db0c61d344e3b157392adad161cf93d9a0f7aa9bb00f24cafa8859b11f21e0b", func := "taproot/taprootlaw04.GeomParts", spec := "geomParts", apart := false }
def GeomPartsSaid : Prop := geomPartsRow.holds Try.pinned (OpenSpec.ofChange geomPartsSpec)

/-- ITS FALSE NEIGHBOUR: 'it returns false'. Refute it at one input. -/
def geomPartsWrong : ChangeSpec := { name := "geomParts", fn := fun _ => fun
  | [d1, d2, d3] => { results := [.lit (.bool false)], args := [d1, d2, d3] }
  | _ => none }
def GeomPartsWrongFalsely : Prop := geomPartsRow.holds Try.pinned (OpenSpec.ofChange geomPartsWrong)

/-- 'taprootlaw01.BitsUp': WHATEVER THE INPUT: true; the input reads as it did. -/
def bitsUpSpec : ChangeSpec := { name := "bitsUp", fn := fun _ => fun
  | [d1, d2] => { results := [.lit (.bool true)], args := [d1, d2] }
  | _ => none }
def bitsUpRow : OpenClaim := { program := "ytpecfbdmgdpnnaa", sum := "1db0c61d344e3b157392adad161cf93d9a0f7aa9bb00f24cafa8859b11f21e0b", func := "taproot/taprootlaw01.BitsUp", spec := "bitsUp", apart := false }
def BitsUpSaid : Prop := bitsUpRow.holds Try.pinned (OpenSpec.ofChange bitsUpSpec)

/-- ITS FALSE NEIGHBOUR: 'it returns false'. Refute it at one input. -/
def bitsUpWrong : ChangeSpec := { name := "bitsUp", fn := fun _ => fun
  | [d1, d2] => { results := [.lit (.bool false)], args := [d1, d2] }
  | _ => none }
def BitsUpWrongFalsely : Prop := bitsUpRow.holds Try.pinned (OpenSpec.ofChange bitsUpWrong)

/-- 'taprootlaw04.GeomNeeds': WHATEVER THE INPUT: true; the input reads as it did. -/
def geomNeedsSpec : ChangeSpec := { name := "geomNeeds", fn := fun _ => fun
  | [d1, d2, d3] => { results := [.lit (.bool true)], args := [d1, d2, d3] }
  | _ => none }
def geomNeedsRow : OpenClaim := { program := "ytpecfbdmgdpnnaa", sum := "1db0c61d344e3b157392adad161cf93d9a0f7aa9bb00f24cafa8859b11f21e0b", func := "taproot/taprootlaw04.GeomNeeds", spec := "geomNeeds", apart := false }
def GeomNeedsSaid : Prop := geomNeedsRow.holds Try.pinned (OpenSpec.ofChange geomNeedsSpec)

/-- ITS FALSE NEIGHBOUR: 'it returns false'. Refute it at one input. -/
def geomNeedsWrong : ChangeSpec := { name := "geomNeeds", fn := fun _ => fun
  | [d1, d2, d3] => { results := [.lit (.bool false)], args := [d1, d2, d3] }
  | _ => none }
def GeomNeedsWrongFalsely : Prop := geomNeedsRow.holds Try.pinned (OpenSpec.ofChange geomNeedsWrong)

/-- 'taprootlaw04.GeomBlocks': WHATEVER THE INPUT: true; the input reads as it did. -/
def geomBlocksSpec : ChangeSpec := { name := "geomBlocks", fn := fun _ => fun
  | [d1, d2, d3] => { results := [.lit (.bool true)], args := [d1, d2, d3] }
  | _ => none }
def geomBlocksRow : OpenClaim := { program := "ytpecfbdmgdpnnaa", sum := "1db0c61d344e3b157392adad161cf93d9a0f7aa9bb00f24cafa8859b11f21e0b", func := "taproot/taprootlaw04.GeomBlocks", spec := "geomBlocks", apart := false }
def GeomBlocksSaid : Prop := geomBlocksRow.holds Try.pinned (OpenSpec.ofChange geomBlocksSpec)

/-- ITS FALSE NEIGHBOUR: 'it returns false'. Refute it at one input. -/
def geomBlocksWrong : ChangeSpec := { name := "geomBlocks", fn := fun _ => fun
  | [d1, d2, d3] => { results := [.lit (.bool false)], args := [d1, d2, d3] }
  | _ => none }
def GeomBlocksWrongFalsely : Prop := geomBlocksRow.holds Try.pinned (OpenSpec.ofChange geomBlocksWrong)

/-- 'taprootlaw02.CrcJoins': WHATEVER THE INPUT: true; the input reads as it did. -/
def crcJoinsSpec : ChangeSpec := { name := "crcJoins", fn := fun _ => fun
  | [d1, d2, d3] => { results := [.lit (.bool true)], args := [d1, d2, d3] }
  | _ => none }
def crcJoinsRow : OpenClaim := { program := "ytpecfbdmgdpnnaa", sum := "1db0c61d344e3b157392adad161cf93d9a0f7aa9bb00f24cafa8859b11f21e0b", func := "taproot/taprootlaw02.CrcJoins", spec := "crcJoins", apart := false }
def CrcJoinsSaid : Prop := crcJoinsRow.holds Try.pinned (OpenSpec.ofChange crcJoinsSpec)

/-- ITS FALSE NEIGHBOUR: 'it returns false'. Refute it at one input. -/
def crcJoinsWrong : ChangeSpec := { name := "crcJoins", fn := fun _ => fun
  | [d1, d2, d3] => { results := [.lit (.bool false)], args := [d1, d2, d3] }
  | _ => none }
def CrcJoinsWrongFalsely : Prop := crcJoinsRow.holds Try.pinned (OpenSpec.ofChange crcJoinsWrong)

/-- 'taprootlaw01.BitsBack': WHATEVER THE INPUT: true; the input reads as it did. -/
def bitsBackSpec : ChangeSpec := { name := "bitsBack", fn := fun _ => fun
  | [d1, d2, d3] => { results := [.lit (.bool true)], args := [d1, d2, d3] }
  | _ => none }
def bitsBackRow : OpenClaim := { program := "ytpecfbdmgdpnnaa", sum := "1db0c61d344e3b157392adad161cf93d9a0f7aa9bb00f24cafa8859b11f21e0b", func := "taproot/taprootlaw01.BitsBack", spec := "bitsBack", apart := false }
def BitsBackSaid : Prop := bitsBackRow.holds Try.pinned (OpenSpec.ofChange bitsBackSpec)

/-- ITS FALSE NEIGHBOUR: 'it returns false'. Refute it at one input. -/
def bitsBackWrong : ChangeSpec := { name := "bitsBack", fn := fun _ => fun
  | [d1, d2, d3] => { results := [.lit (.bool false)], args := [d1, d2, d3] }
  | _ => none }
def BitsBackWrongFalsely : Prop := bitsBackRow.holds Try.pinned (OpenSpec.ofChange bitsBackWrong)

/-- 'taprootlaw01.BitsFields': WHATEVER THE INPUT: true; the input reads as it did. -/
def bitsFieldsSpec : ChangeSpec := { name := "bitsFields", fn := fun _ => fun
  | [d1, d2, d3] => { results := [.lit (.bool true)], args := [d1, d2, d3] }
  | _ => none }
def bitsFieldsRow : OpenClaim := { program := "ytpecfbdmgdpnnaa", sum := "1db0c61d344e3b157392adad161cf93d9a0f7aa9bb00f24cafa8859b11f21e0b", func := "taproot/taprootlaw01.BitsFields", spec := "bitsFields", apart := false }
def BitsFieldsSaid : Prop := bitsFieldsRow.holds Try.pinned (OpenSpec.ofChange bitsFieldsSpec)

/-- ITS FALSE NEIGHBOUR: 'it returns false'. Refute it at one input. -/
def bitsFieldsWrong : ChangeSpec := { name := "bitsFields", fn := fun _ => fun
  | [d1, d2, d3] => { results := [.lit (.bool false)], args := [d1, d2, d3] }
  | _ => none }
def BitsFieldsWrongFalsely : Prop := bitsFieldsRow.holds Try.pinned (OpenSpec.ofChange bitsFieldsWrong)

/-- 'taprootlaw01.BitsTurns': WHATEVER THE INPUT: true; the input reads as it did. -/
def bitsTurnsSpec : ChangeSpec := { name := "bitsTurns", fn := fun _ => fun
  | [d1, d2] => { results := [.lit (.bool true)], args := [d1, d2] }
  | _ => none }
def bitsTurnsRow : OpenClaim := { program := "ytpecfbdmgdpnnaa", sum := "1db0c61d344e3b157392adad161cf93d9a0f7aa9bb00f24cafa8859b11f21e0b", func := "taproot/taprootlaw01.BitsTurns", spec := "bitsTurns", apart := false }
def BitsTurnsSaid : Prop := bitsTurnsRow.holds Try.pinned (OpenSpec.ofChange bitsTurnsSpec)

/-- ITS FALSE NEIGHBOUR: 'it returns false'. Refute it at one input. -/
def bitsTurnsWrong : ChangeSpec := { name := "bitsTurns", fn := fun _ => fun
  | [d1, d2] => { results := [.lit (.bool false)], args := [d1, d2] }
  | _ => none }
def BitsTurnsWrongFalsely : Prop := bitsTurnsRow.holds Try.pinned (OpenSpec.ofChange bitsTurnsWrong)

/-- 'taprootlaw02.CrcSeals': WHATEVER THE INPUT: true; the input reads as it did. -/
def crcSealsSpec : ChangeSpec := { name := "crcSeals", fn := fun _ => fun
  | [d1, d2, d3] => { results := [.lit (.bool true)], args := [d1, d2, d3] }
  | _ => none }
def crcSealsRow : OpenClaim := { program := "ytpecfbdmgdpnnaa", sum := "1db0c61d344e3b157392adad161cf93d9a0f7aa9bb00f24cafa8859b11f21e0b", func := "taproot/taprootlaw02.CrcSeals", spec := "crcSeals", apart := false }
def CrcSealsSaid : Prop := crcSealsRow.holds Try.pinned (OpenSpec.ofChange crcSealsSpec)

/-- ITS FALSE NEIGHBOUR: 'it returns false'. Refute it at one input. -/
def crcSealsWrong : ChangeSpec := { name := "crcSeals", fn := fun _ => fun
  | [d1, d2, d3] => { results := [.lit (.bool false)], args := [d1, d2, d3] }
  | _ => none }
def CrcSealsWrongFalsely : Prop := crcSealsRow.holds Try.pinned (OpenSpec.ofChange crcSealsWrong)

/-- 'taprootlaw01.BitsCounts': WHATEVER THE INPUT: true; the input reads as it did. -/
def bitsCountsSpec : ChangeSpec := { name := "bitsCounts", fn := fun _ => fun
  | [d] => { results := [.lit (.bool true)], args := [d] }
  | _ => none }
def bitsCountsRow : OpenClaim := { program := "ytpecfbdmgdpnnaa", sum := "1db0c61d344e3b157392adad161cf93d9a0f7aa9bb00f24cafa8859b11f21e0b", func := "taproot/taprootlaw01.BitsCounts", spec := "bitsCounts", apart := false }
def BitsCountsSaid : Prop := bitsCountsRow.holds Try.pinned (OpenSpec.ofChange bitsCountsSpec)

/-- ITS FALSE NEIGHBOUR: 'it returns false'. Refute it at one input. -/
def bitsCountsWrong : ChangeSpec := { name := "bitsCounts", fn := fun _ => fun
  | [d] => { results := [.lit (.bool false)], args := [d] }
  | _ => none }
def BitsCountsWrongFalsely : Prop := bitsCountsRow.holds Try.pinned (OpenSpec.ofChange bitsCountsWrong)

/-- 'taprootlaw01.BitsBytes': WHATEVER THE INPUT: true; the input reads as it did. -/
def bitsBytesSpec : ChangeSpec := { name := "bitsBytes", fn := fun _ => fun
  | [d1, d2] => { results := [.lit (.bool true)], args := [d1, d2] }
  | _ => none }
def bitsBytesRow : OpenClaim := { program := "ytpecfbdmgdpnnaa", sum := "1db0c61d344e3b157392adad161cf93d9a0f7aa9bb00f24cafa8859b11f21e0b", func := "taproot/taprootlaw01.BitsBytes", spec := "bitsBytes", apart := false }
def BitsBytesSaid : Prop := bitsBytesRow.holds Try.pinned (OpenSpec.ofChange bitsBytesSpec)

/-- ITS FALSE NEIGHBOUR: 'it returns false'. Refute it at one input. -/
def bitsBytesWrong : ChangeSpec := { name := "bitsBytes", fn := fun _ => fun
  | [d1, d2] => { results := [.lit (.bool false)], args := [d1, d2] }
  | _ => none }
def BitsBytesWrongFalsely : Prop := bitsBytesRow.holds Try.pinned (OpenSpec.ofChange bitsBytesWrong)

/- THE SECOND FORM. 'bulk': how many values and letters a reading holds, each counted each time it is reached (what is shared counts as often as it is met; a slice's spare places count too). A statement '..UptoSaid' is the law's where the arguments, and the package variables that the reading takes, are together of bulk at most 1048576: NARROWER than '..Said'. Prove '..Said' where nothing that the law and all that it calls make is longer than what came in: it says more and counts as full. Else prove '..UptoSaid'. A law counts once. -/
mutual
def uptoBulk {H : Type} : DataW H → Nat
  | .lit (.string bytes) => bytes.length + 1
  | .lit _ => 1
  | .nil => 1
  | .ptr d => uptoBulk d + 1
  | .slice elems spare => uptoBulkAll elems + uptoBulkAll spare + 1
  | .agg parts => uptoBulkAll parts + 1
  | .iface _ d => uptoBulk d + 1
  | .map entries => uptoBulkEntries entries + 1
  | .held _ => 1
def uptoBulkAll {H : Type} : List (DataW H) → Nat
  | [] => 0
  | d :: r => uptoBulk d + uptoBulkAll r
def uptoBulkEntries {H : Type} : List (Lit × DataW H) → Nat
  | [] => 0
  | x :: r => uptoBulkEntry x + uptoBulkEntries r
def uptoBulkEntry {H : Type} : Lit × DataW H → Nat
  | (.string bytes, d) => bytes.length + uptoBulk d + 1
  | (_, d) => uptoBulk d + 1
 end
def uptoSmall : (H : Type) → List (DataW H) → Bool := fun _ ds => decide (uptoBulkAll ds ≤ 1048576)
def OpenSpec.upto (s : _root_.Go.ChangeSpec) : _root_.Go.OpenSpec := { _root_.Go.OpenSpec.ofChange s with cond := some uptoSmall }

/-- 'taprootlaw02.CrcSums', WHERE WHAT IT READS IS OF BULK AT MOST 1048576: true; the input reads as it did. -/
def crcSumsUptoRow : OpenClaim := { program := "ytpecfbdmgdpnnaa", sum := "1db0c61d344e3b157392adad161cf93d9a0f7aa9bb00f24cafa8859b11f21e0b", func := "taproot/taprootlaw02.CrcSums", spec := "crcSums", apart := false, narrowed := true }
def CrcSumsUptoSaid : Prop := crcSumsUptoRow.holds Try.pinned (OpenSpec.upto crcSumsSpec)

/-- 'taprootlaw04.GeomParts', WHERE WHAT IT READS IS OF BULK AT MOST 1048576: true; the input reads as it did. -/
def geomPartsUptoRow : OpenClaim := { program := "ytpecfbdmgdpnnaa", sum := "1db0c61d344e3b157392adad161cf93d9a0f7aa9bb00f24cafa8859b11f21e0b", func := "taproot/taprootlaw04.GeomParts", spec := "geomParts", apart := false, narrowed := true }
def GeomPartsUptoSaid : Prop := geomPartsUptoRow.holds Try.pinned (OpenSpec.upto geomPartsSpec)

/-- 'taprootlaw01.BitsUp', WHERE WHAT IT READS IS OF BULK AT MOST 1048576: true; the input reads as it did. -/
def bitsUpUptoRow : OpenClaim := { program := "ytpecfbdmgdpnnaa", sum := "1db0c61d344e3b157392adad161cf93d9a0f7aa9bb00f24cafa8859b11f21e0b", func := "taproot/taprootlaw01.BitsUp", spec := "bitsUp", apart := false, narrowed := true }
def BitsUpUptoSaid : Prop := bitsUpUptoRow.holds Try.pinned (OpenSpec.upto bitsUpSpec)

/-- 'taprootlaw04.GeomNeeds', WHERE WHAT IT READS IS OF BULK AT MOST 1048576: true; the input reads as it did. -/
def geomNeedsUptoRow : OpenClaim := { program := "ytpecfbdmgdpnnaa", sum := "1db0c61d344e3b157392adad161cf93d9a0f7aa9bb00f24cafa8859b11f21e0b", func := "taproot/taprootlaw04.GeomNeeds", spec := "geomNeeds", apart := false, narrowed := true }
def GeomNeedsUptoSaid : Prop := geomNeedsUptoRow.holds Try.pinned (OpenSpec.upto geomNeedsSpec)

/-- 'taprootlaw04.GeomBlocks', WHERE WHAT IT READS IS OF BULK AT MOST 1048576: true; the input reads as it did. -/
def geomBlocksUptoRow : OpenClaim := { program := "ytpecfbdmgdpnnaa", sum := "1db0c61d344e3b157392adad161cf93d9a0f7aa9bb00f24cafa8859b11f21e0b", func := "taproot/taprootlaw04.GeomBlocks", spec := "geomBlocks", apart := false, narrowed := true }
def GeomBlocksUptoSaid : Prop := geomBlocksUptoRow.holds Try.pinned (OpenSpec.upto geomBlocksSpec)

/-- 'taprootlaw02.CrcJoins', WHERE WHAT IT READS IS OF BULK AT MOST 1048576: true; the input reads as it did. -/
def crcJoinsUptoRow : OpenClaim := { program := "ytpecfbdmgdpnnaa", sum := "1db0c61d344e3b157392adad161cf93d9a0f7aa9bb00f24cafa8859b11f21e0b", func := "taproot/taprootlaw02.CrcJoins", spec := "crcJoins", apart := false, narrowed := true }
def CrcJoinsUptoSaid : Prop := crcJoinsUptoRow.holds Try.pinned (OpenSpec.upto crcJoinsSpec)

/-- 'taprootlaw01.BitsBack', WHERE WHAT IT READS IS OF BULK AT MOST 1048576: true; the input reads as it did. -/
def bitsBackUptoRow : OpenClaim := { program := "ytpecfbdmgdpnnaa", sum := "1db0c61d344e3b157392adad161cf93d9a0f7aa9bb00f24cafa8859b11f21e0b", func := "taproot/taprootlaw01.BitsBack", spec := "bitsBack", apart := false, narrowed := true }
def BitsBackUptoSaid : Prop := bitsBackUptoRow.holds Try.pinned (OpenSpec.upto bitsBackSpec)

/-- 'taprootlaw01.BitsFields', WHERE WHAT IT READS IS OF BULK AT MOST 1048576: true; the input reads as it did. -/
def bitsFieldsUptoRow : OpenClaim := { program := "ytpecfbdmgdpnnaa", sum := "1db0c61d344e3b157392adad161cf93d9a0f7aa9bb00f24cafa8859b11f21e0b", func := "taproot/taprootlaw01.BitsFields", spec := "bitsFields", apart := false, narrowed := true }
def BitsFieldsUptoSaid : Prop := bitsFieldsUptoRow.holds Try.pinned (OpenSpec.upto bitsFieldsSpec)

/-- 'taprootlaw01.BitsTurns', WHERE WHAT IT READS IS OF BULK AT MOST 1048576: true; the input reads as it did. -/
def bitsTurnsUptoRow : OpenClaim := { program := "ytpecfbdmgdpnnaa", sum := "1db0c61d344e3b157392adad161cf93d9a0f7aa9bb00f24cafa8859b11f21e0b", func := "taproot/taprootlaw01.BitsTurns", spec := "bitsTurns", apart := false, narrowed := true }
def BitsTurnsUptoSaid : Prop := bitsTurnsUptoRow.holds Try.pinned (OpenSpec.upto bitsTurnsSpec)

/-- 'taprootlaw02.CrcSeals', WHERE WHAT IT READS IS OF BULK AT MOST 1048576: true; the input reads as it did. -/
def crcSealsUptoRow : OpenClaim := { program := "ytpecfbdmgdpnnaa", sum := "1db0c61d344e3b157392adad161cf93d9a0f7aa9bb00f24cafa8859b11f21e0b", func := "taproot/taprootlaw02.CrcSeals", spec := "crcSeals", apart := false, narrowed := true }
def CrcSealsUptoSaid : Prop := crcSealsUptoRow.holds Try.pinned (OpenSpec.upto crcSealsSpec)

/-- 'taprootlaw01.BitsCounts', WHERE WHAT IT READS IS OF BULK AT MOST 1048576: true; the input reads as it did. -/
def bitsCountsUptoRow : OpenClaim := { program := "ytpecfbdmgdpnnaa", sum := "1db0c61d344e3b157392adad161cf93d9a0f7aa9bb00f24cafa8859b11f21e0b", func := "taproot/taprootlaw01.BitsCounts", spec := "bitsCounts", apart := false, narrowed := true }
def BitsCountsUptoSaid : Prop := bitsCountsUptoRow.holds Try.pinned (OpenSpec.upto bitsCountsSpec)

/-- 'taprootlaw01.BitsBytes', WHERE WHAT IT READS IS OF BULK AT MOST 1048576: true; the input reads as it did. -/
def bitsBytesUptoRow : OpenClaim := { program := "ytpecfbdmgdpnnaa", sum := "1db0c61d344e3b157392adad161cf93d9a0f7aa9bb00f24cafa8859b11f21e0b", func := "taproot/taprootlaw01.BitsBytes", spec := "bitsBytes", apart := false, narrowed := true }
def BitsBytesUptoSaid : Prop := bitsBytesUptoRow.holds Try.pinned (OpenSpec.upto bitsBytesSpec)

end Rows
end Go.Proofs.Ytpecfbdmgdpnnaa
