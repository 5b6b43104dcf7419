/-
  No cell of these rows narrows 'for every input' (looked for: loops, veiled, ifaces, maps, wideKeys, modest, calm, conditions, laid).
  DERIVED. THE GIVEN ROWS OF THIS SEAT. 12 by the template 'for every input the law returns true; each argument reads behind the call as it read before'; 0 by the template 'total and deterministic' (their statements: YthbkfgafdjcicaaTotals.lean).
  GIVEN WITH THE SEED: the statements are not yours to turn. If you find one false, say at which input.
  Laid BY PROGRAM, IN A SANDBOX (cutbox-rows.mjs): the forced cells as the released guide's own fill.sh prints them over the translation f52842704f9faaf8… (all of the seat's roots in one cut). By AI agents, Wed Nov 11 2026. No macro, syntax, notation, axiom, sorry.
-/
import Derived.Test.YthbkfgafdjcicaaChecked
import GoSem.Claim
import GoSem.ClaimJoined
import GoSem.ClaimMapViews
import Derived.JoinedTies
import Derived.KernelRfl
namespace Go.Proofs.Ythbkfgafdjcicaa
/- THE CELL 'sum', in the pinned program and in every row, IS THE sha256 OF THE DUMP (.gsa) THAT YthbkfgafdjcicaaProg.lean LOADS. Nothing in Lean hashes anything: it is a label: what it is worth is what the hold of that sum in a sandbox is worth. -/
noncomputable def Try.pinned : Pinned := { name := "ythbkfgafdjcicaa", sum := "f52842704f9faaf8d76e0f2dca2840a5aa34596d42ff4d4b63c5b946a724d279", checked := Try.checked }
namespace Rows
def none {H : Type} : Left H := { results := [], args := [] }

/-- 'taprootlaw09.CellsLines': WHATEVER THE INPUT: true; the input reads as it did. -/
def cellsLinesSpec : ChangeSpec := { name := "cellsLines", fn := fun _ => fun
  | [d1, d2] => { results := [.lit (.bool true)], args := [d1, d2] }
  | _ => none }
def cellsLinesRow : OpenClaim := { program := "ythbkfgafdjcicaa", sum := "f52842704f9faaf8d76e0f2dca2840a5aa34596d42ff4d4b63c5b946a724d279", func := "taproot/taprootlaw09.CellsLines", spec := "cellsLines", apart := false }
def CellsLinesSaid : Prop := cellsLinesRow.holds Try.pinned (OpenSpec.ofChange cellsLinesSpec)

/-- ITS FALSE NEIGHBOUR: 'it returns false'. Refute it at one input. -/
def cellsLinesWrong : ChangeSpec := { name := "cellsLines", fn := fun _ => fun
  | [d1, d2] => { results := [.lit (.bool false)], args := [d1, d2] }
  | _ => none }
def CellsLinesWrongFalsely : Prop := cellsLinesRow.holds Try.pinned (OpenSpec.ofChange cellsLinesWrong)

/-- 'taprootlaw06.ClassTells': WHATEVER THE INPUT: true; the input reads as it did. -/
def classTellsSpec : ChangeSpec := { name := "classTells", fn := fun _ => fun
  | [d] => { results := [.lit (.bool true)], args := [d] }
  | _ => none }
def classTellsRow : OpenClaim := { program := "ythbkfgafdjcicaa", sum := "f52842704f9faaf8d76e0f2dca2840a5aa34596d42ff4d4b63c5b946a724d279", func := "taproot/taprootlaw06.ClassTells", spec := "classTells", apart := false }
def ClassTellsSaid : Prop := classTellsRow.holds Try.pinned (OpenSpec.ofChange classTellsSpec)

/-- ITS FALSE NEIGHBOUR: 'it returns false'. Refute it at one input. -/
def classTellsWrong : ChangeSpec := { name := "classTells", fn := fun _ => fun
  | [d] => { results := [.lit (.bool false)], args := [d] }
  | _ => none }
def ClassTellsWrongFalsely : Prop := classTellsRow.holds Try.pinned (OpenSpec.ofChange classTellsWrong)

/-- 'taprootlaw06.ClassOf': WHATEVER THE INPUT: true; the input reads as it did. -/
def classOfSpec : ChangeSpec := { name := "classOf", fn := fun _ => fun
  | [d1, d2, d3] => { results := [.lit (.bool true)], args := [d1, d2, d3] }
  | _ => none }
def classOfRow : OpenClaim := { program := "ythbkfgafdjcicaa", sum := "f52842704f9faaf8d76e0f2dca2840a5aa34596d42ff4d4b63c5b946a724d279", func := "taproot/taprootlaw06.ClassOf", spec := "classOf", apart := false }
def ClassOfSaid : Prop := classOfRow.holds Try.pinned (OpenSpec.ofChange classOfSpec)

/-- ITS FALSE NEIGHBOUR: 'it returns false'. Refute it at one input. -/
def classOfWrong : ChangeSpec := { name := "classOf", fn := fun _ => fun
  | [d1, d2, d3] => { results := [.lit (.bool false)], args := [d1, d2, d3] }
  | _ => none }
def ClassOfWrongFalsely : Prop := classOfRow.holds Try.pinned (OpenSpec.ofChange classOfWrong)

/-- 'taprootlaw06.ClassFits': WHATEVER THE INPUT: true; the input reads as it did. -/
def classFitsSpec : ChangeSpec := { name := "classFits", fn := fun _ => fun
  | [d] => { results := [.lit (.bool true)], args := [d] }
  | _ => none }
def classFitsRow : OpenClaim := { program := "ythbkfgafdjcicaa", sum := "f52842704f9faaf8d76e0f2dca2840a5aa34596d42ff4d4b63c5b946a724d279", func := "taproot/taprootlaw06.ClassFits", spec := "classFits", apart := false }
def ClassFitsSaid : Prop := classFitsRow.holds Try.pinned (OpenSpec.ofChange classFitsSpec)

/-- ITS FALSE NEIGHBOUR: 'it returns false'. Refute it at one input. -/
def classFitsWrong : ChangeSpec := { name := "classFits", fn := fun _ => fun
  | [d] => { results := [.lit (.bool false)], args := [d] }
  | _ => none }
def ClassFitsWrongFalsely : Prop := classFitsRow.holds Try.pinned (OpenSpec.ofChange classFitsWrong)

/-- 'taprootlaw09.CellsAll': WHATEVER THE INPUT: true; the input reads as it did. -/
def cellsAllSpec : ChangeSpec := { name := "cellsAll", fn := fun _ => fun
  | [d1, d2, d3] => { results := [.lit (.bool true)], args := [d1, d2, d3] }
  | _ => none }
def cellsAllRow : OpenClaim := { program := "ythbkfgafdjcicaa", sum := "f52842704f9faaf8d76e0f2dca2840a5aa34596d42ff4d4b63c5b946a724d279", func := "taproot/taprootlaw09.CellsAll", spec := "cellsAll", unfollowed := true, recurses := true, apart := false }
def CellsAllSaid : Prop := cellsAllRow.holds Try.pinned (OpenSpec.ofChange cellsAllSpec)

/-- ITS FALSE NEIGHBOUR: 'it returns false'. Refute it at one input. -/
def cellsAllWrong : ChangeSpec := { name := "cellsAll", fn := fun _ => fun
  | [d1, d2, d3] => { results := [.lit (.bool false)], args := [d1, d2, d3] }
  | _ => none }
def CellsAllWrongFalsely : Prop := cellsAllRow.holds Try.pinned (OpenSpec.ofChange cellsAllWrong)

/-- 'taprootlaw09.CellsApart': WHATEVER THE INPUT: true; the input reads as it did. -/
def cellsApartSpec : ChangeSpec := { name := "cellsApart", fn := fun _ => fun
  | [d1, d2] => { results := [.lit (.bool true)], args := [d1, d2] }
  | _ => none }
def cellsApartRow : OpenClaim := { program := "ythbkfgafdjcicaa", sum := "f52842704f9faaf8d76e0f2dca2840a5aa34596d42ff4d4b63c5b946a724d279", func := "taproot/taprootlaw09.CellsApart", spec := "cellsApart", unfollowed := true, recurses := true, apart := false }
def CellsApartSaid : Prop := cellsApartRow.holds Try.pinned (OpenSpec.ofChange cellsApartSpec)

/-- ITS FALSE NEIGHBOUR: 'it returns false'. Refute it at one input. -/
def cellsApartWrong : ChangeSpec := { name := "cellsApart", fn := fun _ => fun
  | [d1, d2] => { results := [.lit (.bool false)], args := [d1, d2] }
  | _ => none }
def CellsApartWrongFalsely : Prop := cellsApartRow.holds Try.pinned (OpenSpec.ofChange cellsApartWrong)

/-- 'taprootlaw09.CellsAddresses': WHATEVER THE INPUT: true; the input reads as it did. -/
def cellsAddressesSpec : ChangeSpec := { name := "cellsAddresses", fn := fun _ => fun
  | [d1, d2, d3] => { results := [.lit (.bool true)], args := [d1, d2, d3] }
  | _ => none }
def cellsAddressesRow : OpenClaim := { program := "ythbkfgafdjcicaa", sum := "f52842704f9faaf8d76e0f2dca2840a5aa34596d42ff4d4b63c5b946a724d279", func := "taproot/taprootlaw09.CellsAddresses", spec := "cellsAddresses", apart := false }
def CellsAddressesSaid : Prop := cellsAddressesRow.holds Try.pinned (OpenSpec.ofChange cellsAddressesSpec)

/-- ITS FALSE NEIGHBOUR: 'it returns false'. Refute it at one input. -/
def cellsAddressesWrong : ChangeSpec := { name := "cellsAddresses", fn := fun _ => fun
  | [d1, d2, d3] => { results := [.lit (.bool false)], args := [d1, d2, d3] }
  | _ => none }
def CellsAddressesWrongFalsely : Prop := cellsAddressesRow.holds Try.pinned (OpenSpec.ofChange cellsAddressesWrong)

/-- 'taprootlaw08.OheadTells': WHATEVER THE INPUT: true; the input reads as it did. -/
def oheadTellsSpec : ChangeSpec := { name := "oheadTells", fn := fun _ => fun
  | [d1, d2] => { results := [.lit (.bool true)], args := [d1, d2] }
  | _ => none }
def oheadTellsRow : OpenClaim := { program := "ythbkfgafdjcicaa", sum := "f52842704f9faaf8d76e0f2dca2840a5aa34596d42ff4d4b63c5b946a724d279", func := "taproot/taprootlaw08.OheadTells", spec := "oheadTells", apart := false }
def OheadTellsSaid : Prop := oheadTellsRow.holds Try.pinned (OpenSpec.ofChange oheadTellsSpec)

/-- ITS FALSE NEIGHBOUR: 'it returns false'. Refute it at one input. -/
def oheadTellsWrong : ChangeSpec := { name := "oheadTells", fn := fun _ => fun
  | [d1, d2] => { results := [.lit (.bool false)], args := [d1, d2] }
  | _ => none }
def OheadTellsWrongFalsely : Prop := oheadTellsRow.holds Try.pinned (OpenSpec.ofChange oheadTellsWrong)

/-- 'taprootlaw08.OheadCodes': WHATEVER THE INPUT: true; the input reads as it did. -/
def oheadCodesSpec : ChangeSpec := { name := "oheadCodes", fn := fun _ => fun
  | [d1, d2, d3] => { results := [.lit (.bool true)], args := [d1, d2, d3] }
  | _ => none }
def oheadCodesRow : OpenClaim := { program := "ythbkfgafdjcicaa", sum := "f52842704f9faaf8d76e0f2dca2840a5aa34596d42ff4d4b63c5b946a724d279", func := "taproot/taprootlaw08.OheadCodes", spec := "oheadCodes", apart := false }
def OheadCodesSaid : Prop := oheadCodesRow.holds Try.pinned (OpenSpec.ofChange oheadCodesSpec)

/-- ITS FALSE NEIGHBOUR: 'it returns false'. Refute it at one input. -/
def oheadCodesWrong : ChangeSpec := { name := "oheadCodes", fn := fun _ => fun
  | [d1, d2, d3] => { results := [.lit (.bool false)], args := [d1, d2, d3] }
  | _ => none }
def OheadCodesWrongFalsely : Prop := oheadCodesRow.holds Try.pinned (OpenSpec.ofChange oheadCodesWrong)

/-- 'taprootlaw08.OheadBack': WHATEVER THE INPUT: true; the input reads as it did. -/
def oheadBackSpec : ChangeSpec := { name := "oheadBack", fn := fun _ => fun
  | [d1, d2] => { results := [.lit (.bool true)], args := [d1, d2] }
  | _ => none }
def oheadBackRow : OpenClaim := { program := "ythbkfgafdjcicaa", sum := "f52842704f9faaf8d76e0f2dca2840a5aa34596d42ff4d4b63c5b946a724d279", func := "taproot/taprootlaw08.OheadBack", spec := "oheadBack", apart := false }
def OheadBackSaid : Prop := oheadBackRow.holds Try.pinned (OpenSpec.ofChange oheadBackSpec)

/-- ITS FALSE NEIGHBOUR: 'it returns false'. Refute it at one input. -/
def oheadBackWrong : ChangeSpec := { name := "oheadBack", fn := fun _ => fun
  | [d1, d2] => { results := [.lit (.bool false)], args := [d1, d2] }
  | _ => none }
def OheadBackWrongFalsely : Prop := oheadBackRow.holds Try.pinned (OpenSpec.ofChange oheadBackWrong)

/-- 'taprootlaw07.BheadCodes': WHATEVER THE INPUT: true; the input reads as it did. -/
def bheadCodesSpec : ChangeSpec := { name := "bheadCodes", fn := fun _ => fun
  | [d1, d2, d3] => { results := [.lit (.bool true)], args := [d1, d2, d3] }
  | _ => none }
def bheadCodesRow : OpenClaim := { program := "ythbkfgafdjcicaa", sum := "f52842704f9faaf8d76e0f2dca2840a5aa34596d42ff4d4b63c5b946a724d279", func := "taproot/taprootlaw07.BheadCodes", spec := "bheadCodes", apart := false }
def BheadCodesSaid : Prop := bheadCodesRow.holds Try.pinned (OpenSpec.ofChange bheadCodesSpec)

/-- ITS FALSE NEIGHBOUR: 'it returns false'. Refute it at one input. -/
def bheadCodesWrong : ChangeSpec := { name := "bheadCodes", fn := fun _ => fun
  | [d1, d2, d3] => { results := [.lit (.bool false)], args := [d1, d2, d3] }
  | _ => none }
def BheadCodesWrongFalsely : Prop := bheadCodesRow.holds Try.pinned (OpenSpec.ofChange bheadCodesWrong)

/-- 'taprootlaw07.BheadBack': WHATEVER THE INPUT: true; the input reads as it did. -/
def bheadBackSpec : ChangeSpec := { name := "bheadBack", fn := fun _ => fun
  | [d1, d2] => { results := [.lit (.bool true)], args := [d1, d2] }
  | _ => none }
def bheadBackRow : OpenClaim := { program := "ythbkfgafdjcicaa", sum := "f52842704f9faaf8d76e0f2dca2840a5aa34596d42ff4d4b63c5b946a724d279", func := "taproot/taprootlaw07.BheadBack", spec := "bheadBack", apart := false }
def BheadBackSaid : Prop := bheadBackRow.holds Try.pinned (OpenSpec.ofChange bheadBackSpec)

/-- ITS FALSE NEIGHBOUR: 'it returns false'. Refute it at one input. -/
def bheadBackWrong : ChangeSpec := { name := "bheadBack", fn := fun _ => fun
  | [d1, d2] => { results := [.lit (.bool false)], args := [d1, d2] }
  | _ => none }
def BheadBackWrongFalsely : Prop := bheadBackRow.holds Try.pinned (OpenSpec.ofChange bheadBackWrong)

/- THE SECOND FORM. 'bulk': how many values and letters a reading holds, each counted each time it is reached (what is shared counts as often as it is met; a slice's spare places count too). A statement '..UptoSaid' is the law's where the arguments, and the package variables that the reading takes, are together of bulk at most 1048576: NARROWER than '..Said'. Prove '..Said' where nothing that the law and all that it calls make is longer than what came in: it says more and counts as full. Else prove '..UptoSaid'. A law counts once. -/
mutual
def uptoBulk {H : Type} : DataW H → Nat
  | .lit (.string bytes) => bytes.length + 1
  | .lit _ => 1
  | .nil => 1
  | .ptr d => uptoBulk d + 1
  | .slice elems spare => uptoBulkAll elems + uptoBulkAll spare + 1
  | .agg parts => uptoBulkAll parts + 1
  | .iface _ d => uptoBulk d + 1
  | .map entries => uptoBulkEntries entries + 1
  | .held _ => 1
def uptoBulkAll {H : Type} : List (DataW H) → Nat
  | [] => 0
  | d :: r => uptoBulk d + uptoBulkAll r
def uptoBulkEntries {H : Type} : List (Lit × DataW H) → Nat
  | [] => 0
  | x :: r => uptoBulkEntry x + uptoBulkEntries r
def uptoBulkEntry {H : Type} : Lit × DataW H → Nat
  | (.string bytes, d) => bytes.length + uptoBulk d + 1
  | (_, d) => uptoBulk d + 1
 end
def uptoSmall : (H : Type) → List (DataW H) → Bool := fun _ ds => decide (uptoBulkAll ds ≤ 1048576)
def OpenSpec.upto (s : _root_.Go.ChangeSpec) : _root_.Go.OpenSpec := { _root_.Go.OpenSpec.ofChange s with cond := some uptoSmall }

/-- 'taprootlaw09.CellsLines', WHERE WHAT IT READS IS OF BULK AT MOST 1048576: true; the input reads as it did. -/
def cellsLinesUptoRow : OpenClaim := { program := "ythbkfgafdjcicaa", sum := "f52842704f9faaf8d76e0f2dca2840a5aa34596d42ff4d4b63c5b946a724d279", func := "taproot/taprootlaw09.CellsLines", spec := "cellsLines", apart := false, narrowed := true }
def CellsLinesUptoSaid : Prop := cellsLinesUptoRow.holds Try.pinned (OpenSpec.upto cellsLinesSpec)

/-- 'taprootlaw06.ClassTells', WHERE WHAT IT READS IS OF BULK AT MOST 1048576: true; the input reads as it did. -/
def classTellsUptoRow : OpenClaim := { program := "ythbkfgafdjcicaa", sum := "f52842704f9faaf8d76e0f2dca2840a5aa34596d42ff4d4b63c5b946a724d279", func := "taproot/taprootlaw06.ClassTells", spec := "classTells", apart := false, narrowed := true }
def ClassTellsUptoSaid : Prop := classTellsUptoRow.holds Try.pinned (OpenSpec.upto classTellsSpec)

/-- 'taprootlaw06.ClassOf', WHERE WHAT IT READS IS OF BULK AT MOST 1048576: true; the input reads as it did. -/
def classOfUptoRow : OpenClaim := { program := "ythbkfgafdjcicaa", sum := "f52842704f9faaf8d76e0f2dca2840a5aa34596d42ff4d4b63c5b946a724d279", func := "taproot/taprootlaw06.ClassOf", spec := "classOf", apart := false, narrowed := true }
def ClassOfUptoSaid : Prop := classOfUptoRow.holds Try.pinned (OpenSpec.upto classOfSpec)

/-- 'taprootlaw06.ClassFits', WHERE WHAT IT READS IS OF BULK AT MOST 1048576: true; the input reads as it did. -/
def classFitsUptoRow : OpenClaim := { program := "ythbkfgafdjcicaa", sum := "f52842704f9faaf8d76e0f2dca2840a5aa34596d42ff4d4b63c5b946a724d279", func := "taproot/taprootlaw06.ClassFits", spec := "classFits", apart := false, narrowed := true }
def ClassFitsUptoSaid : Prop := classFitsUptoRow.holds Try.pinned (OpenSpec.upto classFitsSpec)

/-- 'taprootlaw09.CellsAll', WHERE WHAT IT READS IS OF BULK AT MOST 1048576: true; the input reads as it did. -/
def cellsAllUptoRow : OpenClaim := { program := "ythbkfgafdjcicaa", sum := "f52842704f9faaf8d76e0f2dca2840a5aa34596d42ff4d4b63c5b946a724d279", func := "taproot/taprootlaw09.CellsAll", spec := "cellsAll", unfollowed := true, recurses := true, apart := false, narrowed := true }
def CellsAllUptoSaid : Prop := cellsAllUptoRow.holds Try.pinned (OpenSpec.upto cellsAllSpec)

/-- 'taprootlaw09.CellsApart', WHERE WHAT IT READS IS OF BULK AT MOST 1048576: true; the input reads as it did. -/
def cellsApartUptoRow : OpenClaim := { program := "ythbkfgafdjcicaa", sum := "f52842704f9faaf8d76e0f2dca2840a5aa34596d42ff4d4b63c5b946a724d279", func := "taproot/taprootlaw09.CellsApart", spec := "cellsApart", unfollowed := true, recurses := true, apart := false, narrowed := true }
def CellsApartUptoSaid : Prop := cellsApartUptoRow.holds Try.pinned (OpenSpec.upto cellsApartSpec)

/-- 'taprootlaw09.CellsAddresses', WHERE WHAT IT READS IS OF BULK AT MOST 1048576: true; the input reads as it did. -/
def cellsAddressesUptoRow : OpenClaim := { program := "ythbkfgafdjcicaa", sum := "f52842704f9faaf8d76e0f2dca2840a5aa34596d42ff4d4b63c5b946a724d279", func := "taproot/taprootlaw09.CellsAddresses", spec := "cellsAddresses", apart := false, narrowed := true }
def CellsAddressesUptoSaid : Prop := cellsAddressesUptoRow.holds Try.pinned (OpenSpec.upto cellsAddressesSpec)

/-- 'taprootlaw08.OheadTells', WHERE WHAT IT READS IS OF BULK AT MOST 1048576: true; the input reads as it did. -/
def oheadTellsUptoRow : OpenClaim := { program := "ythbkfgafdjcicaa", sum := "f52842704f9faaf8d76e0f2dca2840a5aa34596d42ff4d4b63c5b946a724d279", func := "taproot/taprootlaw08.OheadTells", spec := "oheadTells", apart := false, narrowed := true }
def OheadTellsUptoSaid : Prop := oheadTellsUptoRow.holds Try.pinned (OpenSpec.upto oheadTellsSpec)

/-- 'taprootlaw08.OheadCodes', WHERE WHAT IT READS IS OF BULK AT MOST 1048576: true; the input reads as it did. -/
def oheadCodesUptoRow : OpenClaim := { program := "ythbkfgafdjcicaa", sum := "f52842704f9faaf8d76e0f2dca2840a5aa34596d42ff4d4b63c5b946a724d279", func := "taproot/taprootlaw08.OheadCodes", spec := "oheadCodes", apart := false, narrowed := true }
def OheadCodesUptoSaid : Prop := oheadCodesUptoRow.holds Try.pinned (OpenSpec.upto oheadCodesSpec)

/-- 'taprootlaw08.OheadBack', WHERE WHAT IT READS IS OF BULK AT MOST 1048576: true; the input reads as it did. -/
def oheadBackUptoRow : OpenClaim := { program := "ythbkfgafdjcicaa", sum := "f52842704f9faaf8d76e0f2dca2840a5aa34596d42ff4d4b63c5b946a724d279", func := "taproot/taprootlaw08.OheadBack", spec := "oheadBack", apart := false, narrowed := true }
def OheadBackUptoSaid : Prop := oheadBackUptoRow.holds Try.pinned (OpenSpec.upto oheadBackSpec)

/-- 'taprootlaw07.BheadCodes', WHERE WHAT IT READS IS OF BULK AT MOST 1048576: true; the input reads as it did. -/
def bheadCodesUptoRow : OpenClaim := { program := "ythbkfgafdjcicaa", sum := "f52842704f9faaf8d76e0f2dca2840a5aa34596d42ff4d4b63c5b946a724d279", func := "taproot/taprootlaw07.BheadCodes", spec := "bheadCodes", apart := false, narrowed := true }
def BheadCodesUptoSaid : Prop := bheadCodesUptoRow.holds Try.pinned (OpenSpec.upto bheadCodesSpec)

/-- 'taprootlaw07.BheadBack', WHERE WHAT IT READS IS OF BULK AT MOST 1048576: true; the input reads as it did. -/
def bheadBackUptoRow : OpenClaim := { program := "ythbkfgafdjcicaa", sum := "f52842704f9faaf8d76e0f2dca2840a5aa34596d42ff4d4b63c5b946a724d279", func := "taproot/taprootlaw07.BheadBack", spec := "bheadBack", apart := false, narrowed := true }
def BheadBackUptoSaid : Prop := bheadBackUptoRow.holds Try.pinned (OpenSpec.upto bheadBackSpec)

end Rows
end Go.Proofs.Ythbkfgafdjcicaa
