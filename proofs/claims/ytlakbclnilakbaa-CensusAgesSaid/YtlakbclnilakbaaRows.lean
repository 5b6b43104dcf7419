/-
  No cell of these rows narrows 'for every input' (looked for: loops, veiled, ifaces, maps, wideKeys, modest, calm, conditions, laid).
  DERIVED. THE GIVEN ROWS OF THIS SEAT. 5 by the template 'for every input the law returns true; each argument reads behind the call as it read before'; 0 by the template 'total and deterministic' (their statements: YtlakbclnilakbaaTotals.lean).
  GIVEN WITH THE SEED: the statements are not yours to turn. If you find one false, say at which input.
  Laid BY PROGRAM, IN A SANDBOX (cutbox-rows.mjs): the forced cells as the released guide's own fill.sh prints them over the translation f78b02f4c2702d32… (all of the seat's roots in one cut). By AI agents, Wed Nov 11 2026. No macro, syntax, notation, axiom, sorry.
-/
import Derived.Test.YtlakbclnilakbaaChecked
import GoSem.Claim
import GoSem.ClaimJoined
import GoSem.ClaimMapViews
import Derived.JoinedTies
import Derived.KernelRfl
namespace Go.Proofs.Ytlakbclnilakbaa
/- THE CELL 'sum', in the pinned program and in every row, IS THE sha256 OF THE DUMP (.gsa) THAT YtlakbclnilakbaaProg.lean LOADS. Nothing in Lean hashes anything: it is a label: what it is worth is what the hold of that sum in a sandbox is worth. -/
noncomputable def Try.pinned : Pinned := { name := "ytlakbclnilakbaa", sum := "f78b02f4c2702d32ed31590170a1bb70ca273f2b7959c425459b687b8db4c407", checked := Try.checked }
namespace Rows
def none {H : Type} : Left H := { results := [], args := [] }

/-- 'taprootlaw14.FreePlays': WHATEVER THE INPUT: true; the input reads as it did. -/
def freePlaysSpec : ChangeSpec := { name := "freePlays", fn := fun _ => fun
  | [d1, d2, d3] => { results := [.lit (.bool true)], args := [d1, d2, d3] }
  | _ => none }
def freePlaysRow : OpenClaim := { program := "ytlakbclnilakbaa", sum := "f78b02f4c2702d32ed31590170a1bb70ca273f2b7959c425459b687b8db4c407", func := "taproot/taprootlaw14.FreePlays", spec := "freePlays", unfollowed := true, recurses := true, plainKeys := false, apart := false }
def FreePlaysSaid : Prop := freePlaysRow.holds Try.pinned (OpenSpec.ofChange freePlaysSpec)

/-- ITS FALSE NEIGHBOUR: 'it returns false'. Refute it at one input. -/
def freePlaysWrong : ChangeSpec := { name := "freePlays", fn := fun _ => fun
  | [d1, d2, d3] => { results := [.lit (.bool false)], args := [d1, d2, d3] }
  | _ => none }
def FreePlaysWrongFalsely : Prop := freePlaysRow.holds Try.pinned (OpenSpec.ofChange freePlaysWrong)

/-- 'taprootlaw14.FreeOnce': WHATEVER THE INPUT: true; the input reads as it did. -/
def freeOnceSpec : ChangeSpec := { name := "freeOnce", fn := fun _ => fun
  | [d1, d2, d3] => { results := [.lit (.bool true)], args := [d1, d2, d3] }
  | _ => none }
def freeOnceRow : OpenClaim := { program := "ytlakbclnilakbaa", sum := "f78b02f4c2702d32ed31590170a1bb70ca273f2b7959c425459b687b8db4c407", func := "taproot/taprootlaw14.FreeOnce", spec := "freeOnce", unfollowed := true, recurses := true, plainKeys := false, apart := false }
def FreeOnceSaid : Prop := freeOnceRow.holds Try.pinned (OpenSpec.ofChange freeOnceSpec)

/-- ITS FALSE NEIGHBOUR: 'it returns false'. Refute it at one input. -/
def freeOnceWrong : ChangeSpec := { name := "freeOnce", fn := fun _ => fun
  | [d1, d2, d3] => { results := [.lit (.bool false)], args := [d1, d2, d3] }
  | _ => none }
def FreeOnceWrongFalsely : Prop := freeOnceRow.holds Try.pinned (OpenSpec.ofChange freeOnceWrong)

/-- 'taprootlaw19.TraceSteps': WHATEVER THE INPUT: true; the input reads as it did. -/
def traceStepsSpec : ChangeSpec := { name := "traceSteps", fn := fun _ => fun
  | [d1, d2, d3] => { results := [.lit (.bool true)], args := [d1, d2, d3] }
  | _ => none }
def traceStepsRow : OpenClaim := { program := "ytlakbclnilakbaa", sum := "f78b02f4c2702d32ed31590170a1bb70ca273f2b7959c425459b687b8db4c407", func := "taproot/taprootlaw19.TraceSteps", spec := "traceSteps", recurses := true, plainKeys := false, apart := false }
def TraceStepsSaid : Prop := traceStepsRow.holds Try.pinned (OpenSpec.ofChange traceStepsSpec)

/-- ITS FALSE NEIGHBOUR: 'it returns false'. Refute it at one input. -/
def traceStepsWrong : ChangeSpec := { name := "traceSteps", fn := fun _ => fun
  | [d1, d2, d3] => { results := [.lit (.bool false)], args := [d1, d2, d3] }
  | _ => none }
def TraceStepsWrongFalsely : Prop := traceStepsRow.holds Try.pinned (OpenSpec.ofChange traceStepsWrong)

/-- 'taprootlaw19.TraceClosed': WHATEVER THE INPUT: true; the input reads as it did. -/
def traceClosedSpec : ChangeSpec := { name := "traceClosed", fn := fun _ => fun
  | [d1, d2, d3] => { results := [.lit (.bool true)], args := [d1, d2, d3] }
  | _ => none }
def traceClosedRow : OpenClaim := { program := "ytlakbclnilakbaa", sum := "f78b02f4c2702d32ed31590170a1bb70ca273f2b7959c425459b687b8db4c407", func := "taproot/taprootlaw19.TraceClosed", spec := "traceClosed", recurses := true, plainKeys := false, apart := false }
def TraceClosedSaid : Prop := traceClosedRow.holds Try.pinned (OpenSpec.ofChange traceClosedSpec)

/-- ITS FALSE NEIGHBOUR: 'it returns false'. Refute it at one input. -/
def traceClosedWrong : ChangeSpec := { name := "traceClosed", fn := fun _ => fun
  | [d1, d2, d3] => { results := [.lit (.bool false)], args := [d1, d2, d3] }
  | _ => none }
def TraceClosedWrongFalsely : Prop := traceClosedRow.holds Try.pinned (OpenSpec.ofChange traceClosedWrong)

/-- 'taprootlaw48.CensusAges': WHATEVER THE INPUT: true; the input reads as it did. -/
def censusAgesSpec : ChangeSpec := { name := "censusAges", fn := fun _ => fun
  | [d1, d2, d3] => { results := [.lit (.bool true)], args := [d1, d2, d3] }
  | _ => none }
def censusAgesRow : OpenClaim := { program := "ytlakbclnilakbaa", sum := "f78b02f4c2702d32ed31590170a1bb70ca273f2b7959c425459b687b8db4c407", func := "taproot/taprootlaw48.CensusAges", spec := "censusAges", unfollowed := true, recurses := true, plainKeys := false, apart := false }
def CensusAgesSaid : Prop := censusAgesRow.holds Try.pinned (OpenSpec.ofChange censusAgesSpec)

/-- ITS FALSE NEIGHBOUR: 'it returns false'. Refute it at one input. -/
def censusAgesWrong : ChangeSpec := { name := "censusAges", fn := fun _ => fun
  | [d1, d2, d3] => { results := [.lit (.bool false)], args := [d1, d2, d3] }
  | _ => none }
def CensusAgesWrongFalsely : Prop := censusAgesRow.holds Try.pinned (OpenSpec.ofChange censusAgesWrong)

/- THE SECOND FORM. 'bulk': how many values and letters a reading holds, each counted each time it is reached (what is shared counts as often as it is met; a slice's spare places count too). A statement '..UptoSaid' is the law's where the arguments, and the package variables that the reading takes, are together of bulk at most 1048576: NARROWER than '..Said'. Prove '..Said' where nothing that the law and all that it calls make is longer than what came in: it says more and counts as full. Else prove '..UptoSaid'. A law counts once. -/
mutual
def uptoBulk {H : Type} : DataW H → Nat
  | .lit (.string bytes) => bytes.length + 1
  | .lit _ => 1
  | .nil => 1
  | .ptr d => uptoBulk d + 1
  | .slice elems spare => uptoBulkAll elems + uptoBulkAll spare + 1
  | .agg parts => uptoBulkAll parts + 1
  | .iface _ d => uptoBulk d + 1
  | .map entries => uptoBulkEntries entries + 1
  | .held _ => 1
def uptoBulkAll {H : Type} : List (DataW H) → Nat
  | [] => 0
  | d :: r => uptoBulk d + uptoBulkAll r
def uptoBulkEntries {H : Type} : List (Lit × DataW H) → Nat
  | [] => 0
  | x :: r => uptoBulkEntry x + uptoBulkEntries r
def uptoBulkEntry {H : Type} : Lit × DataW H → Nat
  | (.string bytes, d) => bytes.length + uptoBulk d + 1
  | (_, d) => uptoBulk d + 1
 end
def uptoSmall : (H : Type) → List (DataW H) → Bool := fun _ ds => decide (uptoBulkAll ds ≤ 1048576)
def OpenSpec.upto (s : _root_.Go.ChangeSpec) : _root_.Go.OpenSpec := { _root_.Go.OpenSpec.ofChange s with cond := some uptoSmall }

/-- 'taprootlaw14.FreePlays', WHERE WHAT IT READS IS OF BULK AT MOST 1048576: true; the input reads as it did. -/
def freePlaysUptoRow : OpenClaim := { program := "ytlakbclnilakbaa", sum := "f78b02f4c2702d32ed31590170a1bb70ca273f2b7959c425459b687b8db4c407", func := "taproot/taprootlaw14.FreePlays", spec := "freePlays", unfollowed := true, recurses := true, plainKeys := false, apart := false, narrowed := true }
def FreePlaysUptoSaid : Prop := freePlaysUptoRow.holds Try.pinned (OpenSpec.upto freePlaysSpec)

/-- 'taprootlaw14.FreeOnce', WHERE WHAT IT READS IS OF BULK AT MOST 1048576: true; the input reads as it did. -/
def freeOnceUptoRow : OpenClaim := { program := "ytlakbclnilakbaa", sum := "f78b02f4c2702d32ed31590170a1bb70ca273f2b7959c425459b687b8db4c407", func := "taproot/taprootlaw14.FreeOnce", spec := "freeOnce", unfollowed := true, recurses := true, plainKeys := false, apart := false, narrowed := true }
def FreeOnceUptoSaid : Prop := freeOnceUptoRow.holds Try.pinned (OpenSpec.upto freeOnceSpec)

/-- 'taprootlaw19.TraceSteps', WHERE WHAT IT READS IS OF BULK AT MOST 1048576: true; the input reads as it did. -/
def traceStepsUptoRow : OpenClaim := { program := "ytlakbclnilakbaa", sum := "f78b02f4c2702d32ed31590170a1bb70ca273f2b7959c425459b687b8db4c407", func := "taproot/taprootlaw19.TraceSteps", spec := "traceSteps", recurses := true, plainKeys := false, apart := false, narrowed := true }
def TraceStepsUptoSaid : Prop := traceStepsUptoRow.holds Try.pinned (OpenSpec.upto traceStepsSpec)

/-- 'taprootlaw19.TraceClosed', WHERE WHAT IT READS IS OF BULK AT MOST 1048576: true; the input reads as it did. -/
def traceClosedUptoRow : OpenClaim := { program := "ytlakbclnilakbaa", sum := "f78b02f4c2702d32ed31590170a1bb70ca273f2b7959c425459b687b8db4c407", func := "taproot/taprootlaw19.TraceClosed", spec := "traceClosed", recurses := true, plainKeys := false, apart := false, narrowed := true }
def TraceClosedUptoSaid : Prop := traceClosedUptoRow.holds Try.pinned (OpenSpec.upto traceClosedSpec)

/-- 'taprootlaw48.CensusAges', WHERE WHAT IT READS IS OF BULK AT MOST 1048576: true; the input reads as it did. -/
def censusAgesUptoRow : OpenClaim := { program := "ytlakbclnilakbaa", sum := "f78b02f4c2702d32ed31590170a1bb70ca273f2b7959c425459b687b8db4c407", func := "taproot/taprootlaw48.CensusAges", spec := "censusAges", unfollowed := true, recurses := true, plainKeys := false, apart := false, narrowed := true }
def CensusAgesUptoSaid : Prop := censusAgesUptoRow.holds Try.pinned (OpenSpec.upto censusAgesSpec)

end Rows
end Go.Proofs.Ytlakbclnilakbaa
