/-
  No cell of these rows narrows 'for every input' (looked for: loops, veiled, ifaces, maps, wideKeys, modest, calm, conditions, laid).
  DERIVED. THE GIVEN ROWS OF THIS SEAT. 6 by the template 'for every input the law returns true; each argument reads behind the call as it read before'; 0 by the template 'total and deterministic' (their statements: YtpdnjncfblclfaaTotals.lean).
  GIVEN WITH THE SEED: the statements are not yours to turn. If you find one false, say at which input.
  Laid BY PROGRAM, IN A SANDBOX (cutbox-rows.mjs): the forced cells as the released guide's own fill.sh prints them over the translation 1f99c6aaa7b217d1… (all of the seat's roots in one cut). By AI agents, Wed Nov 11 2026. No macro, syntax, notation, axiom, sorry.
-/
import Derived.Test.YtpdnjncfblclfaaChecked
import GoSem.Claim
import GoSem.ClaimJoined
import GoSem.ClaimMapViews
import Derived.JoinedTies
import Derived.KernelRfl
namespace Go.Proofs.Ytpdnjncfblclfaa
/- THE CELL 'sum', in the pinned program and in every row, IS THE sha256 OF THE DUMP (.gsa) THAT YtpdnjncfblclfaaProg.lean LOADS. Nothing in Lean hashes anything: it is a label: what it is worth is what the hold of that sum in a sandbox is worth. -/
noncomputable def Try.pinned : Pinned := { name := "ytpdnjncfblclfaa", sum := "1f99c6aaa7b217d11b873d50094c84705109e309293598fe12133dcf7398c322", checked := Try.checked }
namespace Rows
def none {H : Type} : Left H := { results := [], args := [] }

/-- 'gridwrightlaw17.TypesRulesSpec': WHATEVER THE INPUT: true; the input reads as it did. -/
def typesRulesSpecSpec : ChangeSpec := { name := "typesRulesSpec", fn := fun _ => fun
  | [d1, d2, d3, d4] => { results := [.lit (.bool true)], args := [d1, d2, d3, d4] }
  | _ => none }
def typesRulesSpecRow : OpenClaim := { program := "ytpdnjncfblclfaa", sum := "1f99c6aaa7b217d11b873d50094c84705109e309293598fe12133dcf7398c322", func := "gridwright/gridwrightlaw17.TypesRulesSpec", spec := "typesRulesSpec", unfollowed := true, recurses := true, apart := false }
def TypesRulesSpecSaid : Prop := typesRulesSpecRow.holds Try.pinned (OpenSpec.ofChange typesRulesSpecSpec)

/-- ITS FALSE NEIGHBOUR: 'it returns false'. Refute it at one input. -/
def typesRulesSpecWrong : ChangeSpec := { name := "typesRulesSpec", fn := fun _ => fun
  | [d1, d2, d3, d4] => { results := [.lit (.bool false)], args := [d1, d2, d3, d4] }
  | _ => none }
def TypesRulesSpecWrongFalsely : Prop := typesRulesSpecRow.holds Try.pinned (OpenSpec.ofChange typesRulesSpecWrong)

/-- 'gridwrightlaw17.TypesReadable': WHATEVER THE INPUT: true; the input reads as it did. -/
def typesReadableSpec : ChangeSpec := { name := "typesReadable", fn := fun _ => fun
  | [d1, d2, d3, d4] => { results := [.lit (.bool true)], args := [d1, d2, d3, d4] }
  | _ => none }
def typesReadableRow : OpenClaim := { program := "ytpdnjncfblclfaa", sum := "1f99c6aaa7b217d11b873d50094c84705109e309293598fe12133dcf7398c322", func := "gridwright/gridwrightlaw17.TypesReadable", spec := "typesReadable", unfollowed := true, recurses := true, apart := false }
def TypesReadableSaid : Prop := typesReadableRow.holds Try.pinned (OpenSpec.ofChange typesReadableSpec)

/-- ITS FALSE NEIGHBOUR: 'it returns false'. Refute it at one input. -/
def typesReadableWrong : ChangeSpec := { name := "typesReadable", fn := fun _ => fun
  | [d1, d2, d3, d4] => { results := [.lit (.bool false)], args := [d1, d2, d3, d4] }
  | _ => none }
def TypesReadableWrongFalsely : Prop := typesReadableRow.holds Try.pinned (OpenSpec.ofChange typesReadableWrong)

/-- 'gridwrightlaw17.TypesSums': WHATEVER THE INPUT: true; the input reads as it did. -/
def typesSumsSpec : ChangeSpec := { name := "typesSums", fn := fun _ => fun
  | [d1, d2, d3] => { results := [.lit (.bool true)], args := [d1, d2, d3] }
  | _ => none }
def typesSumsRow : OpenClaim := { program := "ytpdnjncfblclfaa", sum := "1f99c6aaa7b217d11b873d50094c84705109e309293598fe12133dcf7398c322", func := "gridwright/gridwrightlaw17.TypesSums", spec := "typesSums", unfollowed := true, recurses := true, apart := false }
def TypesSumsSaid : Prop := typesSumsRow.holds Try.pinned (OpenSpec.ofChange typesSumsSpec)

/-- ITS FALSE NEIGHBOUR: 'it returns false'. Refute it at one input. -/
def typesSumsWrong : ChangeSpec := { name := "typesSums", fn := fun _ => fun
  | [d1, d2, d3] => { results := [.lit (.bool false)], args := [d1, d2, d3] }
  | _ => none }
def TypesSumsWrongFalsely : Prop := typesSumsRow.holds Try.pinned (OpenSpec.ofChange typesSumsWrong)

/-- 'gridwrightlaw17.TypesLess': WHATEVER THE INPUT: true; the input reads as it did. -/
def typesLessSpec : ChangeSpec := { name := "typesLess", fn := fun _ => fun
  | [d1, d2] => { results := [.lit (.bool true)], args := [d1, d2] }
  | _ => none }
def typesLessRow : OpenClaim := { program := "ytpdnjncfblclfaa", sum := "1f99c6aaa7b217d11b873d50094c84705109e309293598fe12133dcf7398c322", func := "gridwright/gridwrightlaw17.TypesLess", spec := "typesLess", unfollowed := true, recurses := true, apart := false }
def TypesLessSaid : Prop := typesLessRow.holds Try.pinned (OpenSpec.ofChange typesLessSpec)

/-- ITS FALSE NEIGHBOUR: 'it returns false'. Refute it at one input. -/
def typesLessWrong : ChangeSpec := { name := "typesLess", fn := fun _ => fun
  | [d1, d2] => { results := [.lit (.bool false)], args := [d1, d2] }
  | _ => none }
def TypesLessWrongFalsely : Prop := typesLessRow.holds Try.pinned (OpenSpec.ofChange typesLessWrong)

/-- 'gridwrightlaw17.TypesClues': WHATEVER THE INPUT: true; the input reads as it did. -/
def typesCluesSpec : ChangeSpec := { name := "typesClues", fn := fun _ => fun
  | [d] => { results := [.lit (.bool true)], args := [d] }
  | _ => none }
def typesCluesRow : OpenClaim := { program := "ytpdnjncfblclfaa", sum := "1f99c6aaa7b217d11b873d50094c84705109e309293598fe12133dcf7398c322", func := "gridwright/gridwrightlaw17.TypesClues", spec := "typesClues", unfollowed := true, recurses := true, apart := false }
def TypesCluesSaid : Prop := typesCluesRow.holds Try.pinned (OpenSpec.ofChange typesCluesSpec)

/-- ITS FALSE NEIGHBOUR: 'it returns false'. Refute it at one input. -/
def typesCluesWrong : ChangeSpec := { name := "typesClues", fn := fun _ => fun
  | [d] => { results := [.lit (.bool false)], args := [d] }
  | _ => none }
def TypesCluesWrongFalsely : Prop := typesCluesRow.holds Try.pinned (OpenSpec.ofChange typesCluesWrong)

/-- 'gridwrightlaw17.TypesNamed': WHATEVER THE INPUT: true; the input reads as it did. -/
def typesNamedSpec : ChangeSpec := { name := "typesNamed", fn := fun _ => fun
  | [d1, d2, d3] => { results := [.lit (.bool true)], args := [d1, d2, d3] }
  | _ => none }
def typesNamedRow : OpenClaim := { program := "ytpdnjncfblclfaa", sum := "1f99c6aaa7b217d11b873d50094c84705109e309293598fe12133dcf7398c322", func := "gridwright/gridwrightlaw17.TypesNamed", spec := "typesNamed", unfollowed := true, recurses := true, apart := false }
def TypesNamedSaid : Prop := typesNamedRow.holds Try.pinned (OpenSpec.ofChange typesNamedSpec)

/-- ITS FALSE NEIGHBOUR: 'it returns false'. Refute it at one input. -/
def typesNamedWrong : ChangeSpec := { name := "typesNamed", fn := fun _ => fun
  | [d1, d2, d3] => { results := [.lit (.bool false)], args := [d1, d2, d3] }
  | _ => none }
def TypesNamedWrongFalsely : Prop := typesNamedRow.holds Try.pinned (OpenSpec.ofChange typesNamedWrong)

/- THE SECOND FORM. 'bulk': how many values and letters a reading holds, each counted each time it is reached (what is shared counts as often as it is met; a slice's spare places count too). A statement '..UptoSaid' is the law's where the arguments, and the package variables that the reading takes, are together of bulk at most 1048576: NARROWER than '..Said'. Prove '..Said' where nothing that the law and all that it calls make is longer than what came in: it says more and counts as full. Else prove '..UptoSaid'. A law counts once. -/
mutual
def uptoBulk {H : Type} : DataW H → Nat
  | .lit (.string bytes) => bytes.length + 1
  | .lit _ => 1
  | .nil => 1
  | .ptr d => uptoBulk d + 1
  | .slice elems spare => uptoBulkAll elems + uptoBulkAll spare + 1
  | .agg parts => uptoBulkAll parts + 1
  | .iface _ d => uptoBulk d + 1
  | .map entries => uptoBulkEntries entries + 1
  | .held _ => 1
def uptoBulkAll {H : Type} : List (DataW H) → Nat
  | [] => 0
  | d :: r => uptoBulk d + uptoBulkAll r
def uptoBulkEntries {H : Type} : List (Lit × DataW H) → Nat
  | [] => 0
  | x :: r => uptoBulkEntry x + uptoBulkEntries r
def uptoBulkEntry {H : Type} : Lit × DataW H → Nat
  | (.string bytes, d) => bytes.length + uptoBulk d + 1
  | (_, d) => uptoBulk d + 1
 end
def uptoSmall : (H : Type) → List (DataW H) → Bool := fun _ ds => decide (uptoBulkAll ds ≤ 1048576)
def OpenSpec.upto (s : _root_.Go.ChangeSpec) : _root_.Go.OpenSpec := { _root_.Go.OpenSpec.ofChange s with cond := some uptoSmall }

/-- 'gridwrightlaw17.TypesRulesSpec', WHERE WHAT IT READS IS OF BULK AT MOST 1048576: true; the input reads as it did. -/
def typesRulesSpecUptoRow : OpenClaim := { program := "ytpdnjncfblclfaa", sum := "1f99c6aaa7b217d11b873d50094c84705109e309293598fe12133dcf7398c322", func := "gridwright/gridwrightlaw17.TypesRulesSpec", spec := "typesRulesSpec", unfollowed := true, recurses := true, apart := false, narrowed := true }
def TypesRulesSpecUptoSaid : Prop := typesRulesSpecUptoRow.holds Try.pinned (OpenSpec.upto typesRulesSpecSpec)

/-- 'gridwrightlaw17.TypesReadable', WHERE WHAT IT READS IS OF BULK AT MOST 1048576: true; the input reads as it did. -/
def typesReadableUptoRow : OpenClaim := { program := "ytpdnjncfblclfaa", sum := "1f99c6aaa7b217d11b873d50094c84705109e309293598fe12133dcf7398c322", func := "gridwright/gridwrightlaw17.TypesReadable", spec := "typesReadable", unfollowed := true, recurses := true, apart := false, narrowed := true }
def TypesReadableUptoSaid : Prop := typesReadableUptoRow.holds Try.pinned (OpenSpec.upto typesReadableSpec)

/-- 'gridwrightlaw17.TypesSums', WHERE WHAT IT READS IS OF BULK AT MOST 1048576: true; the input reads as it did. -/
def typesSumsUptoRow : OpenClaim := { program := "ytpdnjncfblclfaa", sum := "1f99c6aaa7b217d11b873d50094c84705109e309293598fe12133dcf7398c322", func := "gridwright/gridwrightlaw17.TypesSums", spec := "typesSums", unfollowed := true, recurses := true, apart := false, narrowed := true }
def TypesSumsUptoSaid : Prop := typesSumsUptoRow.holds Try.pinned (OpenSpec.upto typesSumsSpec)

/-- 'gridwrightlaw17.TypesLess', WHERE WHAT IT READS IS OF BULK AT MOST 1048576: true; the input reads as it did. -/
def typesLessUptoRow : OpenClaim := { program := "ytpdnjncfblclfaa", sum := "1f99c6aaa7b217d11b873d50094c84705109e309293598fe12133dcf7398c322", func := "gridwright/gridwrightlaw17.TypesLess", spec := "typesLess", unfollowed := true, recurses := true, apart := false, narrowed := true }
def TypesLessUptoSaid : Prop := typesLessUptoRow.holds Try.pinned (OpenSpec.upto typesLessSpec)

/-- 'gridwrightlaw17.TypesClues', WHERE WHAT IT READS IS OF BULK AT MOST 1048576: true; the input reads as it did. -/
def typesCluesUptoRow : OpenClaim := { program := "ytpdnjncfblclfaa", sum := "1f99c6aaa7b217d11b873d50094c84705109e309293598fe12133dcf7398c322", func := "gridwright/gridwrightlaw17.TypesClues", spec := "typesClues", unfollowed := true, recurses := true, apart := false, narrowed := true }
def TypesCluesUptoSaid : Prop := typesCluesUptoRow.holds Try.pinned (OpenSpec.upto typesCluesSpec)

/-- 'gridwrightlaw17.TypesNamed', WHERE WHAT IT READS IS OF BULK AT MOST 1048576: true; the input reads as it did. -/
def typesNamedUptoRow : OpenClaim := { program := "ytpdnjncfblclfaa", sum := "1f99c6aaa7b217d11b873d50094c84705109e309293598fe12133dcf7398c322", func := "gridwright/gridwrightlaw17.TypesNamed", spec := "typesNamed", unfollowed := true, recurses := true, apart := false, narrowed := true }
def TypesNamedUptoSaid : Prop := typesNamedUptoRow.holds Try.pinned (OpenSpec.upto typesNamedSpec)

end Rows
end Go.Proofs.Ytpdnjncfblclfaa
