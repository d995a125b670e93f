/-
  NARROWER THAN 'FOR EVERY INPUT', by the rows' own cells (each row's printed sentence says how): LemmasParseSpec: laid · LemmasPrintSpec: laid · LemmasBack: laid · LemmasSpaces: laid · LemmasWrong: laid · LemmasLess: laid · LemmasNames: laid.
  DERIVED. THE GIVEN ROWS OF THIS SEAT. 7 by the template 'for every input the law returns true; each argument reads behind the call as it read before'; 0 by the template 'total and deterministic' (their statements: YtpjedmachelflaaGreatDoorTotals.lean).
  GIVEN WITH THE SEED: the statements are not yours to turn. If you find one false, say at which input.
  Laid BY PROGRAM, IN A SANDBOX (cutbox-rows.mjs): the forced cells as the released guide's own fill.sh prints them over the translation 8b7158af5a257e67… (all of the seat's roots in one cut). By AI agents, Wed Nov 11 2026. No macro, syntax, notation, axiom, sorry.
-/
import Derived.Test.YtpjedmachelflaaGreatDoorChecked
import GoSem.Claim
import GoSem.ClaimJoined
import GoSem.ClaimMapViews
import Derived.JoinedTies
import Derived.KernelRfl
namespace Go.Proofs.YtpjedmachelflaaGreatDoor
/- THE CELL 'sum', in the pinned program and in every row, IS THE sha256 OF THE DUMP (.gsa) THAT YtpjedmachelflaaGreatDoorProg.lean LOADS. Nothing in Lean hashes anything: it is a label: what it is worth is what the hold of that sum in a sandbox is worth. -/
noncomputable def Tryz.pinned : Pinned := { name := "ytpjedmachelflaagreatdoor", sum := "8b7158af5a257e6739713bfbd13d1f7d58b9fc7be40e9194c313e8d7cc21529a", checked := Tryz.checked }
namespace Rows
def none {H : Type} : Left H := { results := [], args := [] }

/- WHAT THE LISTED PACKAGE-LEVEL VARIABLES READ AS WHEN THE CALL BEGINS. Each datum BY PROGRAM (the guide's laid-datum.mjs) off the statement by which the dump's own 'gosem.cut.vars' lays the variable. In a bare row this is a premise. The card (YtpjedmachelflaaGreatDoorCards.lean) ties it to the program's text. -/
def laid_math_bits_deBruijn32tab {H : Type} : DataW H := .agg [.lit (.int .u8 0), .lit (.int .u8 1), .lit (.int .u8 28), .lit (.int .u8 2), .lit (.int .u8 29), .lit (.int .u8 14), .lit (.int .u8 24), .lit (.int .u8 3), .lit (.int .u8 30), .lit (.int .u8 22), .lit (.int .u8 20), .lit (.int .u8 15), .lit (.int .u8 25), .lit (.int .u8 17), .lit (.int .u8 4), .lit (.int .u8 8), .lit (.int .u8 31), .lit (.int .u8 27), .lit (.int .u8 13), .lit (.int .u8 23), .lit (.int .u8 21), .lit (.int .u8 19), .lit (.int .u8 16), .lit (.int .u8 7), .lit (.int .u8 26), .lit (.int .u8 12), .lit (.int .u8 18), .lit (.int .u8 6), .lit (.int .u8 11), .lit (.int .u8 5), .lit (.int .u8 10), .lit (.int .u8 9)]
def laid_math_bits_deBruijn64tab {H : Type} : DataW H := .agg [.lit (.int .u8 0), .lit (.int .u8 1), .lit (.int .u8 56), .lit (.int .u8 2), .lit (.int .u8 57), .lit (.int .u8 49), .lit (.int .u8 28), .lit (.int .u8 3), .lit (.int .u8 61), .lit (.int .u8 58), .lit (.int .u8 42), .lit (.int .u8 50), .lit (.int .u8 38), .lit (.int .u8 29), .lit (.int .u8 17), .lit (.int .u8 4), .lit (.int .u8 62), .lit (.int .u8 47), .lit (.int .u8 59), .lit (.int .u8 36), .lit (.int .u8 45), .lit (.int .u8 43), .lit (.int .u8 51), .lit (.int .u8 22), .lit (.int .u8 53), .lit (.int .u8 39), .lit (.int .u8 33), .lit (.int .u8 30), .lit (.int .u8 24), .lit (.int .u8 18), .lit (.int .u8 12), .lit (.int .u8 5), .lit (.int .u8 63), .lit (.int .u8 55), .lit (.int .u8 48), .lit (.int .u8 27), .lit (.int .u8 60), .lit (.int .u8 41), .lit (.int .u8 37), .lit (.int .u8 16), .lit (.int .u8 46), .lit (.int .u8 35), .lit (.int .u8 44), .lit (.int .u8 21), .lit (.int .u8 52), .lit (.int .u8 32), .lit (.int .u8 23), .lit (.int .u8 11), .lit (.int .u8 54), .lit (.int .u8 26), .lit (.int .u8 40), .lit (.int .u8 15), .lit (.int .u8 34), .lit (.int .u8 20), .lit (.int .u8 31), .lit (.int .u8 10), .lit (.int .u8 25), .lit (.int .u8 14), .lit (.int .u8 19), .lit (.int .u8 9), .lit (.int .u8 13), .lit (.int .u8 8), .lit (.int .u8 7), .lit (.int .u8 6)]
def laid_internal_strconv_uint64pow10 {H : Type} : DataW H := .agg [.lit (.int .u64 1), .lit (.int .u64 10), .lit (.int .u64 100), .lit (.int .u64 1000), .lit (.int .u64 10000), .lit (.int .u64 100000), .lit (.int .u64 1000000), .lit (.int .u64 10000000), .lit (.int .u64 100000000), .lit (.int .u64 1000000000), .lit (.int .u64 10000000000), .lit (.int .u64 100000000000), .lit (.int .u64 1000000000000), .lit (.int .u64 10000000000000), .lit (.int .u64 100000000000000), .lit (.int .u64 1000000000000000), .lit (.int .u64 10000000000000000), .lit (.int .u64 100000000000000000), .lit (.int .u64 1000000000000000000), .lit (.int .u64 10000000000000000000)]
def laid_strconv_ErrRange {H : Type} : DataW H := .iface "*errors.errorString" (.ptr (.agg [.lit (.string [118, 97, 108, 117, 101, 32, 111, 117, 116, 32, 111, 102, 32, 114, 97, 110, 103, 101])]))
def laid_strconv_ErrSyntax {H : Type} : DataW H := .iface "*errors.errorString" (.ptr (.agg [.lit (.string [105, 110, 118, 97, 108, 105, 100, 32, 115, 121, 110, 116, 97, 120])]))

/-- 'gridwrightlaw30.LemmasParseSpec': WHATEVER THE INPUT: true; the input reads as it did. -/
def lemmasParseSpecSpec : ChangeSpec := { name := "lemmasParseSpec", fn := fun _ => fun
  | [d] => { results := [.lit (.bool true)], args := [d] }
  | _ => none }
def lemmasParseSpecRow : OpenClaim := { program := "ytpjedmachelflaagreatdoor", sum := "8b7158af5a257e6739713bfbd13d1f7d58b9fc7be40e9194c313e8d7cc21529a", func := "gridwright/gridwrightlaw30.LemmasParseSpec", spec := "lemmasParseSpec", inPlace := ["internal/bytealg.IndexByteString", "internal/abi.NoEscape", "internal/bytealg.MakeNoZero"], unfollowed := true, recurses := true, named := ["strconv.ErrSyntax", "strconv.ErrRange", "internal/strconv.uint64pow10", "math/bits.deBruijn32tab", "math/bits.deBruijn64tab"], apart := false, laid := [("math/bits.deBruijn32tab", laid_math_bits_deBruijn32tab), ("math/bits.deBruijn64tab", laid_math_bits_deBruijn64tab), ("internal/strconv.uint64pow10", laid_internal_strconv_uint64pow10), ("strconv.ErrRange", laid_strconv_ErrRange), ("strconv.ErrSyntax", laid_strconv_ErrSyntax)] }
def LemmasParseSpecSaid : Prop := lemmasParseSpecRow.holds Tryz.pinned (OpenSpec.ofChange lemmasParseSpecSpec)

/-- ITS FALSE NEIGHBOUR: 'it returns false'. Refute it at one input. -/
def lemmasParseSpecWrong : ChangeSpec := { name := "lemmasParseSpec", fn := fun _ => fun
  | [d] => { results := [.lit (.bool false)], args := [d] }
  | _ => none }
def LemmasParseSpecWrongFalsely : Prop := lemmasParseSpecRow.holds Tryz.pinned (OpenSpec.ofChange lemmasParseSpecWrong)

/-- 'gridwrightlaw30.LemmasPrintSpec': WHATEVER THE INPUT: true; the input reads as it did. -/
def lemmasPrintSpecSpec : ChangeSpec := { name := "lemmasPrintSpec", fn := fun _ => fun
  | [d1, d2, d3] => { results := [.lit (.bool true)], args := [d1, d2, d3] }
  | _ => none }
def lemmasPrintSpecRow : OpenClaim := { program := "ytpjedmachelflaagreatdoor", sum := "8b7158af5a257e6739713bfbd13d1f7d58b9fc7be40e9194c313e8d7cc21529a", func := "gridwright/gridwrightlaw30.LemmasPrintSpec", spec := "lemmasPrintSpec", inPlace := ["internal/bytealg.IndexByteString", "internal/abi.NoEscape", "internal/bytealg.MakeNoZero"], unfollowed := true, recurses := true, named := ["strconv.ErrSyntax", "strconv.ErrRange", "internal/strconv.uint64pow10", "math/bits.deBruijn32tab", "math/bits.deBruijn64tab"], apart := false, laid := [("math/bits.deBruijn32tab", laid_math_bits_deBruijn32tab), ("math/bits.deBruijn64tab", laid_math_bits_deBruijn64tab), ("internal/strconv.uint64pow10", laid_internal_strconv_uint64pow10), ("strconv.ErrRange", laid_strconv_ErrRange), ("strconv.ErrSyntax", laid_strconv_ErrSyntax)] }
def LemmasPrintSpecSaid : Prop := lemmasPrintSpecRow.holds Tryz.pinned (OpenSpec.ofChange lemmasPrintSpecSpec)

/-- ITS FALSE NEIGHBOUR: 'it returns false'. Refute it at one input. -/
def lemmasPrintSpecWrong : ChangeSpec := { name := "lemmasPrintSpec", fn := fun _ => fun
  | [d1, d2, d3] => { results := [.lit (.bool false)], args := [d1, d2, d3] }
  | _ => none }
def LemmasPrintSpecWrongFalsely : Prop := lemmasPrintSpecRow.holds Tryz.pinned (OpenSpec.ofChange lemmasPrintSpecWrong)

/-- 'gridwrightlaw30.LemmasBack': WHATEVER THE INPUT: true; the input reads as it did. -/
def lemmasBackSpec : ChangeSpec := { name := "lemmasBack", fn := fun _ => fun
  | [d1, d2] => { results := [.lit (.bool true)], args := [d1, d2] }
  | _ => none }
def lemmasBackRow : OpenClaim := { program := "ytpjedmachelflaagreatdoor", sum := "8b7158af5a257e6739713bfbd13d1f7d58b9fc7be40e9194c313e8d7cc21529a", func := "gridwright/gridwrightlaw30.LemmasBack", spec := "lemmasBack", inPlace := ["internal/bytealg.IndexByteString", "internal/abi.NoEscape", "internal/bytealg.MakeNoZero"], unfollowed := true, recurses := true, named := ["strconv.ErrSyntax", "strconv.ErrRange", "internal/strconv.uint64pow10", "math/bits.deBruijn32tab", "math/bits.deBruijn64tab"], apart := false, laid := [("math/bits.deBruijn32tab", laid_math_bits_deBruijn32tab), ("math/bits.deBruijn64tab", laid_math_bits_deBruijn64tab), ("internal/strconv.uint64pow10", laid_internal_strconv_uint64pow10), ("strconv.ErrRange", laid_strconv_ErrRange), ("strconv.ErrSyntax", laid_strconv_ErrSyntax)] }
def LemmasBackSaid : Prop := lemmasBackRow.holds Tryz.pinned (OpenSpec.ofChange lemmasBackSpec)

/-- ITS FALSE NEIGHBOUR: 'it returns false'. Refute it at one input. -/
def lemmasBackWrong : ChangeSpec := { name := "lemmasBack", fn := fun _ => fun
  | [d1, d2] => { results := [.lit (.bool false)], args := [d1, d2] }
  | _ => none }
def LemmasBackWrongFalsely : Prop := lemmasBackRow.holds Tryz.pinned (OpenSpec.ofChange lemmasBackWrong)

/-- 'gridwrightlaw30.LemmasSpaces': WHATEVER THE INPUT: true; the input reads as it did. -/
def lemmasSpacesSpec : ChangeSpec := { name := "lemmasSpaces", fn := fun _ => fun
  | [d1, d2] => { results := [.lit (.bool true)], args := [d1, d2] }
  | _ => none }
def lemmasSpacesRow : OpenClaim := { program := "ytpjedmachelflaagreatdoor", sum := "8b7158af5a257e6739713bfbd13d1f7d58b9fc7be40e9194c313e8d7cc21529a", func := "gridwright/gridwrightlaw30.LemmasSpaces", spec := "lemmasSpaces", inPlace := ["internal/bytealg.IndexByteString", "internal/abi.NoEscape", "internal/bytealg.MakeNoZero"], unfollowed := true, recurses := true, named := ["strconv.ErrSyntax", "strconv.ErrRange", "internal/strconv.uint64pow10", "math/bits.deBruijn32tab", "math/bits.deBruijn64tab"], apart := false, laid := [("math/bits.deBruijn32tab", laid_math_bits_deBruijn32tab), ("math/bits.deBruijn64tab", laid_math_bits_deBruijn64tab), ("internal/strconv.uint64pow10", laid_internal_strconv_uint64pow10), ("strconv.ErrRange", laid_strconv_ErrRange), ("strconv.ErrSyntax", laid_strconv_ErrSyntax)] }
def LemmasSpacesSaid : Prop := lemmasSpacesRow.holds Tryz.pinned (OpenSpec.ofChange lemmasSpacesSpec)

/-- ITS FALSE NEIGHBOUR: 'it returns false'. Refute it at one input. -/
def lemmasSpacesWrong : ChangeSpec := { name := "lemmasSpaces", fn := fun _ => fun
  | [d1, d2] => { results := [.lit (.bool false)], args := [d1, d2] }
  | _ => none }
def LemmasSpacesWrongFalsely : Prop := lemmasSpacesRow.holds Tryz.pinned (OpenSpec.ofChange lemmasSpacesWrong)

/-- 'gridwrightlaw30.LemmasWrong': WHATEVER THE INPUT: true; the input reads as it did. -/
def lemmasWrongSpec : ChangeSpec := { name := "lemmasWrong", fn := fun _ => fun
  | [d1, d2, d3, d4] => { results := [.lit (.bool true)], args := [d1, d2, d3, d4] }
  | _ => none }
def lemmasWrongRow : OpenClaim := { program := "ytpjedmachelflaagreatdoor", sum := "8b7158af5a257e6739713bfbd13d1f7d58b9fc7be40e9194c313e8d7cc21529a", func := "gridwright/gridwrightlaw30.LemmasWrong", spec := "lemmasWrong", inPlace := ["internal/bytealg.IndexByteString", "internal/abi.NoEscape", "internal/bytealg.MakeNoZero"], unfollowed := true, recurses := true, named := ["strconv.ErrSyntax", "strconv.ErrRange", "internal/strconv.uint64pow10", "math/bits.deBruijn32tab", "math/bits.deBruijn64tab"], apart := false, laid := [("math/bits.deBruijn32tab", laid_math_bits_deBruijn32tab), ("math/bits.deBruijn64tab", laid_math_bits_deBruijn64tab), ("internal/strconv.uint64pow10", laid_internal_strconv_uint64pow10), ("strconv.ErrRange", laid_strconv_ErrRange), ("strconv.ErrSyntax", laid_strconv_ErrSyntax)] }
def LemmasWrongSaid : Prop := lemmasWrongRow.holds Tryz.pinned (OpenSpec.ofChange lemmasWrongSpec)

/-- ITS FALSE NEIGHBOUR: 'it returns false'. Refute it at one input. -/
def lemmasWrongWrong : ChangeSpec := { name := "lemmasWrong", fn := fun _ => fun
  | [d1, d2, d3, d4] => { results := [.lit (.bool false)], args := [d1, d2, d3, d4] }
  | _ => none }
def LemmasWrongWrongFalsely : Prop := lemmasWrongRow.holds Tryz.pinned (OpenSpec.ofChange lemmasWrongWrong)

/-- 'gridwrightlaw30.LemmasLess': WHATEVER THE INPUT: true; the input reads as it did. -/
def lemmasLessSpec : ChangeSpec := { name := "lemmasLess", fn := fun _ => fun
  | [d1, d2] => { results := [.lit (.bool true)], args := [d1, d2] }
  | _ => none }
def lemmasLessRow : OpenClaim := { program := "ytpjedmachelflaagreatdoor", sum := "8b7158af5a257e6739713bfbd13d1f7d58b9fc7be40e9194c313e8d7cc21529a", func := "gridwright/gridwrightlaw30.LemmasLess", spec := "lemmasLess", inPlace := ["internal/bytealg.IndexByteString", "internal/abi.NoEscape", "internal/bytealg.MakeNoZero"], unfollowed := true, recurses := true, named := ["strconv.ErrSyntax", "strconv.ErrRange", "internal/strconv.uint64pow10", "math/bits.deBruijn32tab", "math/bits.deBruijn64tab"], apart := false, laid := [("math/bits.deBruijn32tab", laid_math_bits_deBruijn32tab), ("math/bits.deBruijn64tab", laid_math_bits_deBruijn64tab), ("internal/strconv.uint64pow10", laid_internal_strconv_uint64pow10), ("strconv.ErrRange", laid_strconv_ErrRange), ("strconv.ErrSyntax", laid_strconv_ErrSyntax)] }
def LemmasLessSaid : Prop := lemmasLessRow.holds Tryz.pinned (OpenSpec.ofChange lemmasLessSpec)

/-- ITS FALSE NEIGHBOUR: 'it returns false'. Refute it at one input. -/
def lemmasLessWrong : ChangeSpec := { name := "lemmasLess", fn := fun _ => fun
  | [d1, d2] => { results := [.lit (.bool false)], args := [d1, d2] }
  | _ => none }
def LemmasLessWrongFalsely : Prop := lemmasLessRow.holds Tryz.pinned (OpenSpec.ofChange lemmasLessWrong)

/-- 'gridwrightlaw30.LemmasNames': WHATEVER THE INPUT: true; the input reads as it did. -/
def lemmasNamesSpec : ChangeSpec := { name := "lemmasNames", fn := fun _ => fun
  | [d1, d2] => { results := [.lit (.bool true)], args := [d1, d2] }
  | _ => none }
def lemmasNamesRow : OpenClaim := { program := "ytpjedmachelflaagreatdoor", sum := "8b7158af5a257e6739713bfbd13d1f7d58b9fc7be40e9194c313e8d7cc21529a", func := "gridwright/gridwrightlaw30.LemmasNames", spec := "lemmasNames", inPlace := ["internal/bytealg.IndexByteString", "internal/abi.NoEscape", "internal/bytealg.MakeNoZero"], unfollowed := true, recurses := true, named := ["strconv.ErrSyntax", "strconv.ErrRange", "internal/strconv.uint64pow10", "math/bits.deBruijn32tab", "math/bits.deBruijn64tab"], apart := false, laid := [("math/bits.deBruijn32tab", laid_math_bits_deBruijn32tab), ("math/bits.deBruijn64tab", laid_math_bits_deBruijn64tab), ("internal/strconv.uint64pow10", laid_internal_strconv_uint64pow10), ("strconv.ErrRange", laid_strconv_ErrRange), ("strconv.ErrSyntax", laid_strconv_ErrSyntax)] }
def LemmasNamesSaid : Prop := lemmasNamesRow.holds Tryz.pinned (OpenSpec.ofChange lemmasNamesSpec)

/-- ITS FALSE NEIGHBOUR: 'it returns false'. Refute it at one input. -/
def lemmasNamesWrong : ChangeSpec := { name := "lemmasNames", fn := fun _ => fun
  | [d1, d2] => { results := [.lit (.bool false)], args := [d1, d2] }
  | _ => none }
def LemmasNamesWrongFalsely : Prop := lemmasNamesRow.holds Tryz.pinned (OpenSpec.ofChange lemmasNamesWrong)

/- THE SECOND FORM. 'bulk': how many values and letters a reading holds, each counted each time it is reached (what is shared counts as often as it is met; a slice's spare places count too). A statement '..UptoSaid' is the law's where the arguments, and the package variables that the reading takes, are together of bulk at most 1048576: NARROWER than '..Said'. Prove '..Said' where nothing that the law and all that it calls make is longer than what came in: it says more and counts as full. Else prove '..UptoSaid'. A law counts once. -/
mutual
def uptoBulk {H : Type} : DataW H → Nat
  | .lit (.string bytes) => bytes.length + 1
  | .lit _ => 1
  | .nil => 1
  | .ptr d => uptoBulk d + 1
  | .slice elems spare => uptoBulkAll elems + uptoBulkAll spare + 1
  | .agg parts => uptoBulkAll parts + 1
  | .iface _ d => uptoBulk d + 1
  | .map entries => uptoBulkEntries entries + 1
  | .held _ => 1
def uptoBulkAll {H : Type} : List (DataW H) → Nat
  | [] => 0
  | d :: r => uptoBulk d + uptoBulkAll r
def uptoBulkEntries {H : Type} : List (Lit × DataW H) → Nat
  | [] => 0
  | x :: r => uptoBulkEntry x + uptoBulkEntries r
def uptoBulkEntry {H : Type} : Lit × DataW H → Nat
  | (.string bytes, d) => bytes.length + uptoBulk d + 1
  | (_, d) => uptoBulk d + 1
 end
def uptoSmall : (H : Type) → List (DataW H) → Bool := fun _ ds => decide (uptoBulkAll ds ≤ 1048576)
def OpenSpec.upto (s : _root_.Go.ChangeSpec) : _root_.Go.OpenSpec := { _root_.Go.OpenSpec.ofChange s with cond := some uptoSmall }

/-- 'gridwrightlaw30.LemmasParseSpec', WHERE WHAT IT READS IS OF BULK AT MOST 1048576: true; the input reads as it did. -/
def lemmasParseSpecUptoRow : OpenClaim := { program := "ytpjedmachelflaagreatdoor", sum := "8b7158af5a257e6739713bfbd13d1f7d58b9fc7be40e9194c313e8d7cc21529a", func := "gridwright/gridwrightlaw30.LemmasParseSpec", spec := "lemmasParseSpec", inPlace := ["internal/bytealg.IndexByteString", "internal/abi.NoEscape", "internal/bytealg.MakeNoZero"], unfollowed := true, recurses := true, named := ["strconv.ErrSyntax", "strconv.ErrRange", "internal/strconv.uint64pow10", "math/bits.deBruijn32tab", "math/bits.deBruijn64tab"], apart := false, laid := [("math/bits.deBruijn32tab", laid_math_bits_deBruijn32tab), ("math/bits.deBruijn64tab", laid_math_bits_deBruijn64tab), ("internal/strconv.uint64pow10", laid_internal_strconv_uint64pow10), ("strconv.ErrRange", laid_strconv_ErrRange), ("strconv.ErrSyntax", laid_strconv_ErrSyntax)], narrowed := true }
def LemmasParseSpecUptoSaid : Prop := lemmasParseSpecUptoRow.holds Tryz.pinned (OpenSpec.upto lemmasParseSpecSpec)

/-- 'gridwrightlaw30.LemmasPrintSpec', WHERE WHAT IT READS IS OF BULK AT MOST 1048576: true; the input reads as it did. -/
def lemmasPrintSpecUptoRow : OpenClaim := { program := "ytpjedmachelflaagreatdoor", sum := "8b7158af5a257e6739713bfbd13d1f7d58b9fc7be40e9194c313e8d7cc21529a", func := "gridwright/gridwrightlaw30.LemmasPrintSpec", spec := "lemmasPrintSpec", inPlace := ["internal/bytealg.IndexByteString", "internal/abi.NoEscape", "internal/bytealg.MakeNoZero"], unfollowed := true, recurses := true, named := ["strconv.ErrSyntax", "strconv.ErrRange", "internal/strconv.uint64pow10", "math/bits.deBruijn32tab", "math/bits.deBruijn64tab"], apart := false, laid := [("math/bits.deBruijn32tab", laid_math_bits_deBruijn32tab), ("math/bits.deBruijn64tab", laid_math_bits_deBruijn64tab), ("internal/strconv.uint64pow10", laid_internal_strconv_uint64pow10), ("strconv.ErrRange", laid_strconv_ErrRange), ("strconv.ErrSyntax", laid_strconv_ErrSyntax)], narrowed := true }
def LemmasPrintSpecUptoSaid : Prop := lemmasPrintSpecUptoRow.holds Tryz.pinned (OpenSpec.upto lemmasPrintSpecSpec)

/-- 'gridwrightlaw30.LemmasBack', WHERE WHAT IT READS IS OF BULK AT MOST 1048576: true; the input reads as it did. -/
def lemmasBackUptoRow : OpenClaim := { program := "ytpjedmachelflaagreatdoor", sum := "8b7158af5a257e6739713bfbd13d1f7d58b9fc7be40e9194c313e8d7cc21529a", func := "gridwright/gridwrightlaw30.LemmasBack", spec := "lemmasBack", inPlace := ["internal/bytealg.IndexByteString", "internal/abi.NoEscape", "internal/bytealg.MakeNoZero"], unfollowed := true, recurses := true, named := ["strconv.ErrSyntax", "strconv.ErrRange", "internal/strconv.uint64pow10", "math/bits.deBruijn32tab", "math/bits.deBruijn64tab"], apart := false, laid := [("math/bits.deBruijn32tab", laid_math_bits_deBruijn32tab), ("math/bits.deBruijn64tab", laid_math_bits_deBruijn64tab), ("internal/strconv.uint64pow10", laid_internal_strconv_uint64pow10), ("strconv.ErrRange", laid_strconv_ErrRange), ("strconv.ErrSyntax", laid_strconv_ErrSyntax)], narrowed := true }
def LemmasBackUptoSaid : Prop := lemmasBackUptoRow.holds Tryz.pinned (OpenSpec.upto lemmasBackSpec)

/-- 'gridwrightlaw30.LemmasSpaces', WHERE WHAT IT READS IS OF BULK AT MOST 1048576: true; the input reads as it did. -/
def lemmasSpacesUptoRow : OpenClaim := { program := "ytpjedmachelflaagreatdoor", sum := "8b7158af5a257e6739713bfbd13d1f7d58b9fc7be40e9194c313e8d7cc21529a", func := "gridwright/gridwrightlaw30.LemmasSpaces", spec := "lemmasSpaces", inPlace := ["internal/bytealg.IndexByteString", "internal/abi.NoEscape", "internal/bytealg.MakeNoZero"], unfollowed := true, recurses := true, named := ["strconv.ErrSyntax", "strconv.ErrRange", "internal/strconv.uint64pow10", "math/bits.deBruijn32tab", "math/bits.deBruijn64tab"], apart := false, laid := [("math/bits.deBruijn32tab", laid_math_bits_deBruijn32tab), ("math/bits.deBruijn64tab", laid_math_bits_deBruijn64tab), ("internal/strconv.uint64pow10", laid_internal_strconv_uint64pow10), ("strconv.ErrRange", laid_strconv_ErrRange), ("strconv.ErrSyntax", laid_strconv_ErrSyntax)], narrowed := true }
def LemmasSpacesUptoSaid : Prop := lemmasSpacesUptoRow.holds Tryz.pinned (OpenSpec.upto lemmasSpacesSpec)

/-- 'gridwrightlaw30.LemmasWrong', WHERE WHAT IT READS IS OF BULK AT MOST 1048576: true; the input reads as it did. -/
def lemmasWrongUptoRow : OpenClaim := { program := "ytpjedmachelflaagreatdoor", sum := "8b7158af5a257e6739713bfbd13d1f7d58b9fc7be40e9194c313e8d7cc21529a", func := "gridwright/gridwrightlaw30.LemmasWrong", spec := "lemmasWrong", inPlace := ["internal/bytealg.IndexByteString", "internal/abi.NoEscape", "internal/bytealg.MakeNoZero"], unfollowed := true, recurses := true, named := ["strconv.ErrSyntax", "strconv.ErrRange", "internal/strconv.uint64pow10", "math/bits.deBruijn32tab", "math/bits.deBruijn64tab"], apart := false, laid := [("math/bits.deBruijn32tab", laid_math_bits_deBruijn32tab), ("math/bits.deBruijn64tab", laid_math_bits_deBruijn64tab), ("internal/strconv.uint64pow10", laid_internal_strconv_uint64pow10), ("strconv.ErrRange", laid_strconv_ErrRange), ("strconv.ErrSyntax", laid_strconv_ErrSyntax)], narrowed := true }
def LemmasWrongUptoSaid : Prop := lemmasWrongUptoRow.holds Tryz.pinned (OpenSpec.upto lemmasWrongSpec)

/-- 'gridwrightlaw30.LemmasLess', WHERE WHAT IT READS IS OF BULK AT MOST 1048576: true; the input reads as it did. -/
def lemmasLessUptoRow : OpenClaim := { program := "ytpjedmachelflaagreatdoor", sum := "8b7158af5a257e6739713bfbd13d1f7d58b9fc7be40e9194c313e8d7cc21529a", func := "gridwright/gridwrightlaw30.LemmasLess", spec := "lemmasLess", inPlace := ["internal/bytealg.IndexByteString", "internal/abi.NoEscape", "internal/bytealg.MakeNoZero"], unfollowed := true, recurses := true, named := ["strconv.ErrSyntax", "strconv.ErrRange", "internal/strconv.uint64pow10", "math/bits.deBruijn32tab", "math/bits.deBruijn64tab"], apart := false, laid := [("math/bits.deBruijn32tab", laid_math_bits_deBruijn32tab), ("math/bits.deBruijn64tab", laid_math_bits_deBruijn64tab), ("internal/strconv.uint64pow10", laid_internal_strconv_uint64pow10), ("strconv.ErrRange", laid_strconv_ErrRange), ("strconv.ErrSyntax", laid_strconv_ErrSyntax)], narrowed := true }
def LemmasLessUptoSaid : Prop := lemmasLessUptoRow.holds Tryz.pinned (OpenSpec.upto lemmasLessSpec)

/-- 'gridwrightlaw30.LemmasNames', WHERE WHAT IT READS IS OF BULK AT MOST 1048576: true; the input reads as it did. -/
def lemmasNamesUptoRow : OpenClaim := { program := "ytpjedmachelflaagreatdoor", sum := "8b7158af5a257e6739713bfbd13d1f7d58b9fc7be40e9194c313e8d7cc21529a", func := "gridwright/gridwrightlaw30.LemmasNames", spec := "lemmasNames", inPlace := ["internal/bytealg.IndexByteString", "internal/abi.NoEscape", "internal/bytealg.MakeNoZero"], unfollowed := true, recurses := true, named := ["strconv.ErrSyntax", "strconv.ErrRange", "internal/strconv.uint64pow10", "math/bits.deBruijn32tab", "math/bits.deBruijn64tab"], apart := false, laid := [("math/bits.deBruijn32tab", laid_math_bits_deBruijn32tab), ("math/bits.deBruijn64tab", laid_math_bits_deBruijn64tab), ("internal/strconv.uint64pow10", laid_internal_strconv_uint64pow10), ("strconv.ErrRange", laid_strconv_ErrRange), ("strconv.ErrSyntax", laid_strconv_ErrSyntax)], narrowed := true }
def LemmasNamesUptoSaid : Prop := lemmasNamesUptoRow.holds Tryz.pinned (OpenSpec.upto lemmasNamesSpec)

end Rows
end Go.Proofs.YtpjedmachelflaaGreatDoor
