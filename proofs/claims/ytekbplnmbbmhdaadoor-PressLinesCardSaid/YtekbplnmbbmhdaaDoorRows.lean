/-
  NARROWER THAN 'FOR EVERY INPUT', by the rows' own cells (each row's printed sentence says how): PressCheckSpec: laid · PressLayoutSpec: laid · PressValidSpec: laid · PressGood: laid · PressOrder: laid · PressScale: laid · PressLines: laid.
  DERIVED. THE GIVEN ROWS OF THIS SEAT. 7 by the template 'for every input the law returns true; each argument reads behind the call as it read before'; 0 by the template 'total and deterministic' (their statements: YtekbplnmbbmhdaaDoorTotals.lean).
  GIVEN WITH THE SEED: the statements are not yours to turn. If you find one false, say at which input.
  Laid BY PROGRAM, IN A SANDBOX (cutbox-rows.mjs): the forced cells as the released guide's own fill.sh prints them over the translation f65695679e7d11a9… (all of the seat's roots in one cut). By AI agents, Wed Nov 11 2026. No macro, syntax, notation, axiom, sorry.
-/
import Derived.Test.YtekbplnmbbmhdaaDoorChecked
import GoSem.Claim
import GoSem.ClaimJoined
import GoSem.ClaimMapViews
import Derived.JoinedTies
import Derived.KernelRfl
namespace Go.Proofs.YtekbplnmbbmhdaaDoor
/- THE CELL 'sum', in the pinned program and in every row, IS THE sha256 OF THE DUMP (.gsa) THAT YtekbplnmbbmhdaaDoorProg.lean LOADS. Nothing in Lean hashes anything: it is a label: what it is worth is what the hold of that sum in a sandbox is worth. -/
noncomputable def Tryd.pinned : Pinned := { name := "ytekbplnmbbmhdaadoor", sum := "f65695679e7d11a9c90d3f07886297185c3475c506011a167094751d94e05b43", checked := Tryd.checked }
namespace Rows
def none {H : Type} : Left H := { results := [], args := [] }

/- WHAT THE LISTED PACKAGE-LEVEL VARIABLES READ AS WHEN THE CALL BEGINS. Each datum BY PROGRAM (the guide's laid-datum.mjs) off the statement by which the dump's own 'gosem.cut.vars' lays the variable. In a bare row this is a premise. The card (YtekbplnmbbmhdaaDoorCards.lean) ties it to the program's text. -/
def laid_math_bits_deBruijn32tab {H : Type} : DataW H := .agg [.lit (.int .u8 0), .lit (.int .u8 1), .lit (.int .u8 28), .lit (.int .u8 2), .lit (.int .u8 29), .lit (.int .u8 14), .lit (.int .u8 24), .lit (.int .u8 3), .lit (.int .u8 30), .lit (.int .u8 22), .lit (.int .u8 20), .lit (.int .u8 15), .lit (.int .u8 25), .lit (.int .u8 17), .lit (.int .u8 4), .lit (.int .u8 8), .lit (.int .u8 31), .lit (.int .u8 27), .lit (.int .u8 13), .lit (.int .u8 23), .lit (.int .u8 21), .lit (.int .u8 19), .lit (.int .u8 16), .lit (.int .u8 7), .lit (.int .u8 26), .lit (.int .u8 12), .lit (.int .u8 18), .lit (.int .u8 6), .lit (.int .u8 11), .lit (.int .u8 5), .lit (.int .u8 10), .lit (.int .u8 9)]
def laid_math_bits_deBruijn64tab {H : Type} : DataW H := .agg [.lit (.int .u8 0), .lit (.int .u8 1), .lit (.int .u8 56), .lit (.int .u8 2), .lit (.int .u8 57), .lit (.int .u8 49), .lit (.int .u8 28), .lit (.int .u8 3), .lit (.int .u8 61), .lit (.int .u8 58), .lit (.int .u8 42), .lit (.int .u8 50), .lit (.int .u8 38), .lit (.int .u8 29), .lit (.int .u8 17), .lit (.int .u8 4), .lit (.int .u8 62), .lit (.int .u8 47), .lit (.int .u8 59), .lit (.int .u8 36), .lit (.int .u8 45), .lit (.int .u8 43), .lit (.int .u8 51), .lit (.int .u8 22), .lit (.int .u8 53), .lit (.int .u8 39), .lit (.int .u8 33), .lit (.int .u8 30), .lit (.int .u8 24), .lit (.int .u8 18), .lit (.int .u8 12), .lit (.int .u8 5), .lit (.int .u8 63), .lit (.int .u8 55), .lit (.int .u8 48), .lit (.int .u8 27), .lit (.int .u8 60), .lit (.int .u8 41), .lit (.int .u8 37), .lit (.int .u8 16), .lit (.int .u8 46), .lit (.int .u8 35), .lit (.int .u8 44), .lit (.int .u8 21), .lit (.int .u8 52), .lit (.int .u8 32), .lit (.int .u8 23), .lit (.int .u8 11), .lit (.int .u8 54), .lit (.int .u8 26), .lit (.int .u8 40), .lit (.int .u8 15), .lit (.int .u8 34), .lit (.int .u8 20), .lit (.int .u8 31), .lit (.int .u8 10), .lit (.int .u8 25), .lit (.int .u8 14), .lit (.int .u8 19), .lit (.int .u8 9), .lit (.int .u8 13), .lit (.int .u8 8), .lit (.int .u8 7), .lit (.int .u8 6)]
def laid_internal_strconv_uint64pow10 {H : Type} : DataW H := .agg [.lit (.int .u64 1), .lit (.int .u64 10), .lit (.int .u64 100), .lit (.int .u64 1000), .lit (.int .u64 10000), .lit (.int .u64 100000), .lit (.int .u64 1000000), .lit (.int .u64 10000000), .lit (.int .u64 100000000), .lit (.int .u64 1000000000), .lit (.int .u64 10000000000), .lit (.int .u64 100000000000), .lit (.int .u64 1000000000000), .lit (.int .u64 10000000000000), .lit (.int .u64 100000000000000), .lit (.int .u64 1000000000000000), .lit (.int .u64 10000000000000000), .lit (.int .u64 100000000000000000), .lit (.int .u64 1000000000000000000), .lit (.int .u64 10000000000000000000)]

/-- 'gridwrightlaw57.PressCheckSpec': WHATEVER THE INPUT: true; the input reads as it did. -/
def pressCheckSpecSpec : ChangeSpec := { name := "pressCheckSpec", fn := fun _ => fun
  | [d1, d2] => { results := [.lit (.bool true)], args := [d1, d2] }
  | _ => none }
def pressCheckSpecRow : OpenClaim := { program := "ytekbplnmbbmhdaadoor", sum := "f65695679e7d11a9c90d3f07886297185c3475c506011a167094751d94e05b43", func := "gridwright/gridwrightlaw57.PressCheckSpec", spec := "pressCheckSpec", unfollowed := true, recurses := true, named := ["internal/strconv.uint64pow10", "math/bits.deBruijn32tab", "math/bits.deBruijn64tab"], apart := false, laid := [("math/bits.deBruijn32tab", laid_math_bits_deBruijn32tab), ("math/bits.deBruijn64tab", laid_math_bits_deBruijn64tab), ("internal/strconv.uint64pow10", laid_internal_strconv_uint64pow10)] }
def PressCheckSpecSaid : Prop := pressCheckSpecRow.holds Tryd.pinned (OpenSpec.ofChange pressCheckSpecSpec)

/-- ITS FALSE NEIGHBOUR: 'it returns false'. Refute it at one input. -/
def pressCheckSpecWrong : ChangeSpec := { name := "pressCheckSpec", fn := fun _ => fun
  | [d1, d2] => { results := [.lit (.bool false)], args := [d1, d2] }
  | _ => none }
def PressCheckSpecWrongFalsely : Prop := pressCheckSpecRow.holds Tryd.pinned (OpenSpec.ofChange pressCheckSpecWrong)

/-- 'gridwrightlaw57.PressLayoutSpec': WHATEVER THE INPUT: true; the input reads as it did. -/
def pressLayoutSpecSpec : ChangeSpec := { name := "pressLayoutSpec", fn := fun _ => fun
  | [d1, d2] => { results := [.lit (.bool true)], args := [d1, d2] }
  | _ => none }
def pressLayoutSpecRow : OpenClaim := { program := "ytekbplnmbbmhdaadoor", sum := "f65695679e7d11a9c90d3f07886297185c3475c506011a167094751d94e05b43", func := "gridwright/gridwrightlaw57.PressLayoutSpec", spec := "pressLayoutSpec", unfollowed := true, recurses := true, named := ["internal/strconv.uint64pow10", "math/bits.deBruijn32tab", "math/bits.deBruijn64tab"], apart := false, laid := [("math/bits.deBruijn32tab", laid_math_bits_deBruijn32tab), ("math/bits.deBruijn64tab", laid_math_bits_deBruijn64tab), ("internal/strconv.uint64pow10", laid_internal_strconv_uint64pow10)] }
def PressLayoutSpecSaid : Prop := pressLayoutSpecRow.holds Tryd.pinned (OpenSpec.ofChange pressLayoutSpecSpec)

/-- ITS FALSE NEIGHBOUR: 'it returns false'. Refute it at one input. -/
def pressLayoutSpecWrong : ChangeSpec := { name := "pressLayoutSpec", fn := fun _ => fun
  | [d1, d2] => { results := [.lit (.bool false)], args := [d1, d2] }
  | _ => none }
def PressLayoutSpecWrongFalsely : Prop := pressLayoutSpecRow.holds Tryd.pinned (OpenSpec.ofChange pressLayoutSpecWrong)

/-- 'gridwrightlaw57.PressValidSpec': WHATEVER THE INPUT: true; the input reads as it did. -/
def pressValidSpecSpec : ChangeSpec := { name := "pressValidSpec", fn := fun _ => fun
  | [d1, d2, d3] => { results := [.lit (.bool true)], args := [d1, d2, d3] }
  | _ => none }
def pressValidSpecRow : OpenClaim := { program := "ytekbplnmbbmhdaadoor", sum := "f65695679e7d11a9c90d3f07886297185c3475c506011a167094751d94e05b43", func := "gridwright/gridwrightlaw57.PressValidSpec", spec := "pressValidSpec", unfollowed := true, recurses := true, named := ["internal/strconv.uint64pow10", "math/bits.deBruijn32tab", "math/bits.deBruijn64tab"], apart := false, laid := [("math/bits.deBruijn32tab", laid_math_bits_deBruijn32tab), ("math/bits.deBruijn64tab", laid_math_bits_deBruijn64tab), ("internal/strconv.uint64pow10", laid_internal_strconv_uint64pow10)] }
def PressValidSpecSaid : Prop := pressValidSpecRow.holds Tryd.pinned (OpenSpec.ofChange pressValidSpecSpec)

/-- ITS FALSE NEIGHBOUR: 'it returns false'. Refute it at one input. -/
def pressValidSpecWrong : ChangeSpec := { name := "pressValidSpec", fn := fun _ => fun
  | [d1, d2, d3] => { results := [.lit (.bool false)], args := [d1, d2, d3] }
  | _ => none }
def PressValidSpecWrongFalsely : Prop := pressValidSpecRow.holds Tryd.pinned (OpenSpec.ofChange pressValidSpecWrong)

/-- 'gridwrightlaw57.PressGood': WHATEVER THE INPUT: true; the input reads as it did. -/
def pressGoodSpec : ChangeSpec := { name := "pressGood", fn := fun _ => fun
  | [d1, d2] => { results := [.lit (.bool true)], args := [d1, d2] }
  | _ => none }
def pressGoodRow : OpenClaim := { program := "ytekbplnmbbmhdaadoor", sum := "f65695679e7d11a9c90d3f07886297185c3475c506011a167094751d94e05b43", func := "gridwright/gridwrightlaw57.PressGood", spec := "pressGood", unfollowed := true, recurses := true, named := ["internal/strconv.uint64pow10", "math/bits.deBruijn32tab", "math/bits.deBruijn64tab"], apart := false, laid := [("math/bits.deBruijn32tab", laid_math_bits_deBruijn32tab), ("math/bits.deBruijn64tab", laid_math_bits_deBruijn64tab), ("internal/strconv.uint64pow10", laid_internal_strconv_uint64pow10)] }
def PressGoodSaid : Prop := pressGoodRow.holds Tryd.pinned (OpenSpec.ofChange pressGoodSpec)

/-- ITS FALSE NEIGHBOUR: 'it returns false'. Refute it at one input. -/
def pressGoodWrong : ChangeSpec := { name := "pressGood", fn := fun _ => fun
  | [d1, d2] => { results := [.lit (.bool false)], args := [d1, d2] }
  | _ => none }
def PressGoodWrongFalsely : Prop := pressGoodRow.holds Tryd.pinned (OpenSpec.ofChange pressGoodWrong)

/-- 'gridwrightlaw57.PressOrder': WHATEVER THE INPUT: true; the input reads as it did. -/
def pressOrderSpec : ChangeSpec := { name := "pressOrder", fn := fun _ => fun
  | [d1, d2, d3, d4, d5] => { results := [.lit (.bool true)], args := [d1, d2, d3, d4, d5] }
  | _ => none }
def pressOrderRow : OpenClaim := { program := "ytekbplnmbbmhdaadoor", sum := "f65695679e7d11a9c90d3f07886297185c3475c506011a167094751d94e05b43", func := "gridwright/gridwrightlaw57.PressOrder", spec := "pressOrder", unfollowed := true, recurses := true, named := ["internal/strconv.uint64pow10", "math/bits.deBruijn32tab", "math/bits.deBruijn64tab"], apart := false, laid := [("math/bits.deBruijn32tab", laid_math_bits_deBruijn32tab), ("math/bits.deBruijn64tab", laid_math_bits_deBruijn64tab), ("internal/strconv.uint64pow10", laid_internal_strconv_uint64pow10)] }
def PressOrderSaid : Prop := pressOrderRow.holds Tryd.pinned (OpenSpec.ofChange pressOrderSpec)

/-- ITS FALSE NEIGHBOUR: 'it returns false'. Refute it at one input. -/
def pressOrderWrong : ChangeSpec := { name := "pressOrder", fn := fun _ => fun
  | [d1, d2, d3, d4, d5] => { results := [.lit (.bool false)], args := [d1, d2, d3, d4, d5] }
  | _ => none }
def PressOrderWrongFalsely : Prop := pressOrderRow.holds Tryd.pinned (OpenSpec.ofChange pressOrderWrong)

/-- 'gridwrightlaw57.PressScale': WHATEVER THE INPUT: true; the input reads as it did. -/
def pressScaleSpec : ChangeSpec := { name := "pressScale", fn := fun _ => fun
  | [d1, d2] => { results := [.lit (.bool true)], args := [d1, d2] }
  | _ => none }
def pressScaleRow : OpenClaim := { program := "ytekbplnmbbmhdaadoor", sum := "f65695679e7d11a9c90d3f07886297185c3475c506011a167094751d94e05b43", func := "gridwright/gridwrightlaw57.PressScale", spec := "pressScale", unfollowed := true, recurses := true, named := ["internal/strconv.uint64pow10", "math/bits.deBruijn32tab", "math/bits.deBruijn64tab"], apart := false, laid := [("math/bits.deBruijn32tab", laid_math_bits_deBruijn32tab), ("math/bits.deBruijn64tab", laid_math_bits_deBruijn64tab), ("internal/strconv.uint64pow10", laid_internal_strconv_uint64pow10)] }
def PressScaleSaid : Prop := pressScaleRow.holds Tryd.pinned (OpenSpec.ofChange pressScaleSpec)

/-- ITS FALSE NEIGHBOUR: 'it returns false'. Refute it at one input. -/
def pressScaleWrong : ChangeSpec := { name := "pressScale", fn := fun _ => fun
  | [d1, d2] => { results := [.lit (.bool false)], args := [d1, d2] }
  | _ => none }
def PressScaleWrongFalsely : Prop := pressScaleRow.holds Tryd.pinned (OpenSpec.ofChange pressScaleWrong)

/-- 'gridwrightlaw57.PressLines': WHATEVER THE INPUT: true; the input reads as it did. -/
def pressLinesSpec : ChangeSpec := { name := "pressLines", fn := fun _ => fun
  | [d1, d2] => { results := [.lit (.bool true)], args := [d1, d2] }
  | _ => none }
def pressLinesRow : OpenClaim := { program := "ytekbplnmbbmhdaadoor", sum := "f65695679e7d11a9c90d3f07886297185c3475c506011a167094751d94e05b43", func := "gridwright/gridwrightlaw57.PressLines", spec := "pressLines", unfollowed := true, recurses := true, named := ["internal/strconv.uint64pow10", "math/bits.deBruijn32tab", "math/bits.deBruijn64tab"], apart := false, laid := [("math/bits.deBruijn32tab", laid_math_bits_deBruijn32tab), ("math/bits.deBruijn64tab", laid_math_bits_deBruijn64tab), ("internal/strconv.uint64pow10", laid_internal_strconv_uint64pow10)] }
def PressLinesSaid : Prop := pressLinesRow.holds Tryd.pinned (OpenSpec.ofChange pressLinesSpec)

/-- ITS FALSE NEIGHBOUR: 'it returns false'. Refute it at one input. -/
def pressLinesWrong : ChangeSpec := { name := "pressLines", fn := fun _ => fun
  | [d1, d2] => { results := [.lit (.bool false)], args := [d1, d2] }
  | _ => none }
def PressLinesWrongFalsely : Prop := pressLinesRow.holds Tryd.pinned (OpenSpec.ofChange pressLinesWrong)

/- THE SECOND FORM. 'bulk': how many values and letters a reading holds, each counted each time it is reached (what is shared counts as often as it is met; a slice's spare places count too). A statement '..UptoSaid' is the law's where the arguments, and the package variables that the reading takes, are together of bulk at most 1048576: NARROWER than '..Said'. Prove '..Said' where nothing that the law and all that it calls make is longer than what came in: it says more and counts as full. Else prove '..UptoSaid'. A law counts once. -/
mutual
def uptoBulk {H : Type} : DataW H → Nat
  | .lit (.string bytes) => bytes.length + 1
  | .lit _ => 1
  | .nil => 1
  | .ptr d => uptoBulk d + 1
  | .slice elems spare => uptoBulkAll elems + uptoBulkAll spare + 1
  | .agg parts => uptoBulkAll parts + 1
  | .iface _ d => uptoBulk d + 1
  | .map entries => uptoBulkEntries entries + 1
  | .held _ => 1
def uptoBulkAll {H : Type} : List (DataW H) → Nat
  | [] => 0
  | d :: r => uptoBulk d + uptoBulkAll r
def uptoBulkEntries {H : Type} : List (Lit × DataW H) → Nat
  | [] => 0
  | x :: r => uptoBulkEntry x + uptoBulkEntries r
def uptoBulkEntry {H : Type} : Lit × DataW H → Nat
  | (.string bytes, d) => bytes.length + uptoBulk d + 1
  | (_, d) => uptoBulk d + 1
 end
def uptoSmall : (H : Type) → List (DataW H) → Bool := fun _ ds => decide (uptoBulkAll ds ≤ 1048576)
def OpenSpec.upto (s : _root_.Go.ChangeSpec) : _root_.Go.OpenSpec := { _root_.Go.OpenSpec.ofChange s with cond := some uptoSmall }

/-- 'gridwrightlaw57.PressCheckSpec', WHERE WHAT IT READS IS OF BULK AT MOST 1048576: true; the input reads as it did. -/
def pressCheckSpecUptoRow : OpenClaim := { program := "ytekbplnmbbmhdaadoor", sum := "f65695679e7d11a9c90d3f07886297185c3475c506011a167094751d94e05b43", func := "gridwright/gridwrightlaw57.PressCheckSpec", spec := "pressCheckSpec", unfollowed := true, recurses := true, named := ["internal/strconv.uint64pow10", "math/bits.deBruijn32tab", "math/bits.deBruijn64tab"], apart := false, laid := [("math/bits.deBruijn32tab", laid_math_bits_deBruijn32tab), ("math/bits.deBruijn64tab", laid_math_bits_deBruijn64tab), ("internal/strconv.uint64pow10", laid_internal_strconv_uint64pow10)], narrowed := true }
def PressCheckSpecUptoSaid : Prop := pressCheckSpecUptoRow.holds Tryd.pinned (OpenSpec.upto pressCheckSpecSpec)

/-- 'gridwrightlaw57.PressLayoutSpec', WHERE WHAT IT READS IS OF BULK AT MOST 1048576: true; the input reads as it did. -/
def pressLayoutSpecUptoRow : OpenClaim := { program := "ytekbplnmbbmhdaadoor", sum := "f65695679e7d11a9c90d3f07886297185c3475c506011a167094751d94e05b43", func := "gridwright/gridwrightlaw57.PressLayoutSpec", spec := "pressLayoutSpec", unfollowed := true, recurses := true, named := ["internal/strconv.uint64pow10", "math/bits.deBruijn32tab", "math/bits.deBruijn64tab"], apart := false, laid := [("math/bits.deBruijn32tab", laid_math_bits_deBruijn32tab), ("math/bits.deBruijn64tab", laid_math_bits_deBruijn64tab), ("internal/strconv.uint64pow10", laid_internal_strconv_uint64pow10)], narrowed := true }
def PressLayoutSpecUptoSaid : Prop := pressLayoutSpecUptoRow.holds Tryd.pinned (OpenSpec.upto pressLayoutSpecSpec)

/-- 'gridwrightlaw57.PressValidSpec', WHERE WHAT IT READS IS OF BULK AT MOST 1048576: true; the input reads as it did. -/
def pressValidSpecUptoRow : OpenClaim := { program := "ytekbplnmbbmhdaadoor", sum := "f65695679e7d11a9c90d3f07886297185c3475c506011a167094751d94e05b43", func := "gridwright/gridwrightlaw57.PressValidSpec", spec := "pressValidSpec", unfollowed := true, recurses := true, named := ["internal/strconv.uint64pow10", "math/bits.deBruijn32tab", "math/bits.deBruijn64tab"], apart := false, laid := [("math/bits.deBruijn32tab", laid_math_bits_deBruijn32tab), ("math/bits.deBruijn64tab", laid_math_bits_deBruijn64tab), ("internal/strconv.uint64pow10", laid_internal_strconv_uint64pow10)], narrowed := true }
def PressValidSpecUptoSaid : Prop := pressValidSpecUptoRow.holds Tryd.pinned (OpenSpec.upto pressValidSpecSpec)

/-- 'gridwrightlaw57.PressGood', WHERE WHAT IT READS IS OF BULK AT MOST 1048576: true; the input reads as it did. -/
def pressGoodUptoRow : OpenClaim := { program := "ytekbplnmbbmhdaadoor", sum := "f65695679e7d11a9c90d3f07886297185c3475c506011a167094751d94e05b43", func := "gridwright/gridwrightlaw57.PressGood", spec := "pressGood", unfollowed := true, recurses := true, named := ["internal/strconv.uint64pow10", "math/bits.deBruijn32tab", "math/bits.deBruijn64tab"], apart := false, laid := [("math/bits.deBruijn32tab", laid_math_bits_deBruijn32tab), ("math/bits.deBruijn64tab", laid_math_bits_deBruijn64tab), ("internal/strconv.uint64pow10", laid_internal_strconv_uint64pow10)], narrowed := true }
def PressGoodUptoSaid : Prop := pressGoodUptoRow.holds Tryd.pinned (OpenSpec.upto pressGoodSpec)

/-- 'gridwrightlaw57.PressOrder', WHERE WHAT IT READS IS OF BULK AT MOST 1048576: true; the input reads as it did. -/
def pressOrderUptoRow : OpenClaim := { program := "ytekbplnmbbmhdaadoor", sum := "f65695679e7d11a9c90d3f07886297185c3475c506011a167094751d94e05b43", func := "gridwright/gridwrightlaw57.PressOrder", spec := "pressOrder", unfollowed := true, recurses := true, named := ["internal/strconv.uint64pow10", "math/bits.deBruijn32tab", "math/bits.deBruijn64tab"], apart := false, laid := [("math/bits.deBruijn32tab", laid_math_bits_deBruijn32tab), ("math/bits.deBruijn64tab", laid_math_bits_deBruijn64tab), ("internal/strconv.uint64pow10", laid_internal_strconv_uint64pow10)], narrowed := true }
def PressOrderUptoSaid : Prop := pressOrderUptoRow.holds Tryd.pinned (OpenSpec.upto pressOrderSpec)

/-- 'gridwrightlaw57.PressScale', WHERE WHAT IT READS IS OF BULK AT MOST 1048576: true; the input reads as it did. -/
def pressScaleUptoRow : OpenClaim := { program := "ytekbplnmbbmhdaadoor", sum := "f65695679e7d11a9c90d3f07886297185c3475c506011a167094751d94e05b43", func := "gridwright/gridwrightlaw57.PressScale", spec := "pressScale", unfollowed := true, recurses := true, named := ["internal/strconv.uint64pow10", "math/bits.deBruijn32tab", "math/bits.deBruijn64tab"], apart := false, laid := [("math/bits.deBruijn32tab", laid_math_bits_deBruijn32tab), ("math/bits.deBruijn64tab", laid_math_bits_deBruijn64tab), ("internal/strconv.uint64pow10", laid_internal_strconv_uint64pow10)], narrowed := true }
def PressScaleUptoSaid : Prop := pressScaleUptoRow.holds Tryd.pinned (OpenSpec.upto pressScaleSpec)

/-- 'gridwrightlaw57.PressLines', WHERE WHAT IT READS IS OF BULK AT MOST 1048576: true; the input reads as it did. -/
def pressLinesUptoRow : OpenClaim := { program := "ytekbplnmbbmhdaadoor", sum := "f65695679e7d11a9c90d3f07886297185c3475c506011a167094751d94e05b43", func := "gridwright/gridwrightlaw57.PressLines", spec := "pressLines", unfollowed := true, recurses := true, named := ["internal/strconv.uint64pow10", "math/bits.deBruijn32tab", "math/bits.deBruijn64tab"], apart := false, laid := [("math/bits.deBruijn32tab", laid_math_bits_deBruijn32tab), ("math/bits.deBruijn64tab", laid_math_bits_deBruijn64tab), ("internal/strconv.uint64pow10", laid_internal_strconv_uint64pow10)], narrowed := true }
def PressLinesUptoSaid : Prop := pressLinesUptoRow.holds Tryd.pinned (OpenSpec.upto pressLinesSpec)

end Rows
end Go.Proofs.YtekbplnmbbmhdaaDoor
