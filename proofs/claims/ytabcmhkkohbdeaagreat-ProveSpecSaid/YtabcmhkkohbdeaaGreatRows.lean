/-
  No cell of these rows narrows 'for every input' (looked for: loops, veiled, ifaces, maps, wideKeys, modest, calm, conditions, laid).
  DERIVED. THE GIVEN ROWS OF THIS SEAT. 2 by the template 'for every input the law returns true; each argument reads behind the call as it read before'; 0 by the template 'total and deterministic' (their statements: YtabcmhkkohbdeaaGreatTotals.lean).
  GIVEN WITH THE SEED: the statements are not yours to turn. If you find one false, say at which input.
  Laid BY PROGRAM, IN A SANDBOX (cutbox-rows.mjs): the forced cells as the released guide's own fill.sh prints them over the translation 00c92fd9befd80b2… (all of the seat's roots in one cut). By AI agents, Wed Nov 11 2026. No macro, syntax, notation, axiom, sorry.
-/
import Derived.Test.YtabcmhkkohbdeaaGreatChecked
import GoSem.Claim
import GoSem.ClaimJoined
import GoSem.ClaimMapViews
import Derived.JoinedTies
import Derived.KernelRfl
namespace Go.Proofs.YtabcmhkkohbdeaaGreat
/- THE CELL 'sum', in the pinned program and in every row, IS THE sha256 OF THE DUMP (.gsa) THAT YtabcmhkkohbdeaaGreatProg.lean LOADS. Nothing in Lean hashes anything: it is a label: what it is worth is what the hold of that sum in a sandbox is worth. -/
noncomputable def Tryz.pinned : Pinned := { name := "ytabcmhkkohbdeaagreat", sum := "00c92fd9befd80b21dbfad2777f9f7626db9f2f338ff24dda678f9c6cbf06bb8", checked := Tryz.checked }
namespace Rows
def none {H : Type} : Left H := { results := [], args := [] }

/-- 'gridwrightlaw32.ProveSpec': WHATEVER THE INPUT: true; the input reads as it did. -/
def proveSpecSpec : ChangeSpec := { name := "proveSpec", fn := fun _ => fun
  | [d1, d2] => { results := [.lit (.bool true)], args := [d1, d2] }
  | _ => none }
def proveSpecRow : OpenClaim := { program := "ytabcmhkkohbdeaagreat", sum := "00c92fd9befd80b21dbfad2777f9f7626db9f2f338ff24dda678f9c6cbf06bb8", func := "gridwright/gridwrightlaw32.ProveSpec", spec := "proveSpec", inPlace := ["internal/bytealg.IndexByteString"], unfollowed := true, recurses := true, plainKeys := false, apart := false }
def ProveSpecSaid : Prop := proveSpecRow.holds Tryz.pinned (OpenSpec.ofChange proveSpecSpec)

/-- ITS FALSE NEIGHBOUR: 'it returns false'. Refute it at one input. -/
def proveSpecWrong : ChangeSpec := { name := "proveSpec", fn := fun _ => fun
  | [d1, d2] => { results := [.lit (.bool false)], args := [d1, d2] }
  | _ => none }
def ProveSpecWrongFalsely : Prop := proveSpecRow.holds Tryz.pinned (OpenSpec.ofChange proveSpecWrong)

/-- 'gridwrightlaw32.ProveAdmitSpec': WHATEVER THE INPUT: true; the input reads as it did. -/
def proveAdmitSpecSpec : ChangeSpec := { name := "proveAdmitSpec", fn := fun _ => fun
  | [d1, d2, d3, d4] => { results := [.lit (.bool true)], args := [d1, d2, d3, d4] }
  | _ => none }
def proveAdmitSpecRow : OpenClaim := { program := "ytabcmhkkohbdeaagreat", sum := "00c92fd9befd80b21dbfad2777f9f7626db9f2f338ff24dda678f9c6cbf06bb8", func := "gridwright/gridwrightlaw32.ProveAdmitSpec", spec := "proveAdmitSpec", inPlace := ["internal/bytealg.IndexByteString"], unfollowed := true, recurses := true, plainKeys := false, apart := false }
def ProveAdmitSpecSaid : Prop := proveAdmitSpecRow.holds Tryz.pinned (OpenSpec.ofChange proveAdmitSpecSpec)

/-- ITS FALSE NEIGHBOUR: 'it returns false'. Refute it at one input. -/
def proveAdmitSpecWrong : ChangeSpec := { name := "proveAdmitSpec", fn := fun _ => fun
  | [d1, d2, d3, d4] => { results := [.lit (.bool false)], args := [d1, d2, d3, d4] }
  | _ => none }
def ProveAdmitSpecWrongFalsely : Prop := proveAdmitSpecRow.holds Tryz.pinned (OpenSpec.ofChange proveAdmitSpecWrong)

/- THE SECOND FORM. 'bulk': how many values and letters a reading holds, each counted each time it is reached (what is shared counts as often as it is met; a slice's spare places count too). A statement '..UptoSaid' is the law's where the arguments, and the package variables that the reading takes, are together of bulk at most 1048576: NARROWER than '..Said'. Prove '..Said' where nothing that the law and all that it calls make is longer than what came in: it says more and counts as full. Else prove '..UptoSaid'. A law counts once. -/
mutual
def uptoBulk {H : Type} : DataW H → Nat
  | .lit (.string bytes) => bytes.length + 1
  | .lit _ => 1
  | .nil => 1
  | .ptr d => uptoBulk d + 1
  | .slice elems spare => uptoBulkAll elems + uptoBulkAll spare + 1
  | .agg parts => uptoBulkAll parts + 1
  | .iface _ d => uptoBulk d + 1
  | .map entries => uptoBulkEntries entries + 1
  | .held _ => 1
def uptoBulkAll {H : Type} : List (DataW H) → Nat
  | [] => 0
  | d :: r => uptoBulk d + uptoBulkAll r
def uptoBulkEntries {H : Type} : List (Lit × DataW H) → Nat
  | [] => 0
  | x :: r => uptoBulkEntry x + uptoBulkEntries r
def uptoBulkEntry {H : Type} : Lit × DataW H → Nat
  | (.string bytes, d) => bytes.length + uptoBulk d + 1
  | (_, d) => uptoBulk d + 1
 end
def uptoSmall : (H : Type) → List (DataW H) → Bool := fun _ ds => decide (uptoBulkAll ds ≤ 1048576)
def OpenSpec.upto (s : _root_.Go.ChangeSpec) : _root_.Go.OpenSpec := { _root_.Go.OpenSpec.ofChange s with cond := some uptoSmall }

/-- 'gridwrightlaw32.ProveSpec', WHERE WHAT IT READS IS OF BULK AT MOST 1048576: true; the input reads as it did. -/
def proveSpecUptoRow : OpenClaim := { program := "ytabcmhkkohbdeaagreat", sum := "00c92fd9befd80b21dbfad2777f9f7626db9f2f338ff24dda678f9c6cbf06bb8", func := "gridwright/gridwrightlaw32.ProveSpec", spec := "proveSpec", inPlace := ["internal/bytealg.IndexByteString"], unfollowed := true, recurses := true, plainKeys := false, apart := false, narrowed := true }
def ProveSpecUptoSaid : Prop := proveSpecUptoRow.holds Tryz.pinned (OpenSpec.upto proveSpecSpec)

/-- 'gridwrightlaw32.ProveAdmitSpec', WHERE WHAT IT READS IS OF BULK AT MOST 1048576: true; the input reads as it did. -/
def proveAdmitSpecUptoRow : OpenClaim := { program := "ytabcmhkkohbdeaagreat", sum := "00c92fd9befd80b21dbfad2777f9f7626db9f2f338ff24dda678f9c6cbf06bb8", func := "gridwright/gridwrightlaw32.ProveAdmitSpec", spec := "proveAdmitSpec", inPlace := ["internal/bytealg.IndexByteString"], unfollowed := true, recurses := true, plainKeys := false, apart := false, narrowed := true }
def ProveAdmitSpecUptoSaid : Prop := proveAdmitSpecUptoRow.holds Tryz.pinned (OpenSpec.upto proveAdmitSpecSpec)

end Rows
end Go.Proofs.YtabcmhkkohbdeaaGreat
