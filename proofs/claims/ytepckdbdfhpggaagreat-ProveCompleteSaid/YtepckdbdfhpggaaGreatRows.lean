/-
  No cell of these rows narrows 'for every input' (looked for: loops, veiled, ifaces, maps, wideKeys, modest, calm, conditions, laid).
  DERIVED. THE GIVEN ROWS OF THIS SEAT. 6 by the template 'for every input the law returns true; each argument reads behind the call as it read before'; 0 by the template 'total and deterministic' (their statements: YtepckdbdfhpggaaGreatTotals.lean).
  GIVEN WITH THE SEED: the statements are not yours to turn. If you find one false, say at which input.
  Laid BY PROGRAM, IN A SANDBOX (cutbox-rows.mjs): the forced cells as the released guide's own fill.sh prints them over the translation eadf2135971c9be4… (all of the seat's roots in one cut). By AI agents, Wed Nov 11 2026. No macro, syntax, notation, axiom, sorry.
-/
import Derived.Test.YtepckdbdfhpggaaGreatChecked
import GoSem.Claim
import GoSem.ClaimJoined
import GoSem.ClaimMapViews
import Derived.JoinedTies
import Derived.KernelRfl
namespace Go.Proofs.YtepckdbdfhpggaaGreat
/- THE CELL 'sum', in the pinned program and in every row, IS THE sha256 OF THE DUMP (.gsa) THAT YtepckdbdfhpggaaGreatProg.lean LOADS. Nothing in Lean hashes anything: it is a label: what it is worth is what the hold of that sum in a sandbox is worth. -/
noncomputable def Tryz.pinned : Pinned := { name := "ytepckdbdfhpggaagreat", sum := "eadf2135971c9be49ec8ce0a667a0e261985a0fc16dd0d6cdbc858fff5b7796e", checked := Tryz.checked }
namespace Rows
def none {H : Type} : Left H := { results := [], args := [] }

/-- 'gridwrightlaw32.ProveSpec': WHATEVER THE INPUT: true; the input reads as it did. -/
def proveSpecSpec : ChangeSpec := { name := "proveSpec", fn := fun _ => fun
  | [d1, d2] => { results := [.lit (.bool true)], args := [d1, d2] }
  | _ => none }
def proveSpecRow : OpenClaim := { program := "ytepckdbdfhpggaagreat", sum := "eadf2135971c9be49ec8ce0a667a0e261985a0fc16dd0d6cdbc858fff5b7796e", func := "gridwright/gridwrightlaw32.ProveSpec", spec := "proveSpec", inPlace := ["internal/bytealg.IndexByteString"], unfollowed := true, recurses := true, plainKeys := false, apart := false }
def ProveSpecSaid : Prop := proveSpecRow.holds Tryz.pinned (OpenSpec.ofChange proveSpecSpec)

/-- ITS FALSE NEIGHBOUR: 'it returns false'. Refute it at one input. -/
def proveSpecWrong : ChangeSpec := { name := "proveSpec", fn := fun _ => fun
  | [d1, d2] => { results := [.lit (.bool false)], args := [d1, d2] }
  | _ => none }
def ProveSpecWrongFalsely : Prop := proveSpecRow.holds Tryz.pinned (OpenSpec.ofChange proveSpecWrong)

/-- 'gridwrightlaw32.ProveAdmitSpec': WHATEVER THE INPUT: true; the input reads as it did. -/
def proveAdmitSpecSpec : ChangeSpec := { name := "proveAdmitSpec", fn := fun _ => fun
  | [d1, d2, d3, d4] => { results := [.lit (.bool true)], args := [d1, d2, d3, d4] }
  | _ => none }
def proveAdmitSpecRow : OpenClaim := { program := "ytepckdbdfhpggaagreat", sum := "eadf2135971c9be49ec8ce0a667a0e261985a0fc16dd0d6cdbc858fff5b7796e", func := "gridwright/gridwrightlaw32.ProveAdmitSpec", spec := "proveAdmitSpec", inPlace := ["internal/bytealg.IndexByteString"], unfollowed := true, recurses := true, plainKeys := false, apart := false }
def ProveAdmitSpecSaid : Prop := proveAdmitSpecRow.holds Tryz.pinned (OpenSpec.ofChange proveAdmitSpecSpec)

/-- ITS FALSE NEIGHBOUR: 'it returns false'. Refute it at one input. -/
def proveAdmitSpecWrong : ChangeSpec := { name := "proveAdmitSpec", fn := fun _ => fun
  | [d1, d2, d3, d4] => { results := [.lit (.bool false)], args := [d1, d2, d3, d4] }
  | _ => none }
def ProveAdmitSpecWrongFalsely : Prop := proveAdmitSpecRow.holds Tryz.pinned (OpenSpec.ofChange proveAdmitSpecWrong)

/-- 'gridwrightlaw32.ProveCounter': WHATEVER THE INPUT: true; the input reads as it did. -/
def proveCounterSpec : ChangeSpec := { name := "proveCounter", fn := fun _ => fun
  | [d1, d2] => { results := [.lit (.bool true)], args := [d1, d2] }
  | _ => none }
def proveCounterRow : OpenClaim := { program := "ytepckdbdfhpggaagreat", sum := "eadf2135971c9be49ec8ce0a667a0e261985a0fc16dd0d6cdbc858fff5b7796e", func := "gridwright/gridwrightlaw32.ProveCounter", spec := "proveCounter", inPlace := ["internal/bytealg.IndexByteString"], unfollowed := true, recurses := true, plainKeys := false, apart := false }
def ProveCounterSaid : Prop := proveCounterRow.holds Tryz.pinned (OpenSpec.ofChange proveCounterSpec)

/-- ITS FALSE NEIGHBOUR: 'it returns false'. Refute it at one input. -/
def proveCounterWrong : ChangeSpec := { name := "proveCounter", fn := fun _ => fun
  | [d1, d2] => { results := [.lit (.bool false)], args := [d1, d2] }
  | _ => none }
def ProveCounterWrongFalsely : Prop := proveCounterRow.holds Tryz.pinned (OpenSpec.ofChange proveCounterWrong)

/-- 'gridwrightlaw32.ProveMore': WHATEVER THE INPUT: true; the input reads as it did. -/
def proveMoreSpec : ChangeSpec := { name := "proveMore", fn := fun _ => fun
  | [d1, d2, d3, d4] => { results := [.lit (.bool true)], args := [d1, d2, d3, d4] }
  | _ => none }
def proveMoreRow : OpenClaim := { program := "ytepckdbdfhpggaagreat", sum := "eadf2135971c9be49ec8ce0a667a0e261985a0fc16dd0d6cdbc858fff5b7796e", func := "gridwright/gridwrightlaw32.ProveMore", spec := "proveMore", inPlace := ["internal/bytealg.IndexByteString"], unfollowed := true, recurses := true, plainKeys := false, apart := false }
def ProveMoreSaid : Prop := proveMoreRow.holds Tryz.pinned (OpenSpec.ofChange proveMoreSpec)

/-- ITS FALSE NEIGHBOUR: 'it returns false'. Refute it at one input. -/
def proveMoreWrong : ChangeSpec := { name := "proveMore", fn := fun _ => fun
  | [d1, d2, d3, d4] => { results := [.lit (.bool false)], args := [d1, d2, d3, d4] }
  | _ => none }
def ProveMoreWrongFalsely : Prop := proveMoreRow.holds Tryz.pinned (OpenSpec.ofChange proveMoreWrong)

/-- 'gridwrightlaw32.ProveLibrary': WHATEVER THE INPUT: true; the input reads as it did. -/
def proveLibrarySpec : ChangeSpec := { name := "proveLibrary", fn := fun _ => fun
  | [d1, d2, d3, d4] => { results := [.lit (.bool true)], args := [d1, d2, d3, d4] }
  | _ => none }
def proveLibraryRow : OpenClaim := { program := "ytepckdbdfhpggaagreat", sum := "eadf2135971c9be49ec8ce0a667a0e261985a0fc16dd0d6cdbc858fff5b7796e", func := "gridwright/gridwrightlaw32.ProveLibrary", spec := "proveLibrary", inPlace := ["internal/bytealg.IndexByteString"], unfollowed := true, recurses := true, plainKeys := false, apart := false }
def ProveLibrarySaid : Prop := proveLibraryRow.holds Tryz.pinned (OpenSpec.ofChange proveLibrarySpec)

/-- ITS FALSE NEIGHBOUR: 'it returns false'. Refute it at one input. -/
def proveLibraryWrong : ChangeSpec := { name := "proveLibrary", fn := fun _ => fun
  | [d1, d2, d3, d4] => { results := [.lit (.bool false)], args := [d1, d2, d3, d4] }
  | _ => none }
def ProveLibraryWrongFalsely : Prop := proveLibraryRow.holds Tryz.pinned (OpenSpec.ofChange proveLibraryWrong)

/-- 'gridwrightlaw32.ProveComplete': WHATEVER THE INPUT: true; the input reads as it did. -/
def proveCompleteSpec : ChangeSpec := { name := "proveComplete", fn := fun _ => fun
  | [d1, d2] => { results := [.lit (.bool true)], args := [d1, d2] }
  | _ => none }
def proveCompleteRow : OpenClaim := { program := "ytepckdbdfhpggaagreat", sum := "eadf2135971c9be49ec8ce0a667a0e261985a0fc16dd0d6cdbc858fff5b7796e", func := "gridwright/gridwrightlaw32.ProveComplete", spec := "proveComplete", inPlace := ["internal/bytealg.IndexByteString"], unfollowed := true, recurses := true, plainKeys := false, apart := false }
def ProveCompleteSaid : Prop := proveCompleteRow.holds Tryz.pinned (OpenSpec.ofChange proveCompleteSpec)

/-- ITS FALSE NEIGHBOUR: 'it returns false'. Refute it at one input. -/
def proveCompleteWrong : ChangeSpec := { name := "proveComplete", fn := fun _ => fun
  | [d1, d2] => { results := [.lit (.bool false)], args := [d1, d2] }
  | _ => none }
def ProveCompleteWrongFalsely : Prop := proveCompleteRow.holds Tryz.pinned (OpenSpec.ofChange proveCompleteWrong)

/- THE SECOND FORM. 'bulk': how many values and letters a reading holds, each counted each time it is reached (what is shared counts as often as it is met; a slice's spare places count too). A statement '..UptoSaid' is the law's where the arguments, and the package variables that the reading takes, are together of bulk at most 1048576: NARROWER than '..Said'. Prove '..Said' where nothing that the law and all that it calls make is longer than what came in: it says more and counts as full. Else prove '..UptoSaid'. A law counts once. -/
mutual
def uptoBulk {H : Type} : DataW H → Nat
  | .lit (.string bytes) => bytes.length + 1
  | .lit _ => 1
  | .nil => 1
  | .ptr d => uptoBulk d + 1
  | .slice elems spare => uptoBulkAll elems + uptoBulkAll spare + 1
  | .agg parts => uptoBulkAll parts + 1
  | .iface _ d => uptoBulk d + 1
  | .map entries => uptoBulkEntries entries + 1
  | .held _ => 1
def uptoBulkAll {H : Type} : List (DataW H) → Nat
  | [] => 0
  | d :: r => uptoBulk d + uptoBulkAll r
def uptoBulkEntries {H : Type} : List (Lit × DataW H) → Nat
  | [] => 0
  | x :: r => uptoBulkEntry x + uptoBulkEntries r
def uptoBulkEntry {H : Type} : Lit × DataW H → Nat
  | (.string bytes, d) => bytes.length + uptoBulk d + 1
  | (_, d) => uptoBulk d + 1
 end
def uptoSmall : (H : Type) → List (DataW H) → Bool := fun _ ds => decide (uptoBulkAll ds ≤ 1048576)
def OpenSpec.upto (s : _root_.Go.ChangeSpec) : _root_.Go.OpenSpec := { _root_.Go.OpenSpec.ofChange s with cond := some uptoSmall }

/-- 'gridwrightlaw32.ProveSpec', WHERE WHAT IT READS IS OF BULK AT MOST 1048576: true; the input reads as it did. -/
def proveSpecUptoRow : OpenClaim := { program := "ytepckdbdfhpggaagreat", sum := "eadf2135971c9be49ec8ce0a667a0e261985a0fc16dd0d6cdbc858fff5b7796e", func := "gridwright/gridwrightlaw32.ProveSpec", spec := "proveSpec", inPlace := ["internal/bytealg.IndexByteString"], unfollowed := true, recurses := true, plainKeys := false, apart := false, narrowed := true }
def ProveSpecUptoSaid : Prop := proveSpecUptoRow.holds Tryz.pinned (OpenSpec.upto proveSpecSpec)

/-- 'gridwrightlaw32.ProveAdmitSpec', WHERE WHAT IT READS IS OF BULK AT MOST 1048576: true; the input reads as it did. -/
def proveAdmitSpecUptoRow : OpenClaim := { program := "ytepckdbdfhpggaagreat", sum := "eadf2135971c9be49ec8ce0a667a0e261985a0fc16dd0d6cdbc858fff5b7796e", func := "gridwright/gridwrightlaw32.ProveAdmitSpec", spec := "proveAdmitSpec", inPlace := ["internal/bytealg.IndexByteString"], unfollowed := true, recurses := true, plainKeys := false, apart := false, narrowed := true }
def ProveAdmitSpecUptoSaid : Prop := proveAdmitSpecUptoRow.holds Tryz.pinned (OpenSpec.upto proveAdmitSpecSpec)

/-- 'gridwrightlaw32.ProveCounter', WHERE WHAT IT READS IS OF BULK AT MOST 1048576: true; the input reads as it did. -/
def proveCounterUptoRow : OpenClaim := { program := "ytepckdbdfhpggaagreat", sum := "eadf2135971c9be49ec8ce0a667a0e261985a0fc16dd0d6cdbc858fff5b7796e", func := "gridwright/gridwrightlaw32.ProveCounter", spec := "proveCounter", inPlace := ["internal/bytealg.IndexByteString"], unfollowed := true, recurses := true, plainKeys := false, apart := false, narrowed := true }
def ProveCounterUptoSaid : Prop := proveCounterUptoRow.holds Tryz.pinned (OpenSpec.upto proveCounterSpec)

/-- 'gridwrightlaw32.ProveMore', WHERE WHAT IT READS IS OF BULK AT MOST 1048576: true; the input reads as it did. -/
def proveMoreUptoRow : OpenClaim := { program := "ytepckdbdfhpggaagreat", sum := "eadf2135971c9be49ec8ce0a667a0e261985a0fc16dd0d6cdbc858fff5b7796e", func := "gridwright/gridwrightlaw32.ProveMore", spec := "proveMore", inPlace := ["internal/bytealg.IndexByteString"], unfollowed := true, recurses := true, plainKeys := false, apart := false, narrowed := true }
def ProveMoreUptoSaid : Prop := proveMoreUptoRow.holds Tryz.pinned (OpenSpec.upto proveMoreSpec)

/-- 'gridwrightlaw32.ProveLibrary', WHERE WHAT IT READS IS OF BULK AT MOST 1048576: true; the input reads as it did. -/
def proveLibraryUptoRow : OpenClaim := { program := "ytepckdbdfhpggaagreat", sum := "eadf2135971c9be49ec8ce0a667a0e261985a0fc16dd0d6cdbc858fff5b7796e", func := "gridwright/gridwrightlaw32.ProveLibrary", spec := "proveLibrary", inPlace := ["internal/bytealg.IndexByteString"], unfollowed := true, recurses := true, plainKeys := false, apart := false, narrowed := true }
def ProveLibraryUptoSaid : Prop := proveLibraryUptoRow.holds Tryz.pinned (OpenSpec.upto proveLibrarySpec)

/-- 'gridwrightlaw32.ProveComplete', WHERE WHAT IT READS IS OF BULK AT MOST 1048576: true; the input reads as it did. -/
def proveCompleteUptoRow : OpenClaim := { program := "ytepckdbdfhpggaagreat", sum := "eadf2135971c9be49ec8ce0a667a0e261985a0fc16dd0d6cdbc858fff5b7796e", func := "gridwright/gridwrightlaw32.ProveComplete", spec := "proveComplete", inPlace := ["internal/bytealg.IndexByteString"], unfollowed := true, recurses := true, plainKeys := false, apart := false, narrowed := true }
def ProveCompleteUptoSaid : Prop := proveCompleteUptoRow.holds Tryz.pinned (OpenSpec.upto proveCompleteSpec)

end Rows
end Go.Proofs.YtepckdbdfhpggaaGreat
