/-
  No cell of these rows narrows 'for every input' (looked for: loops, veiled, ifaces, maps, wideKeys, modest, calm, conditions, laid).
  DERIVED. THE GIVEN ROWS OF THIS SEAT. 3 by the template 'for every input the law returns true; each argument reads behind the call as it read before'; 0 by the template 'total and deterministic' (their statements: YtmlolnaannoifaaTotals.lean).
  GIVEN WITH THE SEED: the statements are not yours to turn. If you find one false, say at which input.
  Laid BY PROGRAM, IN A SANDBOX (cutbox-rows.mjs): the forced cells as the released guide's own fill.sh prints them over the translation 18755162b61ef488… (all of the seat's roots in one cut). By AI agents, Wed Nov 11 2026. No macro, syntax, notation, axiom, sorry.
-/
import Derived.Test.YtmlolnaannoifaaChecked
import GoSem.Claim
import GoSem.ClaimJoined
import GoSem.ClaimMapViews
import Derived.JoinedTies
import Derived.KernelRfl
namespace Go.Proofs.Ytmlolnaannoifaa
/- THE CELL 'sum', in the pinned program and in every row, IS THE sha256 OF THE DUMP (.gsa) THAT YtmlolnaannoifaaProg.lean LOADS. Nothing in Lean hashes anything: it is a label: what it is worth is what the hold of that sum in a sandbox is worth. -/
noncomputable def Try.pinned : Pinned := { name := "ytmlolnaannoifaa", sum := "18755162b61ef488b3a48d0b1a6e8f9f83c8087daca66c63922c250b1003e0ff", checked := Try.checked }
namespace Rows
def none {H : Type} : Left H := { results := [], args := [] }

/-- 'laws.FnScenesMoved': WHATEVER THE INPUT: true; the input reads as it did. -/
def fnScenesMovedSpec : ChangeSpec := { name := "fnScenesMoved", fn := fun _ => fun
  | [d1, d2] => { results := [.lit (.bool true)], args := [d1, d2] }
  | _ => none }
def fnScenesMovedRow : OpenClaim := { program := "ytmlolnaannoifaa", sum := "18755162b61ef488b3a48d0b1a6e8f9f83c8087daca66c63922c250b1003e0ff", func := "loop.example/g01193/laws.FnScenesMoved", spec := "fnScenesMoved", inPlace := ["math.sqrt", "math.Float64frombits", "math.Float64bits", "math.archTrunc", "math.RoundToEven", "math.Float32bits"], unfollowed := true, recurses := true, apart := false }
def FnScenesMovedSaid : Prop := fnScenesMovedRow.holds Try.pinned (OpenSpec.ofChange fnScenesMovedSpec)

/-- ITS FALSE NEIGHBOUR: 'it returns false'. Refute it at one input. -/
def fnScenesMovedWrong : ChangeSpec := { name := "fnScenesMoved", fn := fun _ => fun
  | [d1, d2] => { results := [.lit (.bool false)], args := [d1, d2] }
  | _ => none }
def FnScenesMovedWrongFalsely : Prop := fnScenesMovedRow.holds Try.pinned (OpenSpec.ofChange fnScenesMovedWrong)

/-- 'laws.FnSurface': WHATEVER THE INPUT: true; the input reads as it did. -/
def fnSurfaceSpec : ChangeSpec := { name := "fnSurface", fn := fun _ => fun
  | [d1, d2] => { results := [.lit (.bool true)], args := [d1, d2] }
  | _ => none }
def fnSurfaceRow : OpenClaim := { program := "ytmlolnaannoifaa", sum := "18755162b61ef488b3a48d0b1a6e8f9f83c8087daca66c63922c250b1003e0ff", func := "loop.example/g01193/laws.FnSurface", spec := "fnSurface", inPlace := ["math.Float64frombits", "math.Float64bits", "math.archTrunc", "math.RoundToEven", "math.sqrt"], unfollowed := true, recurses := true, apart := false }
def FnSurfaceSaid : Prop := fnSurfaceRow.holds Try.pinned (OpenSpec.ofChange fnSurfaceSpec)

/-- ITS FALSE NEIGHBOUR: 'it returns false'. Refute it at one input. -/
def fnSurfaceWrong : ChangeSpec := { name := "fnSurface", fn := fun _ => fun
  | [d1, d2] => { results := [.lit (.bool false)], args := [d1, d2] }
  | _ => none }
def FnSurfaceWrongFalsely : Prop := fnSurfaceRow.holds Try.pinned (OpenSpec.ofChange fnSurfaceWrong)

/-- 'laws.FnExactLoadScene': WHATEVER THE INPUT: true; the input reads as it did. -/
def fnExactLoadSceneSpec : ChangeSpec := { name := "fnExactLoadScene", fn := fun _ => fun
  | [d] => { results := [.lit (.bool true)], args := [d] }
  | _ => none }
def fnExactLoadSceneRow : OpenClaim := { program := "ytmlolnaannoifaa", sum := "18755162b61ef488b3a48d0b1a6e8f9f83c8087daca66c63922c250b1003e0ff", func := "loop.example/g01193/laws.FnExactLoadScene", spec := "fnExactLoadScene", inPlace := ["math.Float32frombits", "math.Float32bits", "internal/abi.NoEscape"], unfollowed := true, recurses := true, apart := false }
def FnExactLoadSceneSaid : Prop := fnExactLoadSceneRow.holds Try.pinned (OpenSpec.ofChange fnExactLoadSceneSpec)

/-- ITS FALSE NEIGHBOUR: 'it returns false'. Refute it at one input. -/
def fnExactLoadSceneWrong : ChangeSpec := { name := "fnExactLoadScene", fn := fun _ => fun
  | [d] => { results := [.lit (.bool false)], args := [d] }
  | _ => none }
def FnExactLoadSceneWrongFalsely : Prop := fnExactLoadSceneRow.holds Try.pinned (OpenSpec.ofChange fnExactLoadSceneWrong)

/- THE SECOND FORM. 'bulk': how many values and letters a reading holds, each counted each time it is reached (what is shared counts as often as it is met; a slice's spare places count too). A statement '..UptoSaid' is the law's where the arguments, and the package variables that the reading takes, are together of bulk at most 1048576: NARROWER than '..Said'. Prove '..Said' where nothing that the law and all that it calls make is longer than what came in: it says more and counts as full. Else prove '..UptoSaid'. A law counts once. -/
mutual
def uptoBulk {H : Type} : DataW H → Nat
  | .lit (.string bytes) => bytes.length + 1
  | .lit _ => 1
  | .nil => 1
  | .ptr d => uptoBulk d + 1
  | .slice elems spare => uptoBulkAll elems + uptoBulkAll spare + 1
  | .agg parts => uptoBulkAll parts + 1
  | .iface _ d => uptoBulk d + 1
  | .map entries => uptoBulkEntries entries + 1
  | .held _ => 1
def uptoBulkAll {H : Type} : List (DataW H) → Nat
  | [] => 0
  | d :: r => uptoBulk d + uptoBulkAll r
def uptoBulkEntries {H : Type} : List (Lit × DataW H) → Nat
  | [] => 0
  | x :: r => uptoBulkEntry x + uptoBulkEntries r
def uptoBulkEntry {H : Type} : Lit × DataW H → Nat
  | (.string bytes, d) => bytes.length + uptoBulk d + 1
  | (_, d) => uptoBulk d + 1
 end
def uptoSmall : (H : Type) → List (DataW H) → Bool := fun _ ds => decide (uptoBulkAll ds ≤ 1048576)
def OpenSpec.upto (s : _root_.Go.ChangeSpec) : _root_.Go.OpenSpec := { _root_.Go.OpenSpec.ofChange s with cond := some uptoSmall }

/-- 'laws.FnScenesMoved', WHERE WHAT IT READS IS OF BULK AT MOST 1048576: true; the input reads as it did. -/
def fnScenesMovedUptoRow : OpenClaim := { program := "ytmlolnaannoifaa", sum := "18755162b61ef488b3a48d0b1a6e8f9f83c8087daca66c63922c250b1003e0ff", func := "loop.example/g01193/laws.FnScenesMoved", spec := "fnScenesMoved", inPlace := ["math.sqrt", "math.Float64frombits", "math.Float64bits", "math.archTrunc", "math.RoundToEven", "math.Float32bits"], unfollowed := true, recurses := true, apart := false, narrowed := true }
def FnScenesMovedUptoSaid : Prop := fnScenesMovedUptoRow.holds Try.pinned (OpenSpec.upto fnScenesMovedSpec)

/-- 'laws.FnSurface', WHERE WHAT IT READS IS OF BULK AT MOST 1048576: true; the input reads as it did. -/
def fnSurfaceUptoRow : OpenClaim := { program := "ytmlolnaannoifaa", sum := "18755162b61ef488b3a48d0b1a6e8f9f83c8087daca66c63922c250b1003e0ff", func := "loop.example/g01193/laws.FnSurface", spec := "fnSurface", inPlace := ["math.Float64frombits", "math.Float64bits", "math.archTrunc", "math.RoundToEven", "math.sqrt"], unfollowed := true, recurses := true, apart := false, narrowed := true }
def FnSurfaceUptoSaid : Prop := fnSurfaceUptoRow.holds Try.pinned (OpenSpec.upto fnSurfaceSpec)

/-- 'laws.FnExactLoadScene', WHERE WHAT IT READS IS OF BULK AT MOST 1048576: true; the input reads as it did. -/
def fnExactLoadSceneUptoRow : OpenClaim := { program := "ytmlolnaannoifaa", sum := "18755162b61ef488b3a48d0b1a6e8f9f83c8087daca66c63922c250b1003e0ff", func := "loop.example/g01193/laws.FnExactLoadScene", spec := "fnExactLoadScene", inPlace := ["math.Float32frombits", "math.Float32bits", "internal/abi.NoEscape"], unfollowed := true, recurses := true, apart := false, narrowed := true }
def FnExactLoadSceneUptoSaid : Prop := fnExactLoadSceneUptoRow.holds Try.pinned (OpenSpec.upto fnExactLoadSceneSpec)

end Rows
end Go.Proofs.Ytmlolnaannoifaa
