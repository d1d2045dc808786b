/-
  No cell of these rows narrows 'for every input' (looked for: loops, veiled, ifaces, maps, wideKeys, modest, calm, conditions, laid).
  DERIVED. THE GIVEN ROWS OF THIS SEAT. 5 by the template 'for every input the law returns true; each argument reads behind the call as it read before'; 0 by the template 'total and deterministic' (their statements: YtclpojeofclbjaaTotals.lean).
  GIVEN WITH THE SEED: the statements are not yours to turn. If you find one false, say at which input.
  Laid BY PROGRAM, IN A SANDBOX (cutbox-rows.mjs): the forced cells as the released guide's own fill.sh prints them over the translation 1f8d656d6f48ea5a… (all of the seat's roots in one cut). By AI agents, Wed Nov 11 2026. No macro, syntax, notation, axiom, sorry.
-/
import Derived.Test.YtclpojeofclbjaaChecked
import GoSem.Claim
import GoSem.ClaimJoined
import GoSem.ClaimMapViews
import Derived.JoinedTies
import Derived.KernelRfl
namespace Go.Proofs.Ytclpojeofclbjaa
/- THE CELL 'sum', in the pinned program and in every row, IS THE sha256 OF THE DUMP (.gsa) THAT YtclpojeofclbjaaProg.lean LOADS. Nothing in Lean hashes anything: it is a label: what it is worth is what the hold of that sum in a sandbox is worth. -/
noncomputable def Try.pinned : Pinned := { name := "ytclpojeofclbjaa", sum := "1f8d656d6f48ea5afc1950e9dcb80299fe8e802134574b0a366a6c2b0cc15bbb", checked := Try.checked }
namespace Rows
def none {H : Type} : Left H := { results := [], args := [] }

/-- 'laws.FnExactRunLayer': WHATEVER THE INPUT: true; the input reads as it did. -/
def fnExactRunLayerSpec : ChangeSpec := { name := "fnExactRunLayer", fn := fun _ => fun
  | [d1, d2] => { results := [.lit (.bool true)], args := [d1, d2] }
  | _ => none }
def fnExactRunLayerRow : OpenClaim := { program := "ytclpojeofclbjaa", sum := "1f8d656d6f48ea5afc1950e9dcb80299fe8e802134574b0a366a6c2b0cc15bbb", func := "loop.example/g00778/laws.FnExactRunLayer", spec := "fnExactRunLayer", unfollowed := true, recurses := true, apart := false }
def FnExactRunLayerSaid : Prop := fnExactRunLayerRow.holds Try.pinned (OpenSpec.ofChange fnExactRunLayerSpec)

/-- ITS FALSE NEIGHBOUR: 'it returns false'. Refute it at one input. -/
def fnExactRunLayerWrong : ChangeSpec := { name := "fnExactRunLayer", fn := fun _ => fun
  | [d1, d2] => { results := [.lit (.bool false)], args := [d1, d2] }
  | _ => none }
def FnExactRunLayerWrongFalsely : Prop := fnExactRunLayerRow.holds Try.pinned (OpenSpec.ofChange fnExactRunLayerWrong)

/-- 'laws.FnExactLeftOf': WHATEVER THE INPUT: true; the input reads as it did. -/
def fnExactLeftOfSpec : ChangeSpec := { name := "fnExactLeftOf", fn := fun _ => fun
  | [d] => { results := [.lit (.bool true)], args := [d] }
  | _ => none }
def fnExactLeftOfRow : OpenClaim := { program := "ytclpojeofclbjaa", sum := "1f8d656d6f48ea5afc1950e9dcb80299fe8e802134574b0a366a6c2b0cc15bbb", func := "loop.example/g00778/laws.FnExactLeftOf", spec := "fnExactLeftOf", unfollowed := true, recurses := true, apart := false }
def FnExactLeftOfSaid : Prop := fnExactLeftOfRow.holds Try.pinned (OpenSpec.ofChange fnExactLeftOfSpec)

/-- ITS FALSE NEIGHBOUR: 'it returns false'. Refute it at one input. -/
def fnExactLeftOfWrong : ChangeSpec := { name := "fnExactLeftOf", fn := fun _ => fun
  | [d] => { results := [.lit (.bool false)], args := [d] }
  | _ => none }
def FnExactLeftOfWrongFalsely : Prop := fnExactLeftOfRow.holds Try.pinned (OpenSpec.ofChange fnExactLeftOfWrong)

/-- 'laws.FnLayers': WHATEVER THE INPUT: true; the input reads as it did. -/
def fnLayersSpec : ChangeSpec := { name := "fnLayers", fn := fun _ => fun
  | [d] => { results := [.lit (.bool true)], args := [d] }
  | _ => none }
def fnLayersRow : OpenClaim := { program := "ytclpojeofclbjaa", sum := "1f8d656d6f48ea5afc1950e9dcb80299fe8e802134574b0a366a6c2b0cc15bbb", func := "loop.example/g00778/laws.FnLayers", spec := "fnLayers", unfollowed := true, recurses := true, apart := false }
def FnLayersSaid : Prop := fnLayersRow.holds Try.pinned (OpenSpec.ofChange fnLayersSpec)

/-- ITS FALSE NEIGHBOUR: 'it returns false'. Refute it at one input. -/
def fnLayersWrong : ChangeSpec := { name := "fnLayers", fn := fun _ => fun
  | [d] => { results := [.lit (.bool false)], args := [d] }
  | _ => none }
def FnLayersWrongFalsely : Prop := fnLayersRow.holds Try.pinned (OpenSpec.ofChange fnLayersWrong)

/-- 'laws.FnExactDecodeModel': WHATEVER THE INPUT: true; the input reads as it did. -/
def fnExactDecodeModelSpec : ChangeSpec := { name := "fnExactDecodeModel", fn := fun _ => fun
  | [d] => { results := [.lit (.bool true)], args := [d] }
  | _ => none }
def fnExactDecodeModelRow : OpenClaim := { program := "ytclpojeofclbjaa", sum := "1f8d656d6f48ea5afc1950e9dcb80299fe8e802134574b0a366a6c2b0cc15bbb", func := "loop.example/g00778/laws.FnExactDecodeModel", spec := "fnExactDecodeModel", unfollowed := true, recurses := true, apart := false }
def FnExactDecodeModelSaid : Prop := fnExactDecodeModelRow.holds Try.pinned (OpenSpec.ofChange fnExactDecodeModelSpec)

/-- ITS FALSE NEIGHBOUR: 'it returns false'. Refute it at one input. -/
def fnExactDecodeModelWrong : ChangeSpec := { name := "fnExactDecodeModel", fn := fun _ => fun
  | [d] => { results := [.lit (.bool false)], args := [d] }
  | _ => none }
def FnExactDecodeModelWrongFalsely : Prop := fnExactDecodeModelRow.holds Try.pinned (OpenSpec.ofChange fnExactDecodeModelWrong)

/-- 'laws.FnExactEvalModel': WHATEVER THE INPUT: true; the input reads as it did. -/
def fnExactEvalModelSpec : ChangeSpec := { name := "fnExactEvalModel", fn := fun _ => fun
  | [d1, d2] => { results := [.lit (.bool true)], args := [d1, d2] }
  | _ => none }
def fnExactEvalModelRow : OpenClaim := { program := "ytclpojeofclbjaa", sum := "1f8d656d6f48ea5afc1950e9dcb80299fe8e802134574b0a366a6c2b0cc15bbb", func := "loop.example/g00778/laws.FnExactEvalModel", spec := "fnExactEvalModel", unfollowed := true, recurses := true, apart := false }
def FnExactEvalModelSaid : Prop := fnExactEvalModelRow.holds Try.pinned (OpenSpec.ofChange fnExactEvalModelSpec)

/-- ITS FALSE NEIGHBOUR: 'it returns false'. Refute it at one input. -/
def fnExactEvalModelWrong : ChangeSpec := { name := "fnExactEvalModel", fn := fun _ => fun
  | [d1, d2] => { results := [.lit (.bool false)], args := [d1, d2] }
  | _ => none }
def FnExactEvalModelWrongFalsely : Prop := fnExactEvalModelRow.holds Try.pinned (OpenSpec.ofChange fnExactEvalModelWrong)

/- THE SECOND FORM. 'bulk': how many values and letters a reading holds, each counted each time it is reached (what is shared counts as often as it is met; a slice's spare places count too). A statement '..UptoSaid' is the law's where the arguments, and the package variables that the reading takes, are together of bulk at most 1048576: NARROWER than '..Said'. Prove '..Said' where nothing that the law and all that it calls make is longer than what came in: it says more and counts as full. Else prove '..UptoSaid'. A law counts once. -/
mutual
def uptoBulk {H : Type} : DataW H → Nat
  | .lit (.string bytes) => bytes.length + 1
  | .lit _ => 1
  | .nil => 1
  | .ptr d => uptoBulk d + 1
  | .slice elems spare => uptoBulkAll elems + uptoBulkAll spare + 1
  | .agg parts => uptoBulkAll parts + 1
  | .iface _ d => uptoBulk d + 1
  | .map entries => uptoBulkEntries entries + 1
  | .held _ => 1
def uptoBulkAll {H : Type} : List (DataW H) → Nat
  | [] => 0
  | d :: r => uptoBulk d + uptoBulkAll r
def uptoBulkEntries {H : Type} : List (Lit × DataW H) → Nat
  | [] => 0
  | x :: r => uptoBulkEntry x + uptoBulkEntries r
def uptoBulkEntry {H : Type} : Lit × DataW H → Nat
  | (.string bytes, d) => bytes.length + uptoBulk d + 1
  | (_, d) => uptoBulk d + 1
 end
def uptoSmall : (H : Type) → List (DataW H) → Bool := fun _ ds => decide (uptoBulkAll ds ≤ 1048576)
def OpenSpec.upto (s : _root_.Go.ChangeSpec) : _root_.Go.OpenSpec := { _root_.Go.OpenSpec.ofChange s with cond := some uptoSmall }

/-- 'laws.FnExactRunLayer', WHERE WHAT IT READS IS OF BULK AT MOST 1048576: true; the input reads as it did. -/
def fnExactRunLayerUptoRow : OpenClaim := { program := "ytclpojeofclbjaa", sum := "1f8d656d6f48ea5afc1950e9dcb80299fe8e802134574b0a366a6c2b0cc15bbb", func := "loop.example/g00778/laws.FnExactRunLayer", spec := "fnExactRunLayer", unfollowed := true, recurses := true, apart := false, narrowed := true }
def FnExactRunLayerUptoSaid : Prop := fnExactRunLayerUptoRow.holds Try.pinned (OpenSpec.upto fnExactRunLayerSpec)

/-- 'laws.FnExactLeftOf', WHERE WHAT IT READS IS OF BULK AT MOST 1048576: true; the input reads as it did. -/
def fnExactLeftOfUptoRow : OpenClaim := { program := "ytclpojeofclbjaa", sum := "1f8d656d6f48ea5afc1950e9dcb80299fe8e802134574b0a366a6c2b0cc15bbb", func := "loop.example/g00778/laws.FnExactLeftOf", spec := "fnExactLeftOf", unfollowed := true, recurses := true, apart := false, narrowed := true }
def FnExactLeftOfUptoSaid : Prop := fnExactLeftOfUptoRow.holds Try.pinned (OpenSpec.upto fnExactLeftOfSpec)

/-- 'laws.FnLayers', WHERE WHAT IT READS IS OF BULK AT MOST 1048576: true; the input reads as it did. -/
def fnLayersUptoRow : OpenClaim := { program := "ytclpojeofclbjaa", sum := "1f8d656d6f48ea5afc1950e9dcb80299fe8e802134574b0a366a6c2b0cc15bbb", func := "loop.example/g00778/laws.FnLayers", spec := "fnLayers", unfollowed := true, recurses := true, apart := false, narrowed := true }
def FnLayersUptoSaid : Prop := fnLayersUptoRow.holds Try.pinned (OpenSpec.upto fnLayersSpec)

/-- 'laws.FnExactDecodeModel', WHERE WHAT IT READS IS OF BULK AT MOST 1048576: true; the input reads as it did. -/
def fnExactDecodeModelUptoRow : OpenClaim := { program := "ytclpojeofclbjaa", sum := "1f8d656d6f48ea5afc1950e9dcb80299fe8e802134574b0a366a6c2b0cc15bbb", func := "loop.example/g00778/laws.FnExactDecodeModel", spec := "fnExactDecodeModel", unfollowed := true, recurses := true, apart := false, narrowed := true }
def FnExactDecodeModelUptoSaid : Prop := fnExactDecodeModelUptoRow.holds Try.pinned (OpenSpec.upto fnExactDecodeModelSpec)

/-- 'laws.FnExactEvalModel', WHERE WHAT IT READS IS OF BULK AT MOST 1048576: true; the input reads as it did. -/
def fnExactEvalModelUptoRow : OpenClaim := { program := "ytclpojeofclbjaa", sum := "1f8d656d6f48ea5afc1950e9dcb80299fe8e802134574b0a366a6c2b0cc15bbb", func := "loop.example/g00778/laws.FnExactEvalModel", spec := "fnExactEvalModel", unfollowed := true, recurses := true, apart := false, narrowed := true }
def FnExactEvalModelUptoSaid : Prop := fnExactEvalModelUptoRow.holds Try.pinned (OpenSpec.upto fnExactEvalModelSpec)

end Rows
end Go.Proofs.Ytclpojeofclbjaa
