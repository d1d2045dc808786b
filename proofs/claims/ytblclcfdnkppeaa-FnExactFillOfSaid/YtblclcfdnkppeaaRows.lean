/-
  No cell of these rows narrows 'for every input' (looked for: loops, veiled, ifaces, maps, wideKeys, modest, calm, conditions, laid).
  DERIVED. THE GIVEN ROWS OF THIS SEAT. 9 by the template 'for every input the law returns true; each argument reads behind the call as it read before'; 0 by the template 'total and deterministic' (their statements: YtblclcfdnkppeaaTotals.lean).
  GIVEN WITH THE SEED: the statements are not yours to turn. If you find one false, say at which input.
  Laid BY PROGRAM, IN A SANDBOX (cutbox-rows.mjs): the forced cells as the released guide's own fill.sh prints them over the translation 3ed529797fd9a832… (all of the seat's roots in one cut). By AI agents, Wed Nov 11 2026. No macro, syntax, notation, axiom, sorry.
-/
import Derived.Test.YtblclcfdnkppeaaChecked
import GoSem.Claim
import GoSem.ClaimJoined
import GoSem.ClaimMapViews
import Derived.JoinedTies
import Derived.KernelRfl
namespace Go.Proofs.Ytblclcfdnkppeaa
/- THE CELL 'sum', in the pinned program and in every row, IS THE sha256 OF THE DUMP (.gsa) THAT YtblclcfdnkppeaaProg.lean LOADS. Nothing in Lean hashes anything: it is a label: what it is worth is what the hold of that sum in a sandbox is worth. -/
noncomputable def Try.pinned : Pinned := { name := "ytblclcfdnkppeaa", sum := "3ed529797fd9a83204254b58289ce2d836f0208f45fc3a28f8dde6859f7999b1", checked := Try.checked }
namespace Rows
def none {H : Type} : Left H := { results := [], args := [] }

/-- 'laws.FnExactArgMax': WHATEVER THE INPUT: true; the input reads as it did. -/
def fnExactArgMaxSpec : ChangeSpec := { name := "fnExactArgMax", fn := fun _ => fun
  | [d] => { results := [.lit (.bool true)], args := [d] }
  | _ => none }
def fnExactArgMaxRow : OpenClaim := { program := "ytblclcfdnkppeaa", sum := "3ed529797fd9a83204254b58289ce2d836f0208f45fc3a28f8dde6859f7999b1", func := "loop.example/g00778/laws.FnExactArgMax", spec := "fnExactArgMax", unfollowed := true, recurses := true, apart := false }
def FnExactArgMaxSaid : Prop := fnExactArgMaxRow.holds Try.pinned (OpenSpec.ofChange fnExactArgMaxSpec)

/-- ITS FALSE NEIGHBOUR: 'it returns false'. Refute it at one input. -/
def fnExactArgMaxWrong : ChangeSpec := { name := "fnExactArgMax", fn := fun _ => fun
  | [d] => { results := [.lit (.bool false)], args := [d] }
  | _ => none }
def FnExactArgMaxWrongFalsely : Prop := fnExactArgMaxRow.holds Try.pinned (OpenSpec.ofChange fnExactArgMaxWrong)

/-- 'laws.FnExactFillOf': WHATEVER THE INPUT: true; the input reads as it did. -/
def fnExactFillOfSpec : ChangeSpec := { name := "fnExactFillOf", fn := fun _ => fun
  | [d1, d2] => { results := [.lit (.bool true)], args := [d1, d2] }
  | _ => none }
def fnExactFillOfRow : OpenClaim := { program := "ytblclcfdnkppeaa", sum := "3ed529797fd9a83204254b58289ce2d836f0208f45fc3a28f8dde6859f7999b1", func := "loop.example/g00778/laws.FnExactFillOf", spec := "fnExactFillOf", apart := false }
def FnExactFillOfSaid : Prop := fnExactFillOfRow.holds Try.pinned (OpenSpec.ofChange fnExactFillOfSpec)

/-- ITS FALSE NEIGHBOUR: 'it returns false'. Refute it at one input. -/
def fnExactFillOfWrong : ChangeSpec := { name := "fnExactFillOf", fn := fun _ => fun
  | [d1, d2] => { results := [.lit (.bool false)], args := [d1, d2] }
  | _ => none }
def FnExactFillOfWrongFalsely : Prop := fnExactFillOfRow.holds Try.pinned (OpenSpec.ofChange fnExactFillOfWrong)

/-- 'laws.FnExactSameModel': WHATEVER THE INPUT: true; the input reads as it did. -/
def fnExactSameModelSpec : ChangeSpec := { name := "fnExactSameModel", fn := fun _ => fun
  | [d1, d2] => { results := [.lit (.bool true)], args := [d1, d2] }
  | _ => none }
def fnExactSameModelRow : OpenClaim := { program := "ytblclcfdnkppeaa", sum := "3ed529797fd9a83204254b58289ce2d836f0208f45fc3a28f8dde6859f7999b1", func := "loop.example/g00778/laws.FnExactSameModel", spec := "fnExactSameModel", unfollowed := true, recurses := true, apart := false }
def FnExactSameModelSaid : Prop := fnExactSameModelRow.holds Try.pinned (OpenSpec.ofChange fnExactSameModelSpec)

/-- ITS FALSE NEIGHBOUR: 'it returns false'. Refute it at one input. -/
def fnExactSameModelWrong : ChangeSpec := { name := "fnExactSameModel", fn := fun _ => fun
  | [d1, d2] => { results := [.lit (.bool false)], args := [d1, d2] }
  | _ => none }
def FnExactSameModelWrongFalsely : Prop := fnExactSameModelRow.holds Try.pinned (OpenSpec.ofChange fnExactSameModelWrong)

/-- 'laws.FnExactOutShape': WHATEVER THE INPUT: true; the input reads as it did. -/
def fnExactOutShapeSpec : ChangeSpec := { name := "fnExactOutShape", fn := fun _ => fun
  | [d1, d2] => { results := [.lit (.bool true)], args := [d1, d2] }
  | _ => none }
def fnExactOutShapeRow : OpenClaim := { program := "ytblclcfdnkppeaa", sum := "3ed529797fd9a83204254b58289ce2d836f0208f45fc3a28f8dde6859f7999b1", func := "loop.example/g00778/laws.FnExactOutShape", spec := "fnExactOutShape", unfollowed := true, recurses := true, apart := false }
def FnExactOutShapeSaid : Prop := fnExactOutShapeRow.holds Try.pinned (OpenSpec.ofChange fnExactOutShapeSpec)

/-- ITS FALSE NEIGHBOUR: 'it returns false'. Refute it at one input. -/
def fnExactOutShapeWrong : ChangeSpec := { name := "fnExactOutShape", fn := fun _ => fun
  | [d1, d2] => { results := [.lit (.bool false)], args := [d1, d2] }
  | _ => none }
def FnExactOutShapeWrongFalsely : Prop := fnExactOutShapeRow.holds Try.pinned (OpenSpec.ofChange fnExactOutShapeWrong)

/-- 'laws.FnExactCostOf': WHATEVER THE INPUT: true; the input reads as it did. -/
def fnExactCostOfSpec : ChangeSpec := { name := "fnExactCostOf", fn := fun _ => fun
  | [d1, d2] => { results := [.lit (.bool true)], args := [d1, d2] }
  | _ => none }
def fnExactCostOfRow : OpenClaim := { program := "ytblclcfdnkppeaa", sum := "3ed529797fd9a83204254b58289ce2d836f0208f45fc3a28f8dde6859f7999b1", func := "loop.example/g00778/laws.FnExactCostOf", spec := "fnExactCostOf", unfollowed := true, recurses := true, apart := false }
def FnExactCostOfSaid : Prop := fnExactCostOfRow.holds Try.pinned (OpenSpec.ofChange fnExactCostOfSpec)

/-- ITS FALSE NEIGHBOUR: 'it returns false'. Refute it at one input. -/
def fnExactCostOfWrong : ChangeSpec := { name := "fnExactCostOf", fn := fun _ => fun
  | [d1, d2] => { results := [.lit (.bool false)], args := [d1, d2] }
  | _ => none }
def FnExactCostOfWrongFalsely : Prop := fnExactCostOfRow.holds Try.pinned (OpenSpec.ofChange fnExactCostOfWrong)

/-- 'laws.FnOneWeight': WHATEVER THE INPUT: true; the input reads as it did. -/
def fnOneWeightSpec : ChangeSpec := { name := "fnOneWeight", fn := fun _ => fun
  | [d] => { results := [.lit (.bool true)], args := [d] }
  | _ => none }
def fnOneWeightRow : OpenClaim := { program := "ytblclcfdnkppeaa", sum := "3ed529797fd9a83204254b58289ce2d836f0208f45fc3a28f8dde6859f7999b1", func := "loop.example/g00778/laws.FnOneWeight", spec := "fnOneWeight", unfollowed := true, recurses := true, apart := false }
def FnOneWeightSaid : Prop := fnOneWeightRow.holds Try.pinned (OpenSpec.ofChange fnOneWeightSpec)

/-- ITS FALSE NEIGHBOUR: 'it returns false'. Refute it at one input. -/
def fnOneWeightWrong : ChangeSpec := { name := "fnOneWeight", fn := fun _ => fun
  | [d] => { results := [.lit (.bool false)], args := [d] }
  | _ => none }
def FnOneWeightWrongFalsely : Prop := fnOneWeightRow.holds Try.pinned (OpenSpec.ofChange fnOneWeightWrong)

/-- 'laws.FnExactModelOk': WHATEVER THE INPUT: true; the input reads as it did. -/
def fnExactModelOkSpec : ChangeSpec := { name := "fnExactModelOk", fn := fun _ => fun
  | [d] => { results := [.lit (.bool true)], args := [d] }
  | _ => none }
def fnExactModelOkRow : OpenClaim := { program := "ytblclcfdnkppeaa", sum := "3ed529797fd9a83204254b58289ce2d836f0208f45fc3a28f8dde6859f7999b1", func := "loop.example/g00778/laws.FnExactModelOk", spec := "fnExactModelOk", unfollowed := true, recurses := true, apart := false }
def FnExactModelOkSaid : Prop := fnExactModelOkRow.holds Try.pinned (OpenSpec.ofChange fnExactModelOkSpec)

/-- ITS FALSE NEIGHBOUR: 'it returns false'. Refute it at one input. -/
def fnExactModelOkWrong : ChangeSpec := { name := "fnExactModelOk", fn := fun _ => fun
  | [d] => { results := [.lit (.bool false)], args := [d] }
  | _ => none }
def FnExactModelOkWrongFalsely : Prop := fnExactModelOkRow.holds Try.pinned (OpenSpec.ofChange fnExactModelOkWrong)

/-- 'laws.FnExactMemoryOf': WHATEVER THE INPUT: true; the input reads as it did. -/
def fnExactMemoryOfSpec : ChangeSpec := { name := "fnExactMemoryOf", fn := fun _ => fun
  | [d] => { results := [.lit (.bool true)], args := [d] }
  | _ => none }
def fnExactMemoryOfRow : OpenClaim := { program := "ytblclcfdnkppeaa", sum := "3ed529797fd9a83204254b58289ce2d836f0208f45fc3a28f8dde6859f7999b1", func := "loop.example/g00778/laws.FnExactMemoryOf", spec := "fnExactMemoryOf", unfollowed := true, recurses := true, apart := false }
def FnExactMemoryOfSaid : Prop := fnExactMemoryOfRow.holds Try.pinned (OpenSpec.ofChange fnExactMemoryOfSpec)

/-- ITS FALSE NEIGHBOUR: 'it returns false'. Refute it at one input. -/
def fnExactMemoryOfWrong : ChangeSpec := { name := "fnExactMemoryOf", fn := fun _ => fun
  | [d] => { results := [.lit (.bool false)], args := [d] }
  | _ => none }
def FnExactMemoryOfWrongFalsely : Prop := fnExactMemoryOfRow.holds Try.pinned (OpenSpec.ofChange fnExactMemoryOfWrong)

/-- 'laws.FnExactTotalCost': WHATEVER THE INPUT: true; the input reads as it did. -/
def fnExactTotalCostSpec : ChangeSpec := { name := "fnExactTotalCost", fn := fun _ => fun
  | [d] => { results := [.lit (.bool true)], args := [d] }
  | _ => none }
def fnExactTotalCostRow : OpenClaim := { program := "ytblclcfdnkppeaa", sum := "3ed529797fd9a83204254b58289ce2d836f0208f45fc3a28f8dde6859f7999b1", func := "loop.example/g00778/laws.FnExactTotalCost", spec := "fnExactTotalCost", unfollowed := true, recurses := true, apart := false }
def FnExactTotalCostSaid : Prop := fnExactTotalCostRow.holds Try.pinned (OpenSpec.ofChange fnExactTotalCostSpec)

/-- ITS FALSE NEIGHBOUR: 'it returns false'. Refute it at one input. -/
def fnExactTotalCostWrong : ChangeSpec := { name := "fnExactTotalCost", fn := fun _ => fun
  | [d] => { results := [.lit (.bool false)], args := [d] }
  | _ => none }
def FnExactTotalCostWrongFalsely : Prop := fnExactTotalCostRow.holds Try.pinned (OpenSpec.ofChange fnExactTotalCostWrong)

/- THE SECOND FORM. 'bulk': how many values and letters a reading holds, each counted each time it is reached (what is shared counts as often as it is met; a slice's spare places count too). A statement '..UptoSaid' is the law's where the arguments, and the package variables that the reading takes, are together of bulk at most 1048576: NARROWER than '..Said'. Prove '..Said' where nothing that the law and all that it calls make is longer than what came in: it says more and counts as full. Else prove '..UptoSaid'. A law counts once. -/
mutual
def uptoBulk {H : Type} : DataW H → Nat
  | .lit (.string bytes) => bytes.length + 1
  | .lit _ => 1
  | .nil => 1
  | .ptr d => uptoBulk d + 1
  | .slice elems spare => uptoBulkAll elems + uptoBulkAll spare + 1
  | .agg parts => uptoBulkAll parts + 1
  | .iface _ d => uptoBulk d + 1
  | .map entries => uptoBulkEntries entries + 1
  | .held _ => 1
def uptoBulkAll {H : Type} : List (DataW H) → Nat
  | [] => 0
  | d :: r => uptoBulk d + uptoBulkAll r
def uptoBulkEntries {H : Type} : List (Lit × DataW H) → Nat
  | [] => 0
  | x :: r => uptoBulkEntry x + uptoBulkEntries r
def uptoBulkEntry {H : Type} : Lit × DataW H → Nat
  | (.string bytes, d) => bytes.length + uptoBulk d + 1
  | (_, d) => uptoBulk d + 1
 end
def uptoSmall : (H : Type) → List (DataW H) → Bool := fun _ ds => decide (uptoBulkAll ds ≤ 1048576)
def OpenSpec.upto (s : _root_.Go.ChangeSpec) : _root_.Go.OpenSpec := { _root_.Go.OpenSpec.ofChange s with cond := some uptoSmall }

/-- 'laws.FnExactArgMax', WHERE WHAT IT READS IS OF BULK AT MOST 1048576: true; the input reads as it did. -/
def fnExactArgMaxUptoRow : OpenClaim := { program := "ytblclcfdnkppeaa", sum := "3ed529797fd9a83204254b58289ce2d836f0208f45fc3a28f8dde6859f7999b1", func := "loop.example/g00778/laws.FnExactArgMax", spec := "fnExactArgMax", unfollowed := true, recurses := true, apart := false, narrowed := true }
def FnExactArgMaxUptoSaid : Prop := fnExactArgMaxUptoRow.holds Try.pinned (OpenSpec.upto fnExactArgMaxSpec)

/-- 'laws.FnExactFillOf', WHERE WHAT IT READS IS OF BULK AT MOST 1048576: true; the input reads as it did. -/
def fnExactFillOfUptoRow : OpenClaim := { program := "ytblclcfdnkppeaa", sum := "3ed529797fd9a83204254b58289ce2d836f0208f45fc3a28f8dde6859f7999b1", func := "loop.example/g00778/laws.FnExactFillOf", spec := "fnExactFillOf", apart := false, narrowed := true }
def FnExactFillOfUptoSaid : Prop := fnExactFillOfUptoRow.holds Try.pinned (OpenSpec.upto fnExactFillOfSpec)

/-- 'laws.FnExactSameModel', WHERE WHAT IT READS IS OF BULK AT MOST 1048576: true; the input reads as it did. -/
def fnExactSameModelUptoRow : OpenClaim := { program := "ytblclcfdnkppeaa", sum := "3ed529797fd9a83204254b58289ce2d836f0208f45fc3a28f8dde6859f7999b1", func := "loop.example/g00778/laws.FnExactSameModel", spec := "fnExactSameModel", unfollowed := true, recurses := true, apart := false, narrowed := true }
def FnExactSameModelUptoSaid : Prop := fnExactSameModelUptoRow.holds Try.pinned (OpenSpec.upto fnExactSameModelSpec)

/-- 'laws.FnExactOutShape', WHERE WHAT IT READS IS OF BULK AT MOST 1048576: true; the input reads as it did. -/
def fnExactOutShapeUptoRow : OpenClaim := { program := "ytblclcfdnkppeaa", sum := "3ed529797fd9a83204254b58289ce2d836f0208f45fc3a28f8dde6859f7999b1", func := "loop.example/g00778/laws.FnExactOutShape", spec := "fnExactOutShape", unfollowed := true, recurses := true, apart := false, narrowed := true }
def FnExactOutShapeUptoSaid : Prop := fnExactOutShapeUptoRow.holds Try.pinned (OpenSpec.upto fnExactOutShapeSpec)

/-- 'laws.FnExactCostOf', WHERE WHAT IT READS IS OF BULK AT MOST 1048576: true; the input reads as it did. -/
def fnExactCostOfUptoRow : OpenClaim := { program := "ytblclcfdnkppeaa", sum := "3ed529797fd9a83204254b58289ce2d836f0208f45fc3a28f8dde6859f7999b1", func := "loop.example/g00778/laws.FnExactCostOf", spec := "fnExactCostOf", unfollowed := true, recurses := true, apart := false, narrowed := true }
def FnExactCostOfUptoSaid : Prop := fnExactCostOfUptoRow.holds Try.pinned (OpenSpec.upto fnExactCostOfSpec)

/-- 'laws.FnOneWeight', WHERE WHAT IT READS IS OF BULK AT MOST 1048576: true; the input reads as it did. -/
def fnOneWeightUptoRow : OpenClaim := { program := "ytblclcfdnkppeaa", sum := "3ed529797fd9a83204254b58289ce2d836f0208f45fc3a28f8dde6859f7999b1", func := "loop.example/g00778/laws.FnOneWeight", spec := "fnOneWeight", unfollowed := true, recurses := true, apart := false, narrowed := true }
def FnOneWeightUptoSaid : Prop := fnOneWeightUptoRow.holds Try.pinned (OpenSpec.upto fnOneWeightSpec)

/-- 'laws.FnExactModelOk', WHERE WHAT IT READS IS OF BULK AT MOST 1048576: true; the input reads as it did. -/
def fnExactModelOkUptoRow : OpenClaim := { program := "ytblclcfdnkppeaa", sum := "3ed529797fd9a83204254b58289ce2d836f0208f45fc3a28f8dde6859f7999b1", func := "loop.example/g00778/laws.FnExactModelOk", spec := "fnExactModelOk", unfollowed := true, recurses := true, apart := false, narrowed := true }
def FnExactModelOkUptoSaid : Prop := fnExactModelOkUptoRow.holds Try.pinned (OpenSpec.upto fnExactModelOkSpec)

/-- 'laws.FnExactMemoryOf', WHERE WHAT IT READS IS OF BULK AT MOST 1048576: true; the input reads as it did. -/
def fnExactMemoryOfUptoRow : OpenClaim := { program := "ytblclcfdnkppeaa", sum := "3ed529797fd9a83204254b58289ce2d836f0208f45fc3a28f8dde6859f7999b1", func := "loop.example/g00778/laws.FnExactMemoryOf", spec := "fnExactMemoryOf", unfollowed := true, recurses := true, apart := false, narrowed := true }
def FnExactMemoryOfUptoSaid : Prop := fnExactMemoryOfUptoRow.holds Try.pinned (OpenSpec.upto fnExactMemoryOfSpec)

/-- 'laws.FnExactTotalCost', WHERE WHAT IT READS IS OF BULK AT MOST 1048576: true; the input reads as it did. -/
def fnExactTotalCostUptoRow : OpenClaim := { program := "ytblclcfdnkppeaa", sum := "3ed529797fd9a83204254b58289ce2d836f0208f45fc3a28f8dde6859f7999b1", func := "loop.example/g00778/laws.FnExactTotalCost", spec := "fnExactTotalCost", unfollowed := true, recurses := true, apart := false, narrowed := true }
def FnExactTotalCostUptoSaid : Prop := fnExactTotalCostUptoRow.holds Try.pinned (OpenSpec.upto fnExactTotalCostSpec)

end Rows
end Go.Proofs.Ytblclcfdnkppeaa
