/-
  No cell of these rows narrows 'for every input' (looked for: loops, veiled, ifaces, maps, wideKeys, modest, calm, conditions, laid).
  DERIVED. THE GIVEN ROWS OF THIS SEAT. 12 by the template 'for every input the law returns true; each argument reads behind the call as it read before'; 0 by the template 'total and deterministic' (their statements: YtenajdbekdfnjaaTotals.lean).
  GIVEN WITH THE SEED: the statements are not yours to turn. If you find one false, say at which input.
  Laid BY PROGRAM, IN A SANDBOX (cutbox-rows.mjs): the forced cells as the released guide's own fill.sh prints them over the translation 660515661abca528… (all of the seat's roots in one cut). By AI agents, Wed Nov 11 2026. No macro, syntax, notation, axiom, sorry.
-/
import Derived.Test.YtenajdbekdfnjaaChecked
import GoSem.Claim
import GoSem.ClaimJoined
import GoSem.ClaimMapViews
import Derived.JoinedTies
import Derived.KernelRfl
namespace Go.Proofs.Ytenajdbekdfnjaa
/- THE CELL 'sum', in the pinned program and in every row, IS THE sha256 OF THE DUMP (.gsa) THAT YtenajdbekdfnjaaProg.lean LOADS. Nothing in Lean hashes anything: it is a label: what it is worth is what the hold of that sum in a sandbox is worth. -/
noncomputable def Try.pinned : Pinned := { name := "ytenajdbekdfnjaa", sum := "660515661abca528d7dc0db2c3c41519a2d3278f16c0f094d90cb28a34ad923e", checked := Try.checked }
namespace Rows
def none {H : Type} : Left H := { results := [], args := [] }

/-- 'laws.FnExactRequant': WHATEVER THE INPUT: true; the input reads as it did. -/
def fnExactRequantSpec : ChangeSpec := { name := "fnExactRequant", fn := fun _ => fun
  | [d1, d2, d3, d4] => { results := [.lit (.bool true)], args := [d1, d2, d3, d4] }
  | _ => none }
def fnExactRequantRow : OpenClaim := { program := "ytenajdbekdfnjaa", sum := "660515661abca528d7dc0db2c3c41519a2d3278f16c0f094d90cb28a34ad923e", func := "loop.example/g00778/laws.FnExactRequant", spec := "fnExactRequant", recurses := true, apart := false }
def FnExactRequantSaid : Prop := fnExactRequantRow.holds Try.pinned (OpenSpec.ofChange fnExactRequantSpec)

/-- ITS FALSE NEIGHBOUR: 'it returns false'. Refute it at one input. -/
def fnExactRequantWrong : ChangeSpec := { name := "fnExactRequant", fn := fun _ => fun
  | [d1, d2, d3, d4] => { results := [.lit (.bool false)], args := [d1, d2, d3, d4] }
  | _ => none }
def FnExactRequantWrongFalsely : Prop := fnExactRequantRow.holds Try.pinned (OpenSpec.ofChange fnExactRequantWrong)

/-- 'laws.FnExactDotOf': WHATEVER THE INPUT: true; the input reads as it did. -/
def fnExactDotOfSpec : ChangeSpec := { name := "fnExactDotOf", fn := fun _ => fun
  | [d1, d2] => { results := [.lit (.bool true)], args := [d1, d2] }
  | _ => none }
def fnExactDotOfRow : OpenClaim := { program := "ytenajdbekdfnjaa", sum := "660515661abca528d7dc0db2c3c41519a2d3278f16c0f094d90cb28a34ad923e", func := "loop.example/g00778/laws.FnExactDotOf", spec := "fnExactDotOf", apart := false }
def FnExactDotOfSaid : Prop := fnExactDotOfRow.holds Try.pinned (OpenSpec.ofChange fnExactDotOfSpec)

/-- ITS FALSE NEIGHBOUR: 'it returns false'. Refute it at one input. -/
def fnExactDotOfWrong : ChangeSpec := { name := "fnExactDotOf", fn := fun _ => fun
  | [d1, d2] => { results := [.lit (.bool false)], args := [d1, d2] }
  | _ => none }
def FnExactDotOfWrongFalsely : Prop := fnExactDotOfRow.holds Try.pinned (OpenSpec.ofChange fnExactDotOfWrong)

/-- 'laws.FnExactTakeWide': WHATEVER THE INPUT: true; the input reads as it did. -/
def fnExactTakeWideSpec : ChangeSpec := { name := "fnExactTakeWide", fn := fun _ => fun
  | [d1, d2] => { results := [.lit (.bool true)], args := [d1, d2] }
  | _ => none }
def fnExactTakeWideRow : OpenClaim := { program := "ytenajdbekdfnjaa", sum := "660515661abca528d7dc0db2c3c41519a2d3278f16c0f094d90cb28a34ad923e", func := "loop.example/g00778/laws.FnExactTakeWide", spec := "fnExactTakeWide", apart := false }
def FnExactTakeWideSaid : Prop := fnExactTakeWideRow.holds Try.pinned (OpenSpec.ofChange fnExactTakeWideSpec)

/-- ITS FALSE NEIGHBOUR: 'it returns false'. Refute it at one input. -/
def fnExactTakeWideWrong : ChangeSpec := { name := "fnExactTakeWide", fn := fun _ => fun
  | [d1, d2] => { results := [.lit (.bool false)], args := [d1, d2] }
  | _ => none }
def FnExactTakeWideWrongFalsely : Prop := fnExactTakeWideRow.holds Try.pinned (OpenSpec.ofChange fnExactTakeWideWrong)

/-- 'laws.FnExactPutWide': WHATEVER THE INPUT: true; the input reads as it did. -/
def fnExactPutWideSpec : ChangeSpec := { name := "fnExactPutWide", fn := fun _ => fun
  | [d] => { results := [.lit (.bool true)], args := [d] }
  | _ => none }
def fnExactPutWideRow : OpenClaim := { program := "ytenajdbekdfnjaa", sum := "660515661abca528d7dc0db2c3c41519a2d3278f16c0f094d90cb28a34ad923e", func := "loop.example/g00778/laws.FnExactPutWide", spec := "fnExactPutWide", apart := false }
def FnExactPutWideSaid : Prop := fnExactPutWideRow.holds Try.pinned (OpenSpec.ofChange fnExactPutWideSpec)

/-- ITS FALSE NEIGHBOUR: 'it returns false'. Refute it at one input. -/
def fnExactPutWideWrong : ChangeSpec := { name := "fnExactPutWide", fn := fun _ => fun
  | [d] => { results := [.lit (.bool false)], args := [d] }
  | _ => none }
def FnExactPutWideWrongFalsely : Prop := fnExactPutWideRow.holds Try.pinned (OpenSpec.ofChange fnExactPutWideWrong)

/-- 'laws.FnExactWeightsIn': WHATEVER THE INPUT: true; the input reads as it did. -/
def fnExactWeightsInSpec : ChangeSpec := { name := "fnExactWeightsIn", fn := fun _ => fun
  | [d] => { results := [.lit (.bool true)], args := [d] }
  | _ => none }
def fnExactWeightsInRow : OpenClaim := { program := "ytenajdbekdfnjaa", sum := "660515661abca528d7dc0db2c3c41519a2d3278f16c0f094d90cb28a34ad923e", func := "loop.example/g00778/laws.FnExactWeightsIn", spec := "fnExactWeightsIn", apart := false }
def FnExactWeightsInSaid : Prop := fnExactWeightsInRow.holds Try.pinned (OpenSpec.ofChange fnExactWeightsInSpec)

/-- ITS FALSE NEIGHBOUR: 'it returns false'. Refute it at one input. -/
def fnExactWeightsInWrong : ChangeSpec := { name := "fnExactWeightsIn", fn := fun _ => fun
  | [d] => { results := [.lit (.bool false)], args := [d] }
  | _ => none }
def FnExactWeightsInWrongFalsely : Prop := fnExactWeightsInRow.holds Try.pinned (OpenSpec.ofChange fnExactWeightsInWrong)

/-- 'laws.FnQuants': WHATEVER THE INPUT: true; the input reads as it did. -/
def fnQuantsSpec : ChangeSpec := { name := "fnQuants", fn := fun _ => fun
  | [d] => { results := [.lit (.bool true)], args := [d] }
  | _ => none }
def fnQuantsRow : OpenClaim := { program := "ytenajdbekdfnjaa", sum := "660515661abca528d7dc0db2c3c41519a2d3278f16c0f094d90cb28a34ad923e", func := "loop.example/g00778/laws.FnQuants", spec := "fnQuants", recurses := true, apart := false }
def FnQuantsSaid : Prop := fnQuantsRow.holds Try.pinned (OpenSpec.ofChange fnQuantsSpec)

/-- ITS FALSE NEIGHBOUR: 'it returns false'. Refute it at one input. -/
def fnQuantsWrong : ChangeSpec := { name := "fnQuants", fn := fun _ => fun
  | [d] => { results := [.lit (.bool false)], args := [d] }
  | _ => none }
def FnQuantsWrongFalsely : Prop := fnQuantsRow.holds Try.pinned (OpenSpec.ofChange fnQuantsWrong)

/-- 'laws.FnExactSameLayer': WHATEVER THE INPUT: true; the input reads as it did. -/
def fnExactSameLayerSpec : ChangeSpec := { name := "fnExactSameLayer", fn := fun _ => fun
  | [d1, d2] => { results := [.lit (.bool true)], args := [d1, d2] }
  | _ => none }
def fnExactSameLayerRow : OpenClaim := { program := "ytenajdbekdfnjaa", sum := "660515661abca528d7dc0db2c3c41519a2d3278f16c0f094d90cb28a34ad923e", func := "loop.example/g00778/laws.FnExactSameLayer", spec := "fnExactSameLayer", apart := false }
def FnExactSameLayerSaid : Prop := fnExactSameLayerRow.holds Try.pinned (OpenSpec.ofChange fnExactSameLayerSpec)

/-- ITS FALSE NEIGHBOUR: 'it returns false'. Refute it at one input. -/
def fnExactSameLayerWrong : ChangeSpec := { name := "fnExactSameLayer", fn := fun _ => fun
  | [d1, d2] => { results := [.lit (.bool false)], args := [d1, d2] }
  | _ => none }
def FnExactSameLayerWrongFalsely : Prop := fnExactSameLayerRow.holds Try.pinned (OpenSpec.ofChange fnExactSameLayerWrong)

/-- 'laws.FnExactTensorOk': WHATEVER THE INPUT: true; the input reads as it did. -/
def fnExactTensorOkSpec : ChangeSpec := { name := "fnExactTensorOk", fn := fun _ => fun
  | [d] => { results := [.lit (.bool true)], args := [d] }
  | _ => none }
def fnExactTensorOkRow : OpenClaim := { program := "ytenajdbekdfnjaa", sum := "660515661abca528d7dc0db2c3c41519a2d3278f16c0f094d90cb28a34ad923e", func := "loop.example/g00778/laws.FnExactTensorOk", spec := "fnExactTensorOk", unfollowed := true, recurses := true, apart := false }
def FnExactTensorOkSaid : Prop := fnExactTensorOkRow.holds Try.pinned (OpenSpec.ofChange fnExactTensorOkSpec)

/-- ITS FALSE NEIGHBOUR: 'it returns false'. Refute it at one input. -/
def fnExactTensorOkWrong : ChangeSpec := { name := "fnExactTensorOk", fn := fun _ => fun
  | [d] => { results := [.lit (.bool false)], args := [d] }
  | _ => none }
def FnExactTensorOkWrongFalsely : Prop := fnExactTensorOkRow.holds Try.pinned (OpenSpec.ofChange fnExactTensorOkWrong)

/-- 'laws.FnShifts': WHATEVER THE INPUT: true; the input reads as it did. -/
def fnShiftsSpec : ChangeSpec := { name := "fnShifts", fn := fun _ => fun
  | [d] => { results := [.lit (.bool true)], args := [d] }
  | _ => none }
def fnShiftsRow : OpenClaim := { program := "ytenajdbekdfnjaa", sum := "660515661abca528d7dc0db2c3c41519a2d3278f16c0f094d90cb28a34ad923e", func := "loop.example/g00778/laws.FnShifts", spec := "fnShifts", recurses := true, apart := false }
def FnShiftsSaid : Prop := fnShiftsRow.holds Try.pinned (OpenSpec.ofChange fnShiftsSpec)

/-- ITS FALSE NEIGHBOUR: 'it returns false'. Refute it at one input. -/
def fnShiftsWrong : ChangeSpec := { name := "fnShifts", fn := fun _ => fun
  | [d] => { results := [.lit (.bool false)], args := [d] }
  | _ => none }
def FnShiftsWrongFalsely : Prop := fnShiftsRow.holds Try.pinned (OpenSpec.ofChange fnShiftsWrong)

/-- 'laws.FnExactHeadOf': WHATEVER THE INPUT: true; the input reads as it did. -/
def fnExactHeadOfSpec : ChangeSpec := { name := "fnExactHeadOf", fn := fun _ => fun
  | [d] => { results := [.lit (.bool true)], args := [d] }
  | _ => none }
def fnExactHeadOfRow : OpenClaim := { program := "ytenajdbekdfnjaa", sum := "660515661abca528d7dc0db2c3c41519a2d3278f16c0f094d90cb28a34ad923e", func := "loop.example/g00778/laws.FnExactHeadOf", spec := "fnExactHeadOf", apart := false }
def FnExactHeadOfSaid : Prop := fnExactHeadOfRow.holds Try.pinned (OpenSpec.ofChange fnExactHeadOfSpec)

/-- ITS FALSE NEIGHBOUR: 'it returns false'. Refute it at one input. -/
def fnExactHeadOfWrong : ChangeSpec := { name := "fnExactHeadOf", fn := fun _ => fun
  | [d] => { results := [.lit (.bool false)], args := [d] }
  | _ => none }
def FnExactHeadOfWrongFalsely : Prop := fnExactHeadOfRow.holds Try.pinned (OpenSpec.ofChange fnExactHeadOfWrong)

/-- 'laws.FnExactSameTensor': WHATEVER THE INPUT: true; the input reads as it did. -/
def fnExactSameTensorSpec : ChangeSpec := { name := "fnExactSameTensor", fn := fun _ => fun
  | [d1, d2] => { results := [.lit (.bool true)], args := [d1, d2] }
  | _ => none }
def fnExactSameTensorRow : OpenClaim := { program := "ytenajdbekdfnjaa", sum := "660515661abca528d7dc0db2c3c41519a2d3278f16c0f094d90cb28a34ad923e", func := "loop.example/g00778/laws.FnExactSameTensor", spec := "fnExactSameTensor", unfollowed := true, recurses := true, apart := false }
def FnExactSameTensorSaid : Prop := fnExactSameTensorRow.holds Try.pinned (OpenSpec.ofChange fnExactSameTensorSpec)

/-- ITS FALSE NEIGHBOUR: 'it returns false'. Refute it at one input. -/
def fnExactSameTensorWrong : ChangeSpec := { name := "fnExactSameTensor", fn := fun _ => fun
  | [d1, d2] => { results := [.lit (.bool false)], args := [d1, d2] }
  | _ => none }
def FnExactSameTensorWrongFalsely : Prop := fnExactSameTensorRow.holds Try.pinned (OpenSpec.ofChange fnExactSameTensorWrong)

/-- 'laws.FnExactItemAt': WHATEVER THE INPUT: true; the input reads as it did. -/
def fnExactItemAtSpec : ChangeSpec := { name := "fnExactItemAt", fn := fun _ => fun
  | [d1, d2, d3, d4] => { results := [.lit (.bool true)], args := [d1, d2, d3, d4] }
  | _ => none }
def fnExactItemAtRow : OpenClaim := { program := "ytenajdbekdfnjaa", sum := "660515661abca528d7dc0db2c3c41519a2d3278f16c0f094d90cb28a34ad923e", func := "loop.example/g00778/laws.FnExactItemAt", spec := "fnExactItemAt", unfollowed := true, recurses := true, apart := false }
def FnExactItemAtSaid : Prop := fnExactItemAtRow.holds Try.pinned (OpenSpec.ofChange fnExactItemAtSpec)

/-- ITS FALSE NEIGHBOUR: 'it returns false'. Refute it at one input. -/
def fnExactItemAtWrong : ChangeSpec := { name := "fnExactItemAt", fn := fun _ => fun
  | [d1, d2, d3, d4] => { results := [.lit (.bool false)], args := [d1, d2, d3, d4] }
  | _ => none }
def FnExactItemAtWrongFalsely : Prop := fnExactItemAtRow.holds Try.pinned (OpenSpec.ofChange fnExactItemAtWrong)

/- THE SECOND FORM. 'bulk': how many values and letters a reading holds, each counted each time it is reached (what is shared counts as often as it is met; a slice's spare places count too). A statement '..UptoSaid' is the law's where the arguments, and the package variables that the reading takes, are together of bulk at most 1048576: NARROWER than '..Said'. Prove '..Said' where nothing that the law and all that it calls make is longer than what came in: it says more and counts as full. Else prove '..UptoSaid'. A law counts once. -/
mutual
def uptoBulk {H : Type} : DataW H → Nat
  | .lit (.string bytes) => bytes.length + 1
  | .lit _ => 1
  | .nil => 1
  | .ptr d => uptoBulk d + 1
  | .slice elems spare => uptoBulkAll elems + uptoBulkAll spare + 1
  | .agg parts => uptoBulkAll parts + 1
  | .iface _ d => uptoBulk d + 1
  | .map entries => uptoBulkEntries entries + 1
  | .held _ => 1
def uptoBulkAll {H : Type} : List (DataW H) → Nat
  | [] => 0
  | d :: r => uptoBulk d + uptoBulkAll r
def uptoBulkEntries {H : Type} : List (Lit × DataW H) → Nat
  | [] => 0
  | x :: r => uptoBulkEntry x + uptoBulkEntries r
def uptoBulkEntry {H : Type} : Lit × DataW H → Nat
  | (.string bytes, d) => bytes.length + uptoBulk d + 1
  | (_, d) => uptoBulk d + 1
 end
def uptoSmall : (H : Type) → List (DataW H) → Bool := fun _ ds => decide (uptoBulkAll ds ≤ 1048576)
def OpenSpec.upto (s : _root_.Go.ChangeSpec) : _root_.Go.OpenSpec := { _root_.Go.OpenSpec.ofChange s with cond := some uptoSmall }

/-- 'laws.FnExactRequant', WHERE WHAT IT READS IS OF BULK AT MOST 1048576: true; the input reads as it did. -/
def fnExactRequantUptoRow : OpenClaim := { program := "ytenajdbekdfnjaa", sum := "660515661abca528d7dc0db2c3c41519a2d3278f16c0f094d90cb28a34ad923e", func := "loop.example/g00778/laws.FnExactRequant", spec := "fnExactRequant", recurses := true, apart := false, narrowed := true }
def FnExactRequantUptoSaid : Prop := fnExactRequantUptoRow.holds Try.pinned (OpenSpec.upto fnExactRequantSpec)

/-- 'laws.FnExactDotOf', WHERE WHAT IT READS IS OF BULK AT MOST 1048576: true; the input reads as it did. -/
def fnExactDotOfUptoRow : OpenClaim := { program := "ytenajdbekdfnjaa", sum := "660515661abca528d7dc0db2c3c41519a2d3278f16c0f094d90cb28a34ad923e", func := "loop.example/g00778/laws.FnExactDotOf", spec := "fnExactDotOf", apart := false, narrowed := true }
def FnExactDotOfUptoSaid : Prop := fnExactDotOfUptoRow.holds Try.pinned (OpenSpec.upto fnExactDotOfSpec)

/-- 'laws.FnExactTakeWide', WHERE WHAT IT READS IS OF BULK AT MOST 1048576: true; the input reads as it did. -/
def fnExactTakeWideUptoRow : OpenClaim := { program := "ytenajdbekdfnjaa", sum := "660515661abca528d7dc0db2c3c41519a2d3278f16c0f094d90cb28a34ad923e", func := "loop.example/g00778/laws.FnExactTakeWide", spec := "fnExactTakeWide", apart := false, narrowed := true }
def FnExactTakeWideUptoSaid : Prop := fnExactTakeWideUptoRow.holds Try.pinned (OpenSpec.upto fnExactTakeWideSpec)

/-- 'laws.FnExactPutWide', WHERE WHAT IT READS IS OF BULK AT MOST 1048576: true; the input reads as it did. -/
def fnExactPutWideUptoRow : OpenClaim := { program := "ytenajdbekdfnjaa", sum := "660515661abca528d7dc0db2c3c41519a2d3278f16c0f094d90cb28a34ad923e", func := "loop.example/g00778/laws.FnExactPutWide", spec := "fnExactPutWide", apart := false, narrowed := true }
def FnExactPutWideUptoSaid : Prop := fnExactPutWideUptoRow.holds Try.pinned (OpenSpec.upto fnExactPutWideSpec)

/-- 'laws.FnExactWeightsIn', WHERE WHAT IT READS IS OF BULK AT MOST 1048576: true; the input reads as it did. -/
def fnExactWeightsInUptoRow : OpenClaim := { program := "ytenajdbekdfnjaa", sum := "660515661abca528d7dc0db2c3c41519a2d3278f16c0f094d90cb28a34ad923e", func := "loop.example/g00778/laws.FnExactWeightsIn", spec := "fnExactWeightsIn", apart := false, narrowed := true }
def FnExactWeightsInUptoSaid : Prop := fnExactWeightsInUptoRow.holds Try.pinned (OpenSpec.upto fnExactWeightsInSpec)

/-- 'laws.FnQuants', WHERE WHAT IT READS IS OF BULK AT MOST 1048576: true; the input reads as it did. -/
def fnQuantsUptoRow : OpenClaim := { program := "ytenajdbekdfnjaa", sum := "660515661abca528d7dc0db2c3c41519a2d3278f16c0f094d90cb28a34ad923e", func := "loop.example/g00778/laws.FnQuants", spec := "fnQuants", recurses := true, apart := false, narrowed := true }
def FnQuantsUptoSaid : Prop := fnQuantsUptoRow.holds Try.pinned (OpenSpec.upto fnQuantsSpec)

/-- 'laws.FnExactSameLayer', WHERE WHAT IT READS IS OF BULK AT MOST 1048576: true; the input reads as it did. -/
def fnExactSameLayerUptoRow : OpenClaim := { program := "ytenajdbekdfnjaa", sum := "660515661abca528d7dc0db2c3c41519a2d3278f16c0f094d90cb28a34ad923e", func := "loop.example/g00778/laws.FnExactSameLayer", spec := "fnExactSameLayer", apart := false, narrowed := true }
def FnExactSameLayerUptoSaid : Prop := fnExactSameLayerUptoRow.holds Try.pinned (OpenSpec.upto fnExactSameLayerSpec)

/-- 'laws.FnExactTensorOk', WHERE WHAT IT READS IS OF BULK AT MOST 1048576: true; the input reads as it did. -/
def fnExactTensorOkUptoRow : OpenClaim := { program := "ytenajdbekdfnjaa", sum := "660515661abca528d7dc0db2c3c41519a2d3278f16c0f094d90cb28a34ad923e", func := "loop.example/g00778/laws.FnExactTensorOk", spec := "fnExactTensorOk", unfollowed := true, recurses := true, apart := false, narrowed := true }
def FnExactTensorOkUptoSaid : Prop := fnExactTensorOkUptoRow.holds Try.pinned (OpenSpec.upto fnExactTensorOkSpec)

/-- 'laws.FnShifts', WHERE WHAT IT READS IS OF BULK AT MOST 1048576: true; the input reads as it did. -/
def fnShiftsUptoRow : OpenClaim := { program := "ytenajdbekdfnjaa", sum := "660515661abca528d7dc0db2c3c41519a2d3278f16c0f094d90cb28a34ad923e", func := "loop.example/g00778/laws.FnShifts", spec := "fnShifts", recurses := true, apart := false, narrowed := true }
def FnShiftsUptoSaid : Prop := fnShiftsUptoRow.holds Try.pinned (OpenSpec.upto fnShiftsSpec)

/-- 'laws.FnExactHeadOf', WHERE WHAT IT READS IS OF BULK AT MOST 1048576: true; the input reads as it did. -/
def fnExactHeadOfUptoRow : OpenClaim := { program := "ytenajdbekdfnjaa", sum := "660515661abca528d7dc0db2c3c41519a2d3278f16c0f094d90cb28a34ad923e", func := "loop.example/g00778/laws.FnExactHeadOf", spec := "fnExactHeadOf", apart := false, narrowed := true }
def FnExactHeadOfUptoSaid : Prop := fnExactHeadOfUptoRow.holds Try.pinned (OpenSpec.upto fnExactHeadOfSpec)

/-- 'laws.FnExactSameTensor', WHERE WHAT IT READS IS OF BULK AT MOST 1048576: true; the input reads as it did. -/
def fnExactSameTensorUptoRow : OpenClaim := { program := "ytenajdbekdfnjaa", sum := "660515661abca528d7dc0db2c3c41519a2d3278f16c0f094d90cb28a34ad923e", func := "loop.example/g00778/laws.FnExactSameTensor", spec := "fnExactSameTensor", unfollowed := true, recurses := true, apart := false, narrowed := true }
def FnExactSameTensorUptoSaid : Prop := fnExactSameTensorUptoRow.holds Try.pinned (OpenSpec.upto fnExactSameTensorSpec)

/-- 'laws.FnExactItemAt', WHERE WHAT IT READS IS OF BULK AT MOST 1048576: true; the input reads as it did. -/
def fnExactItemAtUptoRow : OpenClaim := { program := "ytenajdbekdfnjaa", sum := "660515661abca528d7dc0db2c3c41519a2d3278f16c0f094d90cb28a34ad923e", func := "loop.example/g00778/laws.FnExactItemAt", spec := "fnExactItemAt", unfollowed := true, recurses := true, apart := false, narrowed := true }
def FnExactItemAtUptoSaid : Prop := fnExactItemAtUptoRow.holds Try.pinned (OpenSpec.upto fnExactItemAtSpec)

end Rows
end Go.Proofs.Ytenajdbekdfnjaa
