/-
  No cell of these rows narrows 'for every input' (looked for: loops, veiled, ifaces, maps, wideKeys, modest, calm, conditions, laid).
  DERIVED. THE GIVEN ROWS OF THIS SEAT. 12 by the template 'for every input the law returns true; each argument reads behind the call as it read before'; 0 by the template 'total and deterministic' (their statements: YtpjfjaceebohpaaTotals.lean).
  GIVEN WITH THE SEED: the statements are not yours to turn. If you find one false, say at which input.
  Laid BY PROGRAM, IN A SANDBOX (cutbox-rows.mjs): the forced cells as the released guide's own fill.sh prints them over the translation f975ded3f729bd97… (all of the seat's roots in one cut). By AI agents, Wed Nov 11 2026. No macro, syntax, notation, axiom, sorry.
-/
import Derived.Test.YtpjfjaceebohpaaChecked
import GoSem.Claim
import GoSem.ClaimJoined
import GoSem.ClaimMapViews
import Derived.JoinedTies
import Derived.KernelRfl
namespace Go.Proofs.Ytpjfjaceebohpaa
/- THE CELL 'sum', in the pinned program and in every row, IS THE sha256 OF THE DUMP (.gsa) THAT YtpjfjaceebohpaaProg.lean LOADS. Nothing in Lean hashes anything: it is a label: what it is worth is what the hold of that sum in a sandbox is worth. -/
noncomputable def Try.pinned : Pinned := { name := "ytpjfjaceebohpaa", sum := "f975ded3f729bd97c9ca532cc699ca394700e02eb44b6614d9acdbbae0f8a061", checked := Try.checked }
namespace Rows
def none {H : Type} : Left H := { results := [], args := [] }

/-- 'laws.FnExactConstants': WHATEVER THE INPUT: true; the input reads as it did. -/
def fnExactConstantsSpec : ChangeSpec := { name := "fnExactConstants", fn := fun _ => fun
  | [] => { results := [.lit (.bool true)], args := [] }
  | _ => none }
def fnExactConstantsRow : OpenClaim := { program := "ytpjfjaceebohpaa", sum := "f975ded3f729bd97c9ca532cc699ca394700e02eb44b6614d9acdbbae0f8a061", func := "loop.example/g00778/laws.FnExactConstants", spec := "fnExactConstants", apart := false }
def FnExactConstantsSaid : Prop := fnExactConstantsRow.holds Try.pinned (OpenSpec.ofChange fnExactConstantsSpec)

/-- ITS FALSE NEIGHBOUR: 'it returns false'. Refute it at one input. -/
def fnExactConstantsWrong : ChangeSpec := { name := "fnExactConstants", fn := fun _ => fun
  | [] => { results := [.lit (.bool false)], args := [] }
  | _ => none }
def FnExactConstantsWrongFalsely : Prop := fnExactConstantsRow.holds Try.pinned (OpenSpec.ofChange fnExactConstantsWrong)

/-- 'laws.FnExactSat32': WHATEVER THE INPUT: true; the input reads as it did. -/
def fnExactSat32Spec : ChangeSpec := { name := "fnExactSat32", fn := fun _ => fun
  | [d] => { results := [.lit (.bool true)], args := [d] }
  | _ => none }
def fnExactSat32Row : OpenClaim := { program := "ytpjfjaceebohpaa", sum := "f975ded3f729bd97c9ca532cc699ca394700e02eb44b6614d9acdbbae0f8a061", func := "loop.example/g00778/laws.FnExactSat32", spec := "fnExactSat32", apart := false }
def FnExactSat32Said : Prop := fnExactSat32Row.holds Try.pinned (OpenSpec.ofChange fnExactSat32Spec)

/-- ITS FALSE NEIGHBOUR: 'it returns false'. Refute it at one input. -/
def fnExactSat32Wrong : ChangeSpec := { name := "fnExactSat32", fn := fun _ => fun
  | [d] => { results := [.lit (.bool false)], args := [d] }
  | _ => none }
def FnExactSat32WrongFalsely : Prop := fnExactSat32Row.holds Try.pinned (OpenSpec.ofChange fnExactSat32Wrong)

/-- 'laws.FnExactSat8': WHATEVER THE INPUT: true; the input reads as it did. -/
def fnExactSat8Spec : ChangeSpec := { name := "fnExactSat8", fn := fun _ => fun
  | [d] => { results := [.lit (.bool true)], args := [d] }
  | _ => none }
def fnExactSat8Row : OpenClaim := { program := "ytpjfjaceebohpaa", sum := "f975ded3f729bd97c9ca532cc699ca394700e02eb44b6614d9acdbbae0f8a061", func := "loop.example/g00778/laws.FnExactSat8", spec := "fnExactSat8", apart := false }
def FnExactSat8Said : Prop := fnExactSat8Row.holds Try.pinned (OpenSpec.ofChange fnExactSat8Spec)

/-- ITS FALSE NEIGHBOUR: 'it returns false'. Refute it at one input. -/
def fnExactSat8Wrong : ChangeSpec := { name := "fnExactSat8", fn := fun _ => fun
  | [d] => { results := [.lit (.bool false)], args := [d] }
  | _ => none }
def FnExactSat8WrongFalsely : Prop := fnExactSat8Row.holds Try.pinned (OpenSpec.ofChange fnExactSat8Wrong)

/-- 'laws.FnExactShapeOk': WHATEVER THE INPUT: true; the input reads as it did. -/
def fnExactShapeOkSpec : ChangeSpec := { name := "fnExactShapeOk", fn := fun _ => fun
  | [d] => { results := [.lit (.bool true)], args := [d] }
  | _ => none }
def fnExactShapeOkRow : OpenClaim := { program := "ytpjfjaceebohpaa", sum := "f975ded3f729bd97c9ca532cc699ca394700e02eb44b6614d9acdbbae0f8a061", func := "loop.example/g00778/laws.FnExactShapeOk", spec := "fnExactShapeOk", apart := false }
def FnExactShapeOkSaid : Prop := fnExactShapeOkRow.holds Try.pinned (OpenSpec.ofChange fnExactShapeOkSpec)

/-- ITS FALSE NEIGHBOUR: 'it returns false'. Refute it at one input. -/
def fnExactShapeOkWrong : ChangeSpec := { name := "fnExactShapeOk", fn := fun _ => fun
  | [d] => { results := [.lit (.bool false)], args := [d] }
  | _ => none }
def FnExactShapeOkWrongFalsely : Prop := fnExactShapeOkRow.holds Try.pinned (OpenSpec.ofChange fnExactShapeOkWrong)

/-- 'laws.FnExactAddSat': WHATEVER THE INPUT: true; the input reads as it did. -/
def fnExactAddSatSpec : ChangeSpec := { name := "fnExactAddSat", fn := fun _ => fun
  | [d1, d2] => { results := [.lit (.bool true)], args := [d1, d2] }
  | _ => none }
def fnExactAddSatRow : OpenClaim := { program := "ytpjfjaceebohpaa", sum := "f975ded3f729bd97c9ca532cc699ca394700e02eb44b6614d9acdbbae0f8a061", func := "loop.example/g00778/laws.FnExactAddSat", spec := "fnExactAddSat", apart := false }
def FnExactAddSatSaid : Prop := fnExactAddSatRow.holds Try.pinned (OpenSpec.ofChange fnExactAddSatSpec)

/-- ITS FALSE NEIGHBOUR: 'it returns false'. Refute it at one input. -/
def fnExactAddSatWrong : ChangeSpec := { name := "fnExactAddSat", fn := fun _ => fun
  | [d1, d2] => { results := [.lit (.bool false)], args := [d1, d2] }
  | _ => none }
def FnExactAddSatWrongFalsely : Prop := fnExactAddSatRow.holds Try.pinned (OpenSpec.ofChange fnExactAddSatWrong)

/-- 'laws.FnExactClampTo': WHATEVER THE INPUT: true; the input reads as it did. -/
def fnExactClampToSpec : ChangeSpec := { name := "fnExactClampTo", fn := fun _ => fun
  | [d1, d2, d3] => { results := [.lit (.bool true)], args := [d1, d2, d3] }
  | _ => none }
def fnExactClampToRow : OpenClaim := { program := "ytpjfjaceebohpaa", sum := "f975ded3f729bd97c9ca532cc699ca394700e02eb44b6614d9acdbbae0f8a061", func := "loop.example/g00778/laws.FnExactClampTo", spec := "fnExactClampTo", apart := false }
def FnExactClampToSaid : Prop := fnExactClampToRow.holds Try.pinned (OpenSpec.ofChange fnExactClampToSpec)

/-- ITS FALSE NEIGHBOUR: 'it returns false'. Refute it at one input. -/
def fnExactClampToWrong : ChangeSpec := { name := "fnExactClampTo", fn := fun _ => fun
  | [d1, d2, d3] => { results := [.lit (.bool false)], args := [d1, d2, d3] }
  | _ => none }
def FnExactClampToWrongFalsely : Prop := fnExactClampToRow.holds Try.pinned (OpenSpec.ofChange fnExactClampToWrong)

/-- 'laws.FnExactMultFor': WHATEVER THE INPUT: true; the input reads as it did. -/
def fnExactMultForSpec : ChangeSpec := { name := "fnExactMultFor", fn := fun _ => fun
  | [d1, d2] => { results := [.lit (.bool true)], args := [d1, d2] }
  | _ => none }
def fnExactMultForRow : OpenClaim := { program := "ytpjfjaceebohpaa", sum := "f975ded3f729bd97c9ca532cc699ca394700e02eb44b6614d9acdbbae0f8a061", func := "loop.example/g00778/laws.FnExactMultFor", spec := "fnExactMultFor", apart := false }
def FnExactMultForSaid : Prop := fnExactMultForRow.holds Try.pinned (OpenSpec.ofChange fnExactMultForSpec)

/-- ITS FALSE NEIGHBOUR: 'it returns false'. Refute it at one input. -/
def fnExactMultForWrong : ChangeSpec := { name := "fnExactMultFor", fn := fun _ => fun
  | [d1, d2] => { results := [.lit (.bool false)], args := [d1, d2] }
  | _ => none }
def FnExactMultForWrongFalsely : Prop := fnExactMultForRow.holds Try.pinned (OpenSpec.ofChange fnExactMultForWrong)

/-- 'laws.FnExactMulHigh': WHATEVER THE INPUT: true; the input reads as it did. -/
def fnExactMulHighSpec : ChangeSpec := { name := "fnExactMulHigh", fn := fun _ => fun
  | [d1, d2] => { results := [.lit (.bool true)], args := [d1, d2] }
  | _ => none }
def fnExactMulHighRow : OpenClaim := { program := "ytpjfjaceebohpaa", sum := "f975ded3f729bd97c9ca532cc699ca394700e02eb44b6614d9acdbbae0f8a061", func := "loop.example/g00778/laws.FnExactMulHigh", spec := "fnExactMulHigh", apart := false }
def FnExactMulHighSaid : Prop := fnExactMulHighRow.holds Try.pinned (OpenSpec.ofChange fnExactMulHighSpec)

/-- ITS FALSE NEIGHBOUR: 'it returns false'. Refute it at one input. -/
def fnExactMulHighWrong : ChangeSpec := { name := "fnExactMulHigh", fn := fun _ => fun
  | [d1, d2] => { results := [.lit (.bool false)], args := [d1, d2] }
  | _ => none }
def FnExactMulHighWrongFalsely : Prop := fnExactMulHighRow.holds Try.pinned (OpenSpec.ofChange fnExactMulHighWrong)

/-- 'laws.FnExactSizeOf': WHATEVER THE INPUT: true; the input reads as it did. -/
def fnExactSizeOfSpec : ChangeSpec := { name := "fnExactSizeOf", fn := fun _ => fun
  | [d] => { results := [.lit (.bool true)], args := [d] }
  | _ => none }
def fnExactSizeOfRow : OpenClaim := { program := "ytpjfjaceebohpaa", sum := "f975ded3f729bd97c9ca532cc699ca394700e02eb44b6614d9acdbbae0f8a061", func := "loop.example/g00778/laws.FnExactSizeOf", spec := "fnExactSizeOf", apart := false }
def FnExactSizeOfSaid : Prop := fnExactSizeOfRow.holds Try.pinned (OpenSpec.ofChange fnExactSizeOfSpec)

/-- ITS FALSE NEIGHBOUR: 'it returns false'. Refute it at one input. -/
def fnExactSizeOfWrong : ChangeSpec := { name := "fnExactSizeOf", fn := fun _ => fun
  | [d] => { results := [.lit (.bool false)], args := [d] }
  | _ => none }
def FnExactSizeOfWrongFalsely : Prop := fnExactSizeOfRow.holds Try.pinned (OpenSpec.ofChange fnExactSizeOfWrong)

/-- 'laws.FnExactPlaceOf': WHATEVER THE INPUT: true; the input reads as it did. -/
def fnExactPlaceOfSpec : ChangeSpec := { name := "fnExactPlaceOf", fn := fun _ => fun
  | [d1, d2, d3, d4] => { results := [.lit (.bool true)], args := [d1, d2, d3, d4] }
  | _ => none }
def fnExactPlaceOfRow : OpenClaim := { program := "ytpjfjaceebohpaa", sum := "f975ded3f729bd97c9ca532cc699ca394700e02eb44b6614d9acdbbae0f8a061", func := "loop.example/g00778/laws.FnExactPlaceOf", spec := "fnExactPlaceOf", apart := false }
def FnExactPlaceOfSaid : Prop := fnExactPlaceOfRow.holds Try.pinned (OpenSpec.ofChange fnExactPlaceOfSpec)

/-- ITS FALSE NEIGHBOUR: 'it returns false'. Refute it at one input. -/
def fnExactPlaceOfWrong : ChangeSpec := { name := "fnExactPlaceOf", fn := fun _ => fun
  | [d1, d2, d3, d4] => { results := [.lit (.bool false)], args := [d1, d2, d3, d4] }
  | _ => none }
def FnExactPlaceOfWrongFalsely : Prop := fnExactPlaceOfRow.holds Try.pinned (OpenSpec.ofChange fnExactPlaceOfWrong)

/-- 'laws.FnExactRoundShift': WHATEVER THE INPUT: true; the input reads as it did. -/
def fnExactRoundShiftSpec : ChangeSpec := { name := "fnExactRoundShift", fn := fun _ => fun
  | [d1, d2] => { results := [.lit (.bool true)], args := [d1, d2] }
  | _ => none }
def fnExactRoundShiftRow : OpenClaim := { program := "ytpjfjaceebohpaa", sum := "f975ded3f729bd97c9ca532cc699ca394700e02eb44b6614d9acdbbae0f8a061", func := "loop.example/g00778/laws.FnExactRoundShift", spec := "fnExactRoundShift", recurses := true, apart := false }
def FnExactRoundShiftSaid : Prop := fnExactRoundShiftRow.holds Try.pinned (OpenSpec.ofChange fnExactRoundShiftSpec)

/-- ITS FALSE NEIGHBOUR: 'it returns false'. Refute it at one input. -/
def fnExactRoundShiftWrong : ChangeSpec := { name := "fnExactRoundShift", fn := fun _ => fun
  | [d1, d2] => { results := [.lit (.bool false)], args := [d1, d2] }
  | _ => none }
def FnExactRoundShiftWrongFalsely : Prop := fnExactRoundShiftRow.holds Try.pinned (OpenSpec.ofChange fnExactRoundShiftWrong)

/-- 'laws.FnExactSumOf': WHATEVER THE INPUT: true; the input reads as it did. -/
def fnExactSumOfSpec : ChangeSpec := { name := "fnExactSumOf", fn := fun _ => fun
  | [d] => { results := [.lit (.bool true)], args := [d] }
  | _ => none }
def fnExactSumOfRow : OpenClaim := { program := "ytpjfjaceebohpaa", sum := "f975ded3f729bd97c9ca532cc699ca394700e02eb44b6614d9acdbbae0f8a061", func := "loop.example/g00778/laws.FnExactSumOf", spec := "fnExactSumOf", apart := false }
def FnExactSumOfSaid : Prop := fnExactSumOfRow.holds Try.pinned (OpenSpec.ofChange fnExactSumOfSpec)

/-- ITS FALSE NEIGHBOUR: 'it returns false'. Refute it at one input. -/
def fnExactSumOfWrong : ChangeSpec := { name := "fnExactSumOf", fn := fun _ => fun
  | [d] => { results := [.lit (.bool false)], args := [d] }
  | _ => none }
def FnExactSumOfWrongFalsely : Prop := fnExactSumOfRow.holds Try.pinned (OpenSpec.ofChange fnExactSumOfWrong)

/- THE SECOND FORM. 'bulk': how many values and letters a reading holds, each counted each time it is reached (what is shared counts as often as it is met; a slice's spare places count too). A statement '..UptoSaid' is the law's where the arguments, and the package variables that the reading takes, are together of bulk at most 1048576: NARROWER than '..Said'. Prove '..Said' where nothing that the law and all that it calls make is longer than what came in: it says more and counts as full. Else prove '..UptoSaid'. A law counts once. -/
mutual
def uptoBulk {H : Type} : DataW H → Nat
  | .lit (.string bytes) => bytes.length + 1
  | .lit _ => 1
  | .nil => 1
  | .ptr d => uptoBulk d + 1
  | .slice elems spare => uptoBulkAll elems + uptoBulkAll spare + 1
  | .agg parts => uptoBulkAll parts + 1
  | .iface _ d => uptoBulk d + 1
  | .map entries => uptoBulkEntries entries + 1
  | .held _ => 1
def uptoBulkAll {H : Type} : List (DataW H) → Nat
  | [] => 0
  | d :: r => uptoBulk d + uptoBulkAll r
def uptoBulkEntries {H : Type} : List (Lit × DataW H) → Nat
  | [] => 0
  | x :: r => uptoBulkEntry x + uptoBulkEntries r
def uptoBulkEntry {H : Type} : Lit × DataW H → Nat
  | (.string bytes, d) => bytes.length + uptoBulk d + 1
  | (_, d) => uptoBulk d + 1
 end
def uptoSmall : (H : Type) → List (DataW H) → Bool := fun _ ds => decide (uptoBulkAll ds ≤ 1048576)
def OpenSpec.upto (s : _root_.Go.ChangeSpec) : _root_.Go.OpenSpec := { _root_.Go.OpenSpec.ofChange s with cond := some uptoSmall }

/-- 'laws.FnExactConstants', WHERE WHAT IT READS IS OF BULK AT MOST 1048576: true; the input reads as it did. -/
def fnExactConstantsUptoRow : OpenClaim := { program := "ytpjfjaceebohpaa", sum := "f975ded3f729bd97c9ca532cc699ca394700e02eb44b6614d9acdbbae0f8a061", func := "loop.example/g00778/laws.FnExactConstants", spec := "fnExactConstants", apart := false, narrowed := true }
def FnExactConstantsUptoSaid : Prop := fnExactConstantsUptoRow.holds Try.pinned (OpenSpec.upto fnExactConstantsSpec)

/-- 'laws.FnExactSat32', WHERE WHAT IT READS IS OF BULK AT MOST 1048576: true; the input reads as it did. -/
def fnExactSat32UptoRow : OpenClaim := { program := "ytpjfjaceebohpaa", sum := "f975ded3f729bd97c9ca532cc699ca394700e02eb44b6614d9acdbbae0f8a061", func := "loop.example/g00778/laws.FnExactSat32", spec := "fnExactSat32", apart := false, narrowed := true }
def FnExactSat32UptoSaid : Prop := fnExactSat32UptoRow.holds Try.pinned (OpenSpec.upto fnExactSat32Spec)

/-- 'laws.FnExactSat8', WHERE WHAT IT READS IS OF BULK AT MOST 1048576: true; the input reads as it did. -/
def fnExactSat8UptoRow : OpenClaim := { program := "ytpjfjaceebohpaa", sum := "f975ded3f729bd97c9ca532cc699ca394700e02eb44b6614d9acdbbae0f8a061", func := "loop.example/g00778/laws.FnExactSat8", spec := "fnExactSat8", apart := false, narrowed := true }
def FnExactSat8UptoSaid : Prop := fnExactSat8UptoRow.holds Try.pinned (OpenSpec.upto fnExactSat8Spec)

/-- 'laws.FnExactShapeOk', WHERE WHAT IT READS IS OF BULK AT MOST 1048576: true; the input reads as it did. -/
def fnExactShapeOkUptoRow : OpenClaim := { program := "ytpjfjaceebohpaa", sum := "f975ded3f729bd97c9ca532cc699ca394700e02eb44b6614d9acdbbae0f8a061", func := "loop.example/g00778/laws.FnExactShapeOk", spec := "fnExactShapeOk", apart := false, narrowed := true }
def FnExactShapeOkUptoSaid : Prop := fnExactShapeOkUptoRow.holds Try.pinned (OpenSpec.upto fnExactShapeOkSpec)

/-- 'laws.FnExactAddSat', WHERE WHAT IT READS IS OF BULK AT MOST 1048576: true; the input reads as it did. -/
def fnExactAddSatUptoRow : OpenClaim := { program := "ytpjfjaceebohpaa", sum := "f975ded3f729bd97c9ca532cc699ca394700e02eb44b6614d9acdbbae0f8a061", func := "loop.example/g00778/laws.FnExactAddSat", spec := "fnExactAddSat", apart := false, narrowed := true }
def FnExactAddSatUptoSaid : Prop := fnExactAddSatUptoRow.holds Try.pinned (OpenSpec.upto fnExactAddSatSpec)

/-- 'laws.FnExactClampTo', WHERE WHAT IT READS IS OF BULK AT MOST 1048576: true; the input reads as it did. -/
def fnExactClampToUptoRow : OpenClaim := { program := "ytpjfjaceebohpaa", sum := "f975ded3f729bd97c9ca532cc699ca394700e02eb44b6614d9acdbbae0f8a061", func := "loop.example/g00778/laws.FnExactClampTo", spec := "fnExactClampTo", apart := false, narrowed := true }
def FnExactClampToUptoSaid : Prop := fnExactClampToUptoRow.holds Try.pinned (OpenSpec.upto fnExactClampToSpec)

/-- 'laws.FnExactMultFor', WHERE WHAT IT READS IS OF BULK AT MOST 1048576: true; the input reads as it did. -/
def fnExactMultForUptoRow : OpenClaim := { program := "ytpjfjaceebohpaa", sum := "f975ded3f729bd97c9ca532cc699ca394700e02eb44b6614d9acdbbae0f8a061", func := "loop.example/g00778/laws.FnExactMultFor", spec := "fnExactMultFor", apart := false, narrowed := true }
def FnExactMultForUptoSaid : Prop := fnExactMultForUptoRow.holds Try.pinned (OpenSpec.upto fnExactMultForSpec)

/-- 'laws.FnExactMulHigh', WHERE WHAT IT READS IS OF BULK AT MOST 1048576: true; the input reads as it did. -/
def fnExactMulHighUptoRow : OpenClaim := { program := "ytpjfjaceebohpaa", sum := "f975ded3f729bd97c9ca532cc699ca394700e02eb44b6614d9acdbbae0f8a061", func := "loop.example/g00778/laws.FnExactMulHigh", spec := "fnExactMulHigh", apart := false, narrowed := true }
def FnExactMulHighUptoSaid : Prop := fnExactMulHighUptoRow.holds Try.pinned (OpenSpec.upto fnExactMulHighSpec)

/-- 'laws.FnExactSizeOf', WHERE WHAT IT READS IS OF BULK AT MOST 1048576: true; the input reads as it did. -/
def fnExactSizeOfUptoRow : OpenClaim := { program := "ytpjfjaceebohpaa", sum := "f975ded3f729bd97c9ca532cc699ca394700e02eb44b6614d9acdbbae0f8a061", func := "loop.example/g00778/laws.FnExactSizeOf", spec := "fnExactSizeOf", apart := false, narrowed := true }
def FnExactSizeOfUptoSaid : Prop := fnExactSizeOfUptoRow.holds Try.pinned (OpenSpec.upto fnExactSizeOfSpec)

/-- 'laws.FnExactPlaceOf', WHERE WHAT IT READS IS OF BULK AT MOST 1048576: true; the input reads as it did. -/
def fnExactPlaceOfUptoRow : OpenClaim := { program := "ytpjfjaceebohpaa", sum := "f975ded3f729bd97c9ca532cc699ca394700e02eb44b6614d9acdbbae0f8a061", func := "loop.example/g00778/laws.FnExactPlaceOf", spec := "fnExactPlaceOf", apart := false, narrowed := true }
def FnExactPlaceOfUptoSaid : Prop := fnExactPlaceOfUptoRow.holds Try.pinned (OpenSpec.upto fnExactPlaceOfSpec)

/-- 'laws.FnExactRoundShift', WHERE WHAT IT READS IS OF BULK AT MOST 1048576: true; the input reads as it did. -/
def fnExactRoundShiftUptoRow : OpenClaim := { program := "ytpjfjaceebohpaa", sum := "f975ded3f729bd97c9ca532cc699ca394700e02eb44b6614d9acdbbae0f8a061", func := "loop.example/g00778/laws.FnExactRoundShift", spec := "fnExactRoundShift", recurses := true, apart := false, narrowed := true }
def FnExactRoundShiftUptoSaid : Prop := fnExactRoundShiftUptoRow.holds Try.pinned (OpenSpec.upto fnExactRoundShiftSpec)

/-- 'laws.FnExactSumOf', WHERE WHAT IT READS IS OF BULK AT MOST 1048576: true; the input reads as it did. -/
def fnExactSumOfUptoRow : OpenClaim := { program := "ytpjfjaceebohpaa", sum := "f975ded3f729bd97c9ca532cc699ca394700e02eb44b6614d9acdbbae0f8a061", func := "loop.example/g00778/laws.FnExactSumOf", spec := "fnExactSumOf", apart := false, narrowed := true }
def FnExactSumOfUptoSaid : Prop := fnExactSumOfUptoRow.holds Try.pinned (OpenSpec.upto fnExactSumOfSpec)

end Rows
end Go.Proofs.Ytpjfjaceebohpaa
