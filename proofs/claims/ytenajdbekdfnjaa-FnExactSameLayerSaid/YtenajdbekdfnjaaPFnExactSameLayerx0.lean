-- Printed by the session's own program (wip/myprint.py) for this claim out of the translation. Not trusted: Lean checks it.
import Derived.Test.YtenajdbekdfnjaaProg
import Derived.Below
import Derived.Deep.Draws
import Derived.Deep.AppendLies
import Derived.Maps.AppendAt
import Derived.OwnWalk
import Derived.Laws.BytesArg
import Derived.Laws.MakeOwn
import Derived.Laws.OwnMore
import Derived.Deep.OwnRows
import Derived.Tactics
import Derived.Lib.ConvBytes
import Derived.Laws.Slices
import Derived.WalkKit
import Derived.KernelRfl
import Derived.RowKit3
import Derived.Deep.LoopGhost
import Derived.Deep.QuietTactic
import Derived.BigQuiet
import Derived.WideLaws
import Derived.Deep.DeepCutAuto
import Derived.Deep.CutBlock
import Derived.Deep.RegionHeld3
import Derived.Laws.Rows
import Derived.Lib.AppendStr
import Derived.ArgAppend
import Derived.Laws.IdiomCopy
import Derived.OrdersHeld
import Derived.Laws.BitsLemmas
import Derived.RowKit
import Derived.Test.YtenajdbekdfnjaaWWords
import Derived.Test.YtenajdbekdfnjaaWLast
import Derived.Test.YtenajdbekdfnjaaWTab
import Derived.Test.YtenajdbekdfnjaaWFour
import Derived.Test.YtenajdbekdfnjaaWQPut
import Derived.Test.YtenajdbekdfnjaaWApart
import Derived.Test.YtenajdbekdfnjaaWArr
import Derived.Test.YtenajdbekdfnjaaWZeros
import Derived.Test.YtenajdbekdfnjaaWFoot
import Derived.Test.YtenajdbekdfnjaaWKept
import Derived.Test.YtenajdbekdfnjaaWShare
import Derived.Test.YtenajdbekdfnjaaWN
import Derived.Test.YtenajdbekdfnjaaWFootNe
import Derived.Test.YtenajdbekdfnjaaWAt
import Derived.Test.YtenajdbekdfnjaaWEqStruct
import Derived.Test.YtenajdbekdfnjaaWRepsOne
import Derived.Test.YtenajdbekdfnjaaWInv
import Derived.Test.YtenajdbekdfnjaaWInvWords
import Derived.Test.YtenajdbekdfnjaaWGuard
import Derived.Test.YtenajdbekdfnjaaWNEv
import Derived.Test.YtenajdbekdfnjaaWMore
namespace Go.Proofs.Ytenajdbekdfnjaa.PFnExactSameLayer
open Go.RowKit Go.Proofs.YtenajdbekdfnjaaW.PrintWords Go.Proofs.YtenajdbekdfnjaaW.PrintLast Go.Proofs.YtenajdbekdfnjaaW.PrintMore
attribute [local go_sem] max2_int min2_int max_two min_two max_three min_three max_four min_four   -- for this text's walks alone
set_option linter.unusedVariables false
set_option linter.unusedSimpArgs false



def errW : Option Int → Value
  | none => .nilIface
  | some c => .iface 0 (.int .i64 c)
theorem errW_none : errW none = .nilIface := rfl
theorem errW_some (c : Int) : errW (some c) = .iface 0 (.int .i64 c) := rfl

theorem info3 : (Try.prog.info? 3).map (fun i => (i.zero, i.size, i.bytes)) = some (some (.int .i64 0), 1, 8) := by kernel_rfl
-- the values' own types

end Go.Proofs.Ytenajdbekdfnjaa.PFnExactSameLayer
