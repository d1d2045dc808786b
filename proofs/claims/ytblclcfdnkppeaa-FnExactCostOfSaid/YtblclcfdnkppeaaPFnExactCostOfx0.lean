-- Printed by the session's own program (wip/myprint.py) for this claim out of the translation. Not trusted: Lean checks it.
import Derived.Test.YtblclcfdnkppeaaProg
import Derived.Below
import Derived.Deep.Draws
import Derived.Deep.AppendLies
import Derived.Maps.AppendAt
import Derived.OwnWalk
import Derived.Laws.BytesArg
import Derived.Laws.MakeOwn
import Derived.Laws.OwnMore
import Derived.Deep.OwnRows
import Derived.Tactics
import Derived.Lib.ConvBytes
import Derived.Laws.Slices
import Derived.WalkKit
import Derived.KernelRfl
import Derived.RowKit3
import Derived.Deep.LoopGhost
import Derived.Deep.QuietTactic
import Derived.BigQuiet
import Derived.WideLaws
import Derived.Deep.DeepCutAuto
import Derived.Deep.CutBlock
import Derived.Deep.RegionHeld3
import Derived.Laws.Rows
import Derived.Lib.AppendStr
import Derived.ArgAppend
import Derived.Laws.IdiomCopy
import Derived.OrdersHeld
import Derived.Laws.BitsLemmas
import Derived.RowKit
import Derived.Test.YtblclcfdnkppeaaWWords
import Derived.Test.YtblclcfdnkppeaaWLast
import Derived.Test.YtblclcfdnkppeaaWTab
import Derived.Test.YtblclcfdnkppeaaWFour
import Derived.Test.YtblclcfdnkppeaaWQPut
import Derived.Test.YtblclcfdnkppeaaWApart
import Derived.Test.YtblclcfdnkppeaaWArr
import Derived.Test.YtblclcfdnkppeaaWZeros
import Derived.Test.YtblclcfdnkppeaaWFoot
import Derived.Test.YtblclcfdnkppeaaWKept
import Derived.Test.YtblclcfdnkppeaaWShare
import Derived.Test.YtblclcfdnkppeaaWN
import Derived.Test.YtblclcfdnkppeaaWFootNe
import Derived.Test.YtblclcfdnkppeaaWAt
import Derived.Test.YtblclcfdnkppeaaWEqStruct
import Derived.Test.YtblclcfdnkppeaaWRepsOne
import Derived.Test.YtblclcfdnkppeaaWInv
import Derived.Test.YtblclcfdnkppeaaWInvWords
import Derived.Test.YtblclcfdnkppeaaWGuard
import Derived.Test.YtblclcfdnkppeaaWNEv
import Derived.Test.YtblclcfdnkppeaaWMore
namespace Go.Proofs.Ytblclcfdnkppeaa.PFnExactCostOf
open Go.RowKit Go.Proofs.YtblclcfdnkppeaaW.PrintWords Go.Proofs.YtblclcfdnkppeaaW.PrintLast Go.Proofs.YtblclcfdnkppeaaW.PrintMore
attribute [local go_sem] max2_int min2_int max_two min_two max_three min_three max_four min_four   -- for this text's walks alone
set_option linter.unusedVariables false
set_option linter.unusedSimpArgs false



def errW : Option Int → Value
  | none => .nilIface
  | some c => .iface 0 (.int .i64 c)
theorem errW_none : errW none = .nilIface := rfl
theorem errW_some (c : Int) : errW (some c) = .iface 0 (.int .i64 c) := rfl

theorem info3 : (Try.prog.info? 3).map (fun i => (i.zero, i.size, i.bytes)) = some (some (.int .i64 0), 1, 8) := by kernel_rfl
theorem box_sizes {w W w1 : World} {g : Nat} (h : Below w.heap.size w W) (hb : Below W.heap.size W w1) (hg : g = W.heap.size) : Aside0 (Below w.heap.size w w1) ∧ Aside0 (w.heap.size ≤ g) ∧ Aside0 (w.heap.size ≤ g) :=
  ⟨⟨below_step h hb⟩, ⟨by rw [hg]; exact below_size h⟩, ⟨by rw [hg]; exact below_size h⟩⟩
theorem box_blk {W w1 : World} {g g2 : Nat} {o : Obj} (h : W.heap[g]? = some o) (hb : Below W.heap.size W w1) (hg : g2 = W.heap.size) : Aside0 (w1.heap[g]? = some o) ∧ Aside0 (g ≠ g2) ∧ Aside0 (g2 ≠ g) :=
  ⟨⟨blk_below h hb⟩, ⟨by rw [hg]; exact Nat.ne_of_lt (blk_lt h)⟩, ⟨by rw [hg]; exact Nat.ne_of_gt (blk_lt h)⟩⟩
theorem cells3 {w : World} {g : Nat} {t : TypeId} {c0 c1 c2 : Value} (h : w.heap[g]? = some (.cells #[c0, c1, c2] t (0, 0))) : w.cell? ⟨g, 0, none⟩ = some c0 ∧ w.cell? ⟨g, 1, none⟩ = some c1 ∧ w.cell? ⟨g, 2, none⟩ = some c2 ∧ w.frozen? ⟨g, 0, none⟩ = false ∧ w.frozen? ⟨g, 1, none⟩ = false ∧ w.frozen? ⟨g, 2, none⟩ = false :=
  ⟨(blk_cell h 0).trans rfl, (blk_cell h 1).trans rfl, (blk_cell h 2).trans rfl, blk_frozen h 0, blk_frozen h 1, blk_frozen h 2⟩
theorem cells4 {w : World} {g : Nat} {t : TypeId} {c0 c1 c2 c3 : Value} (h : w.heap[g]? = some (.cells #[c0, c1, c2, c3] t (0, 0))) : w.cell? ⟨g, 0, none⟩ = some c0 ∧ w.cell? ⟨g, 1, none⟩ = some c1 ∧ w.cell? ⟨g, 2, none⟩ = some c2 ∧ w.cell? ⟨g, 3, none⟩ = some c3 ∧ w.frozen? ⟨g, 0, none⟩ = false ∧ w.frozen? ⟨g, 1, none⟩ = false ∧ w.frozen? ⟨g, 2, none⟩ = false ∧ w.frozen? ⟨g, 3, none⟩ = false :=
  ⟨(blk_cell h 0).trans rfl, (blk_cell h 1).trans rfl, (blk_cell h 2).trans rfl, (blk_cell h 3).trans rfl, blk_frozen h 0, blk_frozen h 1, blk_frozen h 2, blk_frozen h 3⟩
theorem cells9 {w : World} {g : Nat} {t : TypeId} {c0 c1 c2 c3 c4 c5 c6 c7 c8 : Value} (h : w.heap[g]? = some (.cells #[c0, c1, c2, c3, c4, c5, c6, c7, c8] t (0, 0))) : w.cell? ⟨g, 0, none⟩ = some c0 ∧ w.cell? ⟨g, 1, none⟩ = some c1 ∧ w.cell? ⟨g, 2, none⟩ = some c2 ∧ w.cell? ⟨g, 3, none⟩ = some c3 ∧ w.cell? ⟨g, 4, none⟩ = some c4 ∧ w.cell? ⟨g, 5, none⟩ = some c5 ∧ w.cell? ⟨g, 6, none⟩ = some c6 ∧ w.cell? ⟨g, 7, none⟩ = some c7 ∧ w.cell? ⟨g, 8, none⟩ = some c8 ∧ w.frozen? ⟨g, 0, none⟩ = false ∧ w.frozen? ⟨g, 1, none⟩ = false ∧ w.frozen? ⟨g, 2, none⟩ = false ∧ w.frozen? ⟨g, 3, none⟩ = false ∧ w.frozen? ⟨g, 4, none⟩ = false ∧ w.frozen? ⟨g, 5, none⟩ = false ∧ w.frozen? ⟨g, 6, none⟩ = false ∧ w.frozen? ⟨g, 7, none⟩ = false ∧ w.frozen? ⟨g, 8, none⟩ = false :=
  ⟨(blk_cell h 0).trans rfl, (blk_cell h 1).trans rfl, (blk_cell h 2).trans rfl, (blk_cell h 3).trans rfl, (blk_cell h 4).trans rfl, (blk_cell h 5).trans rfl, (blk_cell h 6).trans rfl, (blk_cell h 7).trans rfl, (blk_cell h 8).trans rfl, blk_frozen h 0, blk_frozen h 1, blk_frozen h 2, blk_frozen h 3, blk_frozen h 4, blk_frozen h 5, blk_frozen h 6, blk_frozen h 7, blk_frozen h 8⟩
theorem blk_now {W : World} {g : Nat} {o : Obj} (h : W.heap[g]? = some o := by (with_reducible repeat (first | refine blk_drewN ?_ _ | refine blk_drew ?_ | refine blk_alloc ?_ _)); exact Aside0.out (by with_reducible assumption)) : W.heap[g]? = some o := h
theorem bel_now {n : Nat} {w W : World} (h : Below n w W := by repeat (first | (with_reducible first | exact Aside0.out (by with_reducible assumption) | apply below_alloc | apply pw_below_drewN | apply below_drew1 | refine below_set ?_ (Aside0.out (by with_reducible assumption))) | exact Aside0.out (by assumption))) : Below n w W := h
theorem blk_on {W w1 : World} (g : Nat) {o : Obj} (hb : Below W.heap.size W w1) (h : W.heap[g]? = some o := by exact blk_now) : Aside0 (w1.heap[g]? = some o) := ⟨blk_below h hb⟩
theorem bel_on (w : World) {W w1 : World} (hb : Below W.heap.size W w1) (h : Below w.heap.size w W := by exact bel_now) : Aside0 (Below w.heap.size w w1) := ⟨below_step h hb⟩
theorem box_on {W w1 : World} (g : Nat) {g2 : Nat} {o : Obj} (hb : Below W.heap.size W w1) (hg : g2 = W.heap.size) (h : W.heap[g]? = some o := by exact blk_now) : Aside0 (w1.heap[g]? = some o) ∧ Aside0 (g ≠ g2) ∧ Aside0 (g2 ≠ g) := box_blk h hb hg
theorem box_at (w : World) {W w1 : World} {g : Nat} (hb : Below W.heap.size W w1) (hg : g = W.heap.size) (h : Below w.heap.size w W := by exact bel_now) : Aside0 (Below w.heap.size w w1) ∧ Aside0 (w.heap.size ≤ g) ∧ Aside0 (w.heap.size ≤ g) := box_sizes h hb hg
-- the values' own types

end Go.Proofs.Ytblclcfdnkppeaa.PFnExactCostOf
