/- For every row of bytes, DecodeModel answers what the reference's DecodeModel answers, in every field, leaves its argument as it was, and what it gives back lies in new memory; conditions: none beyond the row's own (longer rows than 2 to the 20 are answered true ahead). -/
import Derived.Test.YtclpojeofclbjaaRows
import Derived.Test.YtclpojeofclbjaaPFnExactDecodeModelx0
import Derived.Test.YtclpojeofclbjaaPFnExactDecodeModelx1
import Derived.Test.YtclpojeofclbjaaPFnExactDecodeModelx2
import Derived.Test.YtclpojeofclbjaaPFnExactDecodeModelx3
import Derived.Test.YtclpojeofclbjaaPFnExactDecodeModelx4
import Derived.Test.YtclpojeofclbjaaPFnExactDecodeModelx5
import Derived.Test.YtclpojeofclbjaaPFnExactDecodeModelx6
import Derived.Test.YtclpojeofclbjaaPFnExactDecodeModelx7
import Derived.Test.YtclpojeofclbjaaPFnExactDecodeModelx8
import Derived.Test.YtclpojeofclbjaaPFnExactDecodeModelx9
import Derived.Test.YtclpojeofclbjaaPFnExactDecodeModelx10
import Derived.Test.YtclpojeofclbjaaPFnExactDecodeModelx11
import Derived.Test.YtclpojeofclbjaaPFnExactDecodeModelx12
import Derived.Test.YtclpojeofclbjaaPFnExactDecodeModelx13
import Derived.Test.YtclpojeofclbjaaPFnExactDecodeModelx14
import Derived.Test.YtclpojeofclbjaaPFnExactDecodeModelx15
import Derived.Test.YtclpojeofclbjaaPFnExactDecodeModelx16
import Derived.Test.YtclpojeofclbjaaPFnExactDecodeModelx17
import Derived.Test.YtclpojeofclbjaaPFnExactDecodeModelx18
import Derived.Test.YtclpojeofclbjaaPFnExactDecodeModelx19
import Derived.Test.YtclpojeofclbjaaPureFnExactDecodeModel
import Derived.Test.YtclpojeofclbjaaRowOpVD
import Derived.WalkKit
import Derived.ProofKit
import Derived.OpenShut
import Derived.ShutString
import Derived.ChangeOld
import Derived.Below
import Derived.SizedLaws
namespace Go.Proofs.Ytclpojeofclbjaa.fnExactDecodeModel
open Go.ChangeShapes Go.WideShapes Go.ChangeAt Go.RowKit Go.Proofs.Ytclpojeofclbjaa.RowOpen Go.Proofs.YtclpojeofclbjaaW.PrintWords Go.Proofs.Ytclpojeofclbjaa.PFnExactDecodeModel
open Go.ChangeMaps (open_string shut_string)
set_option linter.unusedVariables false
theorem own : ownKnob Try.prog.godebug = none := by kernel_rfl
theorem laidOut : laidOutB Try.prog = true := by kernel_rfl
set_option maxRecDepth 100000 in
theorem lifted (os : Os) (started : os.Started) (H : Type) (enc : TypeId × Value → H) :
    ReturnsInHanded {} Try.checked os 6 .any (Rows.fnExactDecodeModelSpec.pre6 enc Try.prog Try.f6 Rows.fnExactDecodeModelRow.domain false) (Rows.fnExactDecodeModelSpec.post enc Try.prog Try.f6 false true false false) := by
  refine returnsInHanded_of_change_sized (C := Try.checked) own started (by kernel_rfl) Try.func6
    (ChangeSpec.witness6 (enc := enc) (C := Try.checked) false ⟨#[], #[.slice none 0 0], []⟩ 8 (by kernel_rfl) (by kernel_rfl) (by kernel_rfl) (by kernel_rfl)) ?_
  intro W base args ds gs before hval0 hW hcnd hsz0 _
  have hval : ∀ (j : Nat) t v, Try.f6.params[j]? = some t → args[j]? = some v → Value.okWide Try.prog W .any base t v := hval0
  have hW' := hW
  obtain ⟨p, q, hA0, hV, rfl, hfz, hnd⟩ := hW
  have hA : DataW.TrodAll enc Try.prog W 0 (fun _ => true) true Try.f6.params.toList args.toList ds p := hA0
  rw [Try.params6] at hA hval
  obtain ⟨v0, vs0, d0, ds0, p0, q0, hargs, rfl, rfl, h0, r0⟩ := trodAll_cons hA
  obtain ⟨rfl, rfl, rfl⟩ := trodAll_nil r0
  obtain rfl : args = #[v0] := by cases args; simp_all
  obtain ⟨rfl, rfl⟩ := trodVars_none hV
  have k0 := h0
  have lt0 : ∀ x ∈ p0, x.block < W.heap.size := by obtain ⟨m, hm⟩ := k0; exact DataW.trod_lt m _ _ _ hm
  obtain ⟨l0, A0, c0, rfl, hl0, hr0, hg0⟩ := opens_slice_arg Try.underlying62 (hval 0 62 v0 rfl rfl) (opens_slice (0 : Int) Try.underlying62 (by kernel_rfl) (opens_int Try.underlying5)) h0
  clear hA0 hval0 hsz0
  obtain ⟨k, hp⟩ := Pure.FnExactDecodeModel l0 hg0
  refine calls_of_args (args' := #[.slice A0 l0.length c0]) rfl ?_
  refine (laws_FnExactDecodeModel.calls k A0 c0 l0 W hr0 hl0 hp).mono fun e W' ⟨he, bel0⟩ => ?_
  have bel : Below W.heap.size W W' := bel0
  subst he
  exact ⟨_, rfl, _, _, _, [], _, [], hW', trodAll_mk1 (shut_bool Try.underlying4 _), (trodAll_cons_mk (Below.trod laidOut (by kernel_rfl) (of_decide_eq_true (by kernel_rfl)) k0 bel lt0) trodAll_mk0), rfl, bel.frame _, fun h => by cases h⟩
theorem over : Rows.fnExactDecodeModelRow.holds Try.pinned (OpenSpec.ofChange Rows.fnExactDecodeModelSpec) :=
  OpenClaim.holds_of_wide 6 Try.f6 rfl rfl rfl rfl rfl rfl rfl ⟨rfl, rfl, rfl, rfl, rfl⟩ rfl rfl rfl rfl rfl (by kernel_rfl) Try.func6 (by kernel_rfl)
    (of_decide_eq_true (by kernel_rfl)) (by unfold Func.isWrapper; first | (rw [if_pos (by decide +kernel)]; kernel_rfl) | (rw [if_neg (by decide +kernel)]; exact ⟨rfl, rfl⟩))
    (fun os started H enc _ => lifted os started H enc)
theorem proved : Rows.FnExactDecodeModelSaid := over
#print axioms proved
end Go.Proofs.Ytclpojeofclbjaa.fnExactDecodeModel
namespace Go.Proofs.Ytclpojeofclbjaa
/-- The row, under a short name, for the claim. -/
theorem fnExactDecodeModel_holds : Rows.FnExactDecodeModelSaid := fnExactDecodeModel.proved
end Go.Proofs.Ytclpojeofclbjaa
