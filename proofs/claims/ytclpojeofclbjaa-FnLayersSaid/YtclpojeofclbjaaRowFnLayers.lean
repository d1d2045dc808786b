/- For every code of bytes that the law lets in: what the drawn layer gives on the drawn tensor is what the reference gives, is TensorOk and has the shape that OutShape tells; a max is never below an avg; relu twice is relu once (the law FnLayers answers true). -/
import Derived.Test.YtclpojeofclbjaaRows
import Derived.Test.YtclpojeofclbjaaPFnLayersx0
import Derived.Test.YtclpojeofclbjaaPFnLayersx1
import Derived.Test.YtclpojeofclbjaaPFnLayersx2
import Derived.Test.YtclpojeofclbjaaPFnLayersx3
import Derived.Test.YtclpojeofclbjaaPFnLayersx4
import Derived.Test.YtclpojeofclbjaaPFnLayersx5
import Derived.Test.YtclpojeofclbjaaPFnLayersx6
import Derived.Test.YtclpojeofclbjaaPFnLayersx7
import Derived.Test.YtclpojeofclbjaaPFnLayersx8
import Derived.Test.YtclpojeofclbjaaPFnLayersx9
import Derived.Test.YtclpojeofclbjaaPFnLayersx10
import Derived.Test.YtclpojeofclbjaaPFnLayersx11
import Derived.Test.YtclpojeofclbjaaPFnLayersx12
import Derived.Test.YtclpojeofclbjaaPFnLayersx13
import Derived.Test.YtclpojeofclbjaaPFnLayersx14
import Derived.Test.YtclpojeofclbjaaPFnLayersx15
import Derived.Test.YtclpojeofclbjaaPFnLayersx16
import Derived.Test.YtclpojeofclbjaaPFnLayersx17
import Derived.Test.YtclpojeofclbjaaPFnLayersx18
import Derived.Test.YtclpojeofclbjaaPFnLayersx19
import Derived.Test.YtclpojeofclbjaaPFnLayersx20
import Derived.Test.YtclpojeofclbjaaPFnLayersx21
import Derived.Test.YtclpojeofclbjaaPFnLayersx22
import Derived.Test.YtclpojeofclbjaaPFnLayersx23
import Derived.Test.YtclpojeofclbjaaPFnLayersx24
import Derived.Test.YtclpojeofclbjaaPFnLayersx25
import Derived.Test.YtclpojeofclbjaaPureFnLayers
import Derived.Test.YtclpojeofclbjaaRowOpVL
import Derived.WalkKit
import Derived.ProofKit
import Derived.OpenShut
import Derived.ShutString
import Derived.ChangeOld
import Derived.Below
import Derived.SizedLaws
namespace Go.Proofs.Ytclpojeofclbjaa.fnLayers
open Go.ChangeShapes Go.WideShapes Go.ChangeAt Go.RowKit Go.Proofs.Ytclpojeofclbjaa.RowOpen Go.Proofs.YtclpojeofclbjaaW.PrintWords Go.Proofs.Ytclpojeofclbjaa.PFnLayers
open Go.ChangeMaps (open_string shut_string)
set_option linter.unusedVariables false
theorem own : ownKnob Try.prog.godebug = none := by kernel_rfl
theorem laidOut : laidOutB Try.prog = true := by kernel_rfl
set_option maxRecDepth 100000 in
theorem lifted (os : Os) (started : os.Started) (H : Type) (enc : TypeId × Value → H) :
    ReturnsInHanded {} Try.checked os 5 .any (Rows.fnLayersSpec.pre6 enc Try.prog Try.f5 Rows.fnLayersRow.domain false) (Rows.fnLayersSpec.post enc Try.prog Try.f5 false true false false) := by
  refine returnsInHanded_of_change_sized (C := Try.checked) own started (by kernel_rfl) Try.func5
    (ChangeSpec.witness6 (enc := enc) (C := Try.checked) false ⟨#[], #[.slice none 0 0], []⟩ 8 (by kernel_rfl) (by kernel_rfl) (by kernel_rfl) (by kernel_rfl)) ?_
  intro W base args ds gs before hval0 hW hcnd hsz0 _
  have hval : ∀ (j : Nat) t v, Try.f5.params[j]? = some t → args[j]? = some v → Value.okWide Try.prog W .any base t v := hval0
  have hW' := hW
  obtain ⟨p, q, hA0, hV, rfl, hfz, hnd⟩ := hW
  have hA : DataW.TrodAll enc Try.prog W 0 (fun _ => true) true Try.f5.params.toList args.toList ds p := hA0
  rw [Try.params5] at hA hval
  obtain ⟨v0, vs0, d0, ds0, p0, q0, hargs, rfl, rfl, h0, r0⟩ := trodAll_cons hA
  obtain ⟨rfl, rfl, rfl⟩ := trodAll_nil r0
  obtain rfl : args = #[v0] := by cases args; simp_all
  obtain ⟨rfl, rfl⟩ := trodVars_none hV
  have k0 := h0
  have lt0 : ∀ x ∈ p0, x.block < W.heap.size := by obtain ⟨m, hm⟩ := k0; exact DataW.trod_lt m _ _ _ hm
  obtain ⟨l0, A0, c0, rfl, hl0, hr0, hg0⟩ := opens_slice_arg Try.underlying62 (hval 0 62 v0 rfl rfl) (opens_slice (0 : Int) Try.underlying62 (by kernel_rfl) (opens_int Try.underlying5)) h0
  clear hA0 hval0 hsz0
  obtain ⟨k, hp⟩ := Pure.FnLayers l0 hg0
  refine calls_of_args (args' := #[.slice A0 l0.length c0]) rfl ?_
  refine (laws_FnLayers.calls k A0 c0 l0 W hr0 hl0 hp).mono fun e W' ⟨he, bel0⟩ => ?_
  have bel : Below W.heap.size W W' := bel0
  subst he
  exact ⟨_, rfl, _, _, _, [], _, [], hW', trodAll_mk1 (shut_bool Try.underlying4 _), (trodAll_cons_mk (Below.trod laidOut (by kernel_rfl) (of_decide_eq_true (by kernel_rfl)) k0 bel lt0) trodAll_mk0), rfl, bel.frame _, fun h => by cases h⟩
theorem over : Rows.fnLayersRow.holds Try.pinned (OpenSpec.ofChange Rows.fnLayersSpec) :=
  OpenClaim.holds_of_wide 5 Try.f5 rfl rfl rfl rfl rfl rfl rfl ⟨rfl, rfl, rfl, rfl, rfl⟩ rfl rfl rfl rfl rfl (by kernel_rfl) Try.func5 (by kernel_rfl)
    (of_decide_eq_true (by kernel_rfl)) (by unfold Func.isWrapper; first | (rw [if_pos (by decide +kernel)]; kernel_rfl) | (rw [if_neg (by decide +kernel)]; exact ⟨rfl, rfl⟩))
    (fun os started H enc _ => lifted os started H enc)
theorem proved : Rows.FnLayersSaid := over
#print axioms proved
end Go.Proofs.Ytclpojeofclbjaa.fnLayers
namespace Go.Proofs.Ytclpojeofclbjaa
/-- The row, under a short name, for the claim. -/
theorem fnLayers_holds : Rows.FnLayersSaid := fnLayers.proved
end Go.Proofs.Ytclpojeofclbjaa
