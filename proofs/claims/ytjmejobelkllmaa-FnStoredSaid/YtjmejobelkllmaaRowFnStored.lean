/- For every code of bytes that the law lets in: DecodeModel of EncodeModel of the drawn model is the model and its head tells its shape and its number of layers; cut anywhere it is not read; with a byte more it is told as long or as of a wrong sum; a model that is not encoded has the sum -1 (the law FnStored answers true). -/
import Derived.Test.YtjmejobelkllmaaRows
import Derived.Test.YtjmejobelkllmaaPFnStoredx0
import Derived.Test.YtjmejobelkllmaaPFnStoredx1
import Derived.Test.YtjmejobelkllmaaPFnStoredx2
import Derived.Test.YtjmejobelkllmaaPFnStoredx3
import Derived.Test.YtjmejobelkllmaaPFnStoredx4
import Derived.Test.YtjmejobelkllmaaPFnStoredx5
import Derived.Test.YtjmejobelkllmaaPFnStoredx6
import Derived.Test.YtjmejobelkllmaaPFnStoredx7
import Derived.Test.YtjmejobelkllmaaPFnStoredx8
import Derived.Test.YtjmejobelkllmaaPFnStoredx9
import Derived.Test.YtjmejobelkllmaaPFnStoredx10
import Derived.Test.YtjmejobelkllmaaPFnStoredx11
import Derived.Test.YtjmejobelkllmaaPFnStoredx12
import Derived.Test.YtjmejobelkllmaaPFnStoredx13
import Derived.Test.YtjmejobelkllmaaPFnStoredx14
import Derived.Test.YtjmejobelkllmaaPFnStoredx15
import Derived.Test.YtjmejobelkllmaaPFnStoredx16
import Derived.Test.YtjmejobelkllmaaPFnStoredx17
import Derived.Test.YtjmejobelkllmaaPFnStoredx18
import Derived.Test.YtjmejobelkllmaaPFnStoredx19
import Derived.Test.YtjmejobelkllmaaPFnStoredx20
import Derived.Test.YtjmejobelkllmaaPFnStoredx21
import Derived.Test.YtjmejobelkllmaaPFnStoredx22
import Derived.Test.YtjmejobelkllmaaPFnStoredx23
import Derived.Test.YtjmejobelkllmaaPureFnStored
import Derived.Test.YtjmejobelkllmaaRowOpVS
import Derived.WalkKit
import Derived.ProofKit
import Derived.OpenShut
import Derived.ShutString
import Derived.ChangeOld
import Derived.Below
import Derived.SizedLaws
namespace Go.Proofs.Ytjmejobelkllmaa.fnStored
open Go.ChangeShapes Go.WideShapes Go.ChangeAt Go.RowKit Go.Proofs.Ytjmejobelkllmaa.RowOpen Go.Proofs.YtjmejobelkllmaaW.PrintWords Go.Proofs.Ytjmejobelkllmaa.PFnStored
open Go.ChangeMaps (open_string shut_string)
set_option linter.unusedVariables false
theorem own : ownKnob Try.prog.godebug = none := by kernel_rfl
theorem laidOut : laidOutB Try.prog = true := by kernel_rfl
set_option maxRecDepth 100000 in
theorem lifted (os : Os) (started : os.Started) (H : Type) (enc : TypeId × Value → H) :
    ReturnsInHanded {} Try.checked os 4 .any (Rows.fnStoredSpec.pre6 enc Try.prog Try.f4 Rows.fnStoredRow.domain false) (Rows.fnStoredSpec.post enc Try.prog Try.f4 false true false false) := by
  refine returnsInHanded_of_change_sized (C := Try.checked) own started (by kernel_rfl) Try.func4
    (ChangeSpec.witness6 (enc := enc) (C := Try.checked) false ⟨#[], #[.slice none 0 0], []⟩ 8 (by kernel_rfl) (by kernel_rfl) (by kernel_rfl) (by kernel_rfl)) ?_
  intro W base args ds gs before hval0 hW hcnd hsz0 _
  have hval : ∀ (j : Nat) t v, Try.f4.params[j]? = some t → args[j]? = some v → Value.okWide Try.prog W .any base t v := hval0
  have hW' := hW
  obtain ⟨p, q, hA0, hV, rfl, hfz, hnd⟩ := hW
  have hA : DataW.TrodAll enc Try.prog W 0 (fun _ => true) true Try.f4.params.toList args.toList ds p := hA0
  rw [Try.params4] at hA hval
  obtain ⟨v0, vs0, d0, ds0, p0, q0, hargs, rfl, rfl, h0, r0⟩ := trodAll_cons hA
  obtain ⟨rfl, rfl, rfl⟩ := trodAll_nil r0
  obtain rfl : args = #[v0] := by cases args; simp_all
  obtain ⟨rfl, rfl⟩ := trodVars_none hV
  have k0 := h0
  have lt0 : ∀ x ∈ p0, x.block < W.heap.size := by obtain ⟨m, hm⟩ := k0; exact DataW.trod_lt m _ _ _ hm
  obtain ⟨l0, A0, c0, rfl, hl0, hr0, hg0⟩ := opens_slice_arg Try.underlying22 (hval 0 22 v0 rfl rfl) (opens_slice (0 : Int) Try.underlying22 (by kernel_rfl) (opens_int Try.underlying5)) h0
  clear hA0 hval0 hsz0
  obtain ⟨k, hp⟩ := Pure.FnStored l0 hg0
  refine calls_of_args (args' := #[.slice A0 l0.length c0]) rfl ?_
  refine (laws_FnStored.calls k A0 c0 l0 W hr0 hl0 hp).mono fun e W' ⟨he, bel0⟩ => ?_
  have bel : Below W.heap.size W W' := bel0
  subst he
  exact ⟨_, rfl, _, _, _, [], _, [], hW', trodAll_mk1 (shut_bool Try.underlying4 _), (trodAll_cons_mk (Below.trod laidOut (by kernel_rfl) (of_decide_eq_true (by kernel_rfl)) k0 bel lt0) trodAll_mk0), rfl, bel.frame _, fun h => by cases h⟩
theorem over : Rows.fnStoredRow.holds Try.pinned (OpenSpec.ofChange Rows.fnStoredSpec) :=
  OpenClaim.holds_of_wide 4 Try.f4 rfl rfl rfl rfl rfl rfl rfl ⟨rfl, rfl, rfl, rfl, rfl⟩ rfl rfl rfl rfl rfl (by kernel_rfl) Try.func4 (by kernel_rfl)
    (of_decide_eq_true (by kernel_rfl)) (by unfold Func.isWrapper; first | (rw [if_pos (by decide +kernel)]; kernel_rfl) | (rw [if_neg (by decide +kernel)]; exact ⟨rfl, rfl⟩))
    (fun os started H enc _ => lifted os started H enc)
theorem proved : Rows.FnStoredSaid := over
#print axioms proved
end Go.Proofs.Ytjmejobelkllmaa.fnStored
namespace Go.Proofs.Ytjmejobelkllmaa
/-- The row, under a short name, for the claim. -/
theorem fnStored_holds : Rows.FnStoredSaid := fnStored.proved
end Go.Proofs.Ytjmejobelkllmaa
