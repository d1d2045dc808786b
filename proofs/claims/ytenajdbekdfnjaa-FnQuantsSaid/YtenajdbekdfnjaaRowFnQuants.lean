/- For every code of bytes that the law lets in, what is drawn from it keeps the law FnQuants: MulHigh, AddSat, Sat8, MultFor and Requant stay in their bounds and Requant is within 1 of the exact product (the law answers true). No condition. -/
import Derived.Test.YtenajdbekdfnjaaRows
import Derived.Test.YtenajdbekdfnjaaPFnQuantsx0
import Derived.Test.YtenajdbekdfnjaaPFnQuantsx1
import Derived.Test.YtenajdbekdfnjaaPFnQuantsx2
import Derived.Test.YtenajdbekdfnjaaPFnQuantsx3
import Derived.Test.YtenajdbekdfnjaaPureFnQuants
import Derived.Test.YtenajdbekdfnjaaRowOpen
import Derived.WalkKit
import Derived.ProofKit
import Derived.OpenShut
import Derived.ShutString
import Derived.ChangeOld
import Derived.Below
import Derived.SizedLaws
namespace Go.Proofs.Ytenajdbekdfnjaa.fnQuants
open Go.ChangeShapes Go.WideShapes Go.ChangeAt Go.RowKit Go.Proofs.Ytenajdbekdfnjaa.RowOpen Go.Proofs.YtenajdbekdfnjaaW.PrintWords Go.Proofs.Ytenajdbekdfnjaa.PFnQuants
open Go.ChangeMaps (open_string shut_string)
set_option linter.unusedVariables false
theorem own : ownKnob Try.prog.godebug = none := by kernel_rfl
theorem laidOut : laidOutB Try.prog = true := by kernel_rfl
set_option maxRecDepth 100000 in
theorem lifted (os : Os) (started : os.Started) (H : Type) (enc : TypeId × Value → H) :
    ReturnsInHanded {} Try.checked os 8 .any (Rows.fnQuantsSpec.pre6 enc Try.prog Try.f8 Rows.fnQuantsRow.domain false) (Rows.fnQuantsSpec.post enc Try.prog Try.f8 false true false false) := by
  refine returnsInHanded_of_change_sized (C := Try.checked) own started (by kernel_rfl) Try.func8
    (ChangeSpec.witness6 (enc := enc) (C := Try.checked) false ⟨#[], #[.slice none 0 0], []⟩ 8 (by kernel_rfl) (by kernel_rfl) (by kernel_rfl) (by kernel_rfl)) ?_
  intro W base args ds gs before hval0 hW hcnd hsz0 _
  have hval : ∀ (j : Nat) t v, Try.f8.params[j]? = some t → args[j]? = some v → Value.okWide Try.prog W .any base t v := hval0
  have hW' := hW
  obtain ⟨p, q, hA0, hV, rfl, hfz, hnd⟩ := hW
  have hA : DataW.TrodAll enc Try.prog W 0 (fun _ => true) true Try.f8.params.toList args.toList ds p := hA0
  rw [Try.params8] at hA hval
  obtain ⟨v0, vs0, d0, ds0, p0, q0, hargs, rfl, rfl, h0, r0⟩ := trodAll_cons hA
  obtain ⟨rfl, rfl, rfl⟩ := trodAll_nil r0
  obtain rfl : args = #[v0] := by cases args; simp_all
  obtain ⟨rfl, rfl⟩ := trodVars_none hV
  have k0 := h0
  have lt0 : ∀ x ∈ p0, x.block < W.heap.size := by obtain ⟨m, hm⟩ := k0; exact DataW.trod_lt m _ _ _ hm
  obtain ⟨l0, A0, c0, rfl, hl0, hr0, hg0⟩ := opens_slice_arg Try.underlying28 (hval 0 28 v0 rfl rfl) (opens_slice (0 : Int) Try.underlying28 (by kernel_rfl) (opens_int Try.underlying5)) h0
  clear hA0 hval0 hsz0
  obtain ⟨k, hp⟩ := Pure.FnQuants l0 hg0
  refine calls_of_args (args' := #[.slice A0 l0.length c0]) rfl ?_
  refine (laws_FnQuants.calls k A0 c0 l0 true W hr0 hl0 hp).mono fun e W' ⟨he, bel0⟩ => ?_
  have bel : Below W.heap.size W W' := bel0
  subst he
  exact ⟨_, rfl, _, _, _, [], _, [], hW', trodAll_mk1 (shut_bool Try.underlying4 _), (trodAll_cons_mk (Below.trod laidOut (by kernel_rfl) (of_decide_eq_true (by kernel_rfl)) k0 bel lt0) trodAll_mk0), rfl, bel.frame _, fun h => by cases h⟩
theorem over : Rows.fnQuantsRow.holds Try.pinned (OpenSpec.ofChange Rows.fnQuantsSpec) :=
  OpenClaim.holds_of_wide 8 Try.f8 rfl rfl rfl rfl rfl rfl rfl ⟨rfl, rfl, rfl, rfl, rfl⟩ rfl rfl rfl rfl rfl (by kernel_rfl) Try.func8 (by kernel_rfl)
    (of_decide_eq_true (by kernel_rfl)) (by unfold Func.isWrapper; first | (rw [if_pos (by decide +kernel)]; kernel_rfl) | (rw [if_neg (by decide +kernel)]; exact ⟨rfl, rfl⟩))
    (fun os started H enc _ => lifted os started H enc)
theorem proved : Rows.FnQuantsSaid := over
#print axioms proved
end Go.Proofs.Ytenajdbekdfnjaa.fnQuants
namespace Go.Proofs.Ytenajdbekdfnjaa
/-- The row, under a short name, for the claim. -/
theorem fnQuants_holds : Rows.FnQuantsSaid := fnQuants.proved
end Go.Proofs.Ytenajdbekdfnjaa
