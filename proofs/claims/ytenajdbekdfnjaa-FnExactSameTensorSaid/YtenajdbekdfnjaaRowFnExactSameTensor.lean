/- For every two tensors that the law lets in, the program's SameTensor and the reference's return the same (the law FnExactSameTensor answers true). No condition. -/
import Derived.Test.YtenajdbekdfnjaaRows
import Derived.Test.YtenajdbekdfnjaaPFnExactSameTensorx0
import Derived.Test.YtenajdbekdfnjaaPFnExactSameTensorx1
import Derived.Test.YtenajdbekdfnjaaPFnExactSameTensorx2
import Derived.Test.YtenajdbekdfnjaaPFnExactSameTensorx3
import Derived.Test.YtenajdbekdfnjaaPFnExactSameTensorx4
import Derived.Test.YtenajdbekdfnjaaPFnExactSameTensorx5
import Derived.Test.YtenajdbekdfnjaaPFnExactSameTensorx6
import Derived.Test.YtenajdbekdfnjaaPFnExactSameTensorx7
import Derived.Test.YtenajdbekdfnjaaPureFnExactSameTensor
import Derived.Test.YtenajdbekdfnjaaRowOpen
import Derived.WalkKit
import Derived.ProofKit
import Derived.OpenShut
import Derived.ShutString
import Derived.ChangeOld
import Derived.Below
import Derived.SizedLaws
namespace Go.Proofs.Ytenajdbekdfnjaa.fnExactSameTensor
open Go.ChangeShapes Go.WideShapes Go.ChangeAt Go.RowKit Go.Proofs.Ytenajdbekdfnjaa.RowOpen Go.Proofs.YtenajdbekdfnjaaW.PrintWords Go.Proofs.Ytenajdbekdfnjaa.PFnExactSameTensor
open Go.ChangeMaps (open_string shut_string)
set_option linter.unusedVariables false
theorem own : ownKnob Try.prog.godebug = none := by kernel_rfl
theorem laidOut : laidOutB Try.prog = true := by kernel_rfl
set_option maxRecDepth 100000 in
theorem lifted (os : Os) (started : os.Started) (H : Type) (enc : TypeId × Value → H) :
    ReturnsInHanded {} Try.checked os 13 .any (Rows.fnExactSameTensorSpec.pre6 enc Try.prog Try.f13 Rows.fnExactSameTensorRow.domain false) (Rows.fnExactSameTensorSpec.post enc Try.prog Try.f13 false true false false) := by
  refine returnsInHanded_of_change_sized (C := Try.checked) own started (by kernel_rfl) Try.func13
    (ChangeSpec.witness6 (enc := enc) (C := Try.checked) false ⟨#[], #[.agg #[.int .i64 0, .int .i64 0, .int .i64 0, .slice none 0 0], .agg #[.int .i64 0, .int .i64 0, .int .i64 0, .slice none 0 0]], []⟩ 8 (by kernel_rfl) (by kernel_rfl) (by kernel_rfl) (by kernel_rfl)) ?_
  intro W base args ds gs before hval0 hW hcnd hsz0 _
  have hval : ∀ (j : Nat) t v, Try.f13.params[j]? = some t → args[j]? = some v → Value.okWide Try.prog W .any base t v := hval0
  have hW' := hW
  obtain ⟨p, q, hA0, hV, rfl, hfz, hnd⟩ := hW
  have hA : DataW.TrodAll enc Try.prog W 0 (fun _ => true) true Try.f13.params.toList args.toList ds p := hA0
  rw [Try.params13] at hA hval
  obtain ⟨v0, vs0, d0, ds0, p0, q0, hargs, rfl, rfl, h0, r0⟩ := trodAll_cons hA
  obtain ⟨v1, vs1, d1, ds1, p1, q1, rfl, rfl, rfl, h1, r1⟩ := trodAll_cons r0
  obtain ⟨rfl, rfl, rfl⟩ := trodAll_nil r1
  obtain rfl : args = #[v0, v1] := by cases args; simp_all
  obtain ⟨rfl, rfl⟩ := trodVars_none hV
  have k0 := h0
  have lt0 : ∀ x ∈ p0, x.block < W.heap.size := by obtain ⟨m, hm⟩ := k0; exact DataW.trod_lt m _ _ _ hm
  obtain ⟨⟨⟨a0_0_0, a0_0_1, a0_0_2⟩, l0_1⟩, lx0, rfl, hk0, hg0⟩ := opens_arg Try.underlying56 (hval 0 56 v0 rfl rfl) (opens_prod Try.underlying56 (by kernel_rfl) (opensF_cons rfl (by kernel_rfl) (opens_prod Try.underlying54 (by kernel_rfl) (opensF_cons rfl (by kernel_rfl) (opens_int Try.underlying3) (opensF_cons rfl (by kernel_rfl) (opens_int Try.underlying3) (opensF_one rfl (by kernel_rfl) (opens_int Try.underlying3))))) (opensF_one rfl (by kernel_rfl) (opens_slice (0 : Int) Try.underlying24 (by kernel_rfl) (opens_int Try.underlying3))))) h0
  obtain ⟨_, _, rfl, ⟨_, _, rfl, rfl, ⟨_, _, rfl, rfl, rfl⟩⟩, ⟨A0_1, c0_1, rfl, hl0_1, hr0_1⟩⟩ := hk0
  have k1 := h1
  have lt1 : ∀ x ∈ p1, x.block < W.heap.size := by obtain ⟨m, hm⟩ := k1; exact DataW.trod_lt m _ _ _ hm
  obtain ⟨⟨⟨a1_0_0, a1_0_1, a1_0_2⟩, l1_1⟩, lx1, rfl, hk1, hg1⟩ := opens_arg Try.underlying56 (hval 1 56 v1 rfl rfl) (opens_prod Try.underlying56 (by kernel_rfl) (opensF_cons rfl (by kernel_rfl) (opens_prod Try.underlying54 (by kernel_rfl) (opensF_cons rfl (by kernel_rfl) (opens_int Try.underlying3) (opensF_cons rfl (by kernel_rfl) (opens_int Try.underlying3) (opensF_one rfl (by kernel_rfl) (opens_int Try.underlying3))))) (opensF_one rfl (by kernel_rfl) (opens_slice (0 : Int) Try.underlying24 (by kernel_rfl) (opens_int Try.underlying3))))) h1
  obtain ⟨_, _, rfl, ⟨_, _, rfl, rfl, ⟨_, _, rfl, rfl, rfl⟩⟩, ⟨A1_1, c1_1, rfl, hl1_1, hr1_1⟩⟩ := hk1
  clear hA0 hval0 hsz0
  obtain ⟨k, hp⟩ := Pure.FnExactSameTensor a0_0_0 a0_0_1 a0_0_2 l0_1 a1_0_0 a1_0_1 a1_0_2 l1_1 hg0 hg1
  refine calls_of_args (args' := #[.agg #[.int .i64 a0_0_0, .int .i64 a0_0_1, .int .i64 a0_0_2, .slice A0_1 l0_1.length c0_1], .agg #[.int .i64 a1_0_0, .int .i64 a1_0_1, .int .i64 a1_0_2, .slice A1_1 l1_1.length c1_1]]) rfl ?_
  refine (laws_FnExactSameTensor.calls k a0_0_0 a0_0_1 a0_0_2 A0_1 c0_1 l0_1 a1_0_0 a1_0_1 a1_0_2 A1_1 c1_1 l1_1 W hr0_1 hl0_1 hr1_1 hl1_1 hp).mono fun e W' ⟨he, bel0⟩ => ?_
  have bel : Below W.heap.size W W' := bel0
  subst he
  exact ⟨_, rfl, _, _, _, [], _, [], hW', trodAll_mk1 (shut_bool Try.underlying4 _), (trodAll_cons_mk (Below.trod laidOut (by kernel_rfl) (of_decide_eq_true (by kernel_rfl)) k0 bel lt0) (trodAll_cons_mk (Below.trod laidOut (by kernel_rfl) (of_decide_eq_true (by kernel_rfl)) k1 bel lt1) trodAll_mk0)), rfl, bel.frame _, fun h => by cases h⟩
theorem over : Rows.fnExactSameTensorRow.holds Try.pinned (OpenSpec.ofChange Rows.fnExactSameTensorSpec) :=
  OpenClaim.holds_of_wide 13 Try.f13 rfl rfl rfl rfl rfl rfl rfl ⟨rfl, rfl, rfl, rfl, rfl⟩ rfl rfl rfl rfl rfl (by kernel_rfl) Try.func13 (by kernel_rfl)
    (of_decide_eq_true (by kernel_rfl)) (by unfold Func.isWrapper; first | (rw [if_pos (by decide +kernel)]; kernel_rfl) | (rw [if_neg (by decide +kernel)]; exact ⟨rfl, rfl⟩))
    (fun os started H enc _ => lifted os started H enc)
theorem proved : Rows.FnExactSameTensorSaid := over
#print axioms proved
end Go.Proofs.Ytenajdbekdfnjaa.fnExactSameTensor
namespace Go.Proofs.Ytenajdbekdfnjaa
/-- The row, under a short name, for the claim. -/
theorem fnExactSameTensor_holds : Rows.FnExactSameTensorSaid := fnExactSameTensor.proved
end Go.Proofs.Ytenajdbekdfnjaa
