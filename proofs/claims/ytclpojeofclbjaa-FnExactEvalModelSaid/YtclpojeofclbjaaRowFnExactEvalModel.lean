/- For every model and tensor that the law lets in, the program's EvalModel and the reference's return the same, in new memory (the law FnExactEvalModel answers true). No condition. -/
import Derived.Test.YtclpojeofclbjaaRows
import Derived.Test.YtclpojeofclbjaaPFnExactEvalModelx0
import Derived.Test.YtclpojeofclbjaaPFnExactEvalModelx1
import Derived.Test.YtclpojeofclbjaaPFnExactEvalModelx2
import Derived.Test.YtclpojeofclbjaaPFnExactEvalModelx3
import Derived.Test.YtclpojeofclbjaaPFnExactEvalModelx4
import Derived.Test.YtclpojeofclbjaaPFnExactEvalModelx5
import Derived.Test.YtclpojeofclbjaaPFnExactEvalModelx6
import Derived.Test.YtclpojeofclbjaaPFnExactEvalModelx7
import Derived.Test.YtclpojeofclbjaaPFnExactEvalModelx8
import Derived.Test.YtclpojeofclbjaaPFnExactEvalModelx9
import Derived.Test.YtclpojeofclbjaaPFnExactEvalModelx10
import Derived.Test.YtclpojeofclbjaaPFnExactEvalModelx11
import Derived.Test.YtclpojeofclbjaaPFnExactEvalModelx12
import Derived.Test.YtclpojeofclbjaaPFnExactEvalModelx13
import Derived.Test.YtclpojeofclbjaaPFnExactEvalModelx14
import Derived.Test.YtclpojeofclbjaaPFnExactEvalModelx15
import Derived.Test.YtclpojeofclbjaaPFnExactEvalModelx16
import Derived.Test.YtclpojeofclbjaaPFnExactEvalModelx17
import Derived.Test.YtclpojeofclbjaaPFnExactEvalModelx18
import Derived.Test.YtclpojeofclbjaaPFnExactEvalModelx19
import Derived.Test.YtclpojeofclbjaaPFnExactEvalModelx20
import Derived.Test.YtclpojeofclbjaaPFnExactEvalModelx21
import Derived.Test.YtclpojeofclbjaaPFnExactEvalModelx22
import Derived.Test.YtclpojeofclbjaaPFnExactEvalModelx23
import Derived.Test.YtclpojeofclbjaaPFnExactEvalModelx24
import Derived.Test.YtclpojeofclbjaaPureFnExactEvalModel
import Derived.Test.YtclpojeofclbjaaRowOpVM
import Derived.WalkKit
import Derived.ProofKit
import Derived.OpenShut
import Derived.ShutString
import Derived.ChangeOld
import Derived.Below
import Derived.SizedLaws
namespace Go.Proofs.Ytclpojeofclbjaa.fnExactEvalModel
open Go.ChangeShapes Go.WideShapes Go.ChangeAt Go.RowKit Go.Proofs.Ytclpojeofclbjaa.RowOpen Go.Proofs.YtclpojeofclbjaaW.PrintWords Go.Proofs.Ytclpojeofclbjaa.PFnExactEvalModel
open Go.ChangeMaps (open_string shut_string)
set_option linter.unusedVariables false
theorem own : ownKnob Try.prog.godebug = none := by kernel_rfl
theorem laidOut : laidOutB Try.prog = true := by kernel_rfl
set_option maxRecDepth 100000 in
theorem lifted (os : Os) (started : os.Started) (H : Type) (enc : TypeId × Value → H) :
    ReturnsInHanded {} Try.checked os 7 .any (Rows.fnExactEvalModelSpec.pre6 enc Try.prog Try.f7 Rows.fnExactEvalModelRow.domain false) (Rows.fnExactEvalModelSpec.post enc Try.prog Try.f7 false true false false) := by
  refine returnsInHanded_of_change_sized (C := Try.checked) own started (by kernel_rfl) Try.func7
    (ChangeSpec.witness6 (enc := enc) (C := Try.checked) false ⟨#[], #[.agg #[.int .i64 0, .int .i64 0, .int .i64 0, .slice none 0 0], .agg #[.int .i64 0, .int .i64 0, .int .i64 0, .slice none 0 0]], []⟩ 8 (by kernel_rfl) (by kernel_rfl) (by kernel_rfl) (by kernel_rfl)) ?_
  intro W base args ds gs before hval0 hW hcnd hsz0 _
  have hval : ∀ (j : Nat) t v, Try.f7.params[j]? = some t → args[j]? = some v → Value.okWide Try.prog W .any base t v := hval0
  have hW' := hW
  obtain ⟨p, q, hA0, hV, rfl, hfz, hnd⟩ := hW
  have hA : DataW.TrodAll enc Try.prog W 0 (fun _ => true) true Try.f7.params.toList args.toList ds p := hA0
  rw [Try.params7] at hA hval
  obtain ⟨v0, vs0, d0, ds0, p0, q0, hargs, rfl, rfl, h0, r0⟩ := trodAll_cons hA
  obtain ⟨v1, vs1, d1, ds1, p1, q1, rfl, rfl, rfl, h1, r1⟩ := trodAll_cons r0
  obtain ⟨rfl, rfl, rfl⟩ := trodAll_nil r1
  obtain rfl : args = #[v0, v1] := by cases args; simp_all
  obtain ⟨rfl, rfl⟩ := trodVars_none hV
  have k0 := h0
  have lt0 : ∀ x ∈ p0, x.block < W.heap.size := by obtain ⟨m, hm⟩ := k0; exact DataW.trod_lt m _ _ _ hm
  obtain ⟨⟨⟨a0_0_0, a0_0_1, a0_0_2⟩, l0_1⟩, lx0, rfl, hk0, hg0⟩ := opens_arg Try.underlying46 (hval 0 46 v0 rfl rfl) (opens_prod Try.underlying46 (by kernel_rfl) (opensF_cons rfl (by kernel_rfl) (opens_prod Try.underlying23 (by kernel_rfl) (opensF_cons rfl (by kernel_rfl) (opens_int Try.underlying3) (opensF_cons rfl (by kernel_rfl) (opens_int Try.underlying3) (opensF_one rfl (by kernel_rfl) (opens_int Try.underlying3))))) (opensF_one rfl (by kernel_rfl) (opens_slice z28 Try.underlying44 (by kernel_rfl) (show Opens enc Try.prog W 28 k28 _ from opens_struct (fun x => (x.f0, x.f1, x.f2, x.f3, x.f4, x.f5, x.f6, x.f7, x.f8)) (fun x => (⟨x.1, x.2.1, x.2.2.1, x.2.2.2.1, x.2.2.2.2.1, x.2.2.2.2.2.1, x.2.2.2.2.2.2.1, x.2.2.2.2.2.2.2.1, x.2.2.2.2.2.2.2.2⟩ : S28)) (fun _ => rfl) Try.underlying28 (by kernel_rfl) (opensF_cons rfl (by kernel_rfl) (opens_int Try.underlying3) (opensF_cons rfl (by kernel_rfl) (opens_int Try.underlying3) (opensF_cons rfl (by kernel_rfl) (opens_int Try.underlying3) (opensF_cons rfl (by kernel_rfl) (opens_int Try.underlying3) (opensF_cons rfl (by kernel_rfl) (opens_int Try.underlying3) (opensF_cons rfl (by kernel_rfl) (opens_int Try.underlying3) (opensF_cons rfl (by kernel_rfl) (opens_int Try.underlying3) (opensF_cons rfl (by kernel_rfl) (opens_slice (0 : Int) Try.underlying24 (by kernel_rfl) (opens_int Try.underlying3)) (opensF_one rfl (by kernel_rfl) (opens_slice (0 : Int) Try.underlying24 (by kernel_rfl) (opens_int Try.underlying3)))))))))))))))) h0
  obtain ⟨_, _, rfl, ⟨_, _, rfl, rfl, ⟨_, _, rfl, rfl, rfl⟩⟩, ⟨A0_1, c0_1, rfl, hl0_1, hr0_1⟩⟩ := hk0
  have k1 := h1
  have lt1 : ∀ x ∈ p1, x.block < W.heap.size := by obtain ⟨m, hm⟩ := k1; exact DataW.trod_lt m _ _ _ hm
  obtain ⟨⟨⟨a1_0_0, a1_0_1, a1_0_2⟩, l1_1⟩, lx1, rfl, hk1, hg1⟩ := opens_arg Try.underlying26 (hval 1 26 v1 rfl rfl) (opens_prod Try.underlying26 (by kernel_rfl) (opensF_cons rfl (by kernel_rfl) (opens_prod Try.underlying23 (by kernel_rfl) (opensF_cons rfl (by kernel_rfl) (opens_int Try.underlying3) (opensF_cons rfl (by kernel_rfl) (opens_int Try.underlying3) (opensF_one rfl (by kernel_rfl) (opens_int Try.underlying3))))) (opensF_one rfl (by kernel_rfl) (opens_slice (0 : Int) Try.underlying24 (by kernel_rfl) (opens_int Try.underlying3))))) h1
  obtain ⟨_, _, rfl, ⟨_, _, rfl, rfl, ⟨_, _, rfl, rfl, rfl⟩⟩, ⟨A1_1, c1_1, rfl, hl1_1, hr1_1⟩⟩ := hk1
  clear hA0 hval0 hsz0
  obtain ⟨k, hp⟩ := Pure.FnExactEvalModel a0_0_0 a0_0_1 a0_0_2 l0_1 a1_0_0 a1_0_1 a1_0_2 l1_1 hg0 hg1
  refine calls_of_args (args' := #[.agg #[.int .i64 a0_0_0, .int .i64 a0_0_1, .int .i64 a0_0_2, .slice A0_1 l0_1.length c0_1], .agg #[.int .i64 a1_0_0, .int .i64 a1_0_1, .int .i64 a1_0_2, .slice A1_1 l1_1.length c1_1]]) rfl ?_
  refine (laws_FnExactEvalModel.calls k a0_0_0 a0_0_1 a0_0_2 A0_1 c0_1 l0_1 a1_0_0 a1_0_1 a1_0_2 A1_1 c1_1 l1_1 W hr0_1 hl0_1 hr1_1 hl1_1 hp).mono fun e W' ⟨he, bel0⟩ => ?_
  have bel : Below W.heap.size W W' := bel0
  subst he
  exact ⟨_, rfl, _, _, _, [], _, [], hW', trodAll_mk1 (shut_bool Try.underlying4 _), (trodAll_cons_mk (Below.trod laidOut (by kernel_rfl) (of_decide_eq_true (by kernel_rfl)) k0 bel lt0) (trodAll_cons_mk (Below.trod laidOut (by kernel_rfl) (of_decide_eq_true (by kernel_rfl)) k1 bel lt1) trodAll_mk0)), rfl, bel.frame _, fun h => by cases h⟩
theorem over : Rows.fnExactEvalModelRow.holds Try.pinned (OpenSpec.ofChange Rows.fnExactEvalModelSpec) :=
  OpenClaim.holds_of_wide 7 Try.f7 rfl rfl rfl rfl rfl rfl rfl ⟨rfl, rfl, rfl, rfl, rfl⟩ rfl rfl rfl rfl rfl (by kernel_rfl) Try.func7 (by kernel_rfl)
    (of_decide_eq_true (by kernel_rfl)) (by unfold Func.isWrapper; first | (rw [if_pos (by decide +kernel)]; kernel_rfl) | (rw [if_neg (by decide +kernel)]; exact ⟨rfl, rfl⟩))
    (fun os started H enc _ => lifted os started H enc)
theorem proved : Rows.FnExactEvalModelSaid := over
#print axioms proved
end Go.Proofs.Ytclpojeofclbjaa.fnExactEvalModel
namespace Go.Proofs.Ytclpojeofclbjaa
/-- The row, under a short name, for the claim. -/
theorem fnExactEvalModel_holds : Rows.FnExactEvalModelSaid := fnExactEvalModel.proved
end Go.Proofs.Ytclpojeofclbjaa
