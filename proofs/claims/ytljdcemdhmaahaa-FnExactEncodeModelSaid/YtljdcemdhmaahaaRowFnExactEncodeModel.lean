/- For every model that the law lets in, the program's EncodeModel and the reference's return the same, in new memory (the law FnExactEncodeModel answers true). No condition. -/
import Derived.Test.YtljdcemdhmaahaaRows
import Derived.Test.YtljdcemdhmaahaaPFnExactEncodeModelx0
import Derived.Test.YtljdcemdhmaahaaPFnExactEncodeModelx1
import Derived.Test.YtljdcemdhmaahaaPFnExactEncodeModelx2
import Derived.Test.YtljdcemdhmaahaaPFnExactEncodeModelx3
import Derived.Test.YtljdcemdhmaahaaPFnExactEncodeModelx4
import Derived.Test.YtljdcemdhmaahaaPFnExactEncodeModelx5
import Derived.Test.YtljdcemdhmaahaaPFnExactEncodeModelx6
import Derived.Test.YtljdcemdhmaahaaPFnExactEncodeModelx7
import Derived.Test.YtljdcemdhmaahaaPFnExactEncodeModelx8
import Derived.Test.YtljdcemdhmaahaaPFnExactEncodeModelx9
import Derived.Test.YtljdcemdhmaahaaPFnExactEncodeModelx10
import Derived.Test.YtljdcemdhmaahaaPFnExactEncodeModelx11
import Derived.Test.YtljdcemdhmaahaaPFnExactEncodeModelx12
import Derived.Test.YtljdcemdhmaahaaPFnExactEncodeModelx13
import Derived.Test.YtljdcemdhmaahaaPFnExactEncodeModelx14
import Derived.Test.YtljdcemdhmaahaaPureFnExactEncodeModel
import Derived.Test.YtljdcemdhmaahaaRowOpVG
import Derived.WalkKit
import Derived.ProofKit
import Derived.OpenShut
import Derived.ShutString
import Derived.ChangeOld
import Derived.Below
import Derived.SizedLaws
namespace Go.Proofs.Ytljdcemdhmaahaa.fnExactEncodeModel
open Go.ChangeShapes Go.WideShapes Go.ChangeAt Go.RowKit Go.Proofs.Ytljdcemdhmaahaa.RowOpen Go.Proofs.YtljdcemdhmaahaaW.PrintWords Go.Proofs.Ytljdcemdhmaahaa.PFnExactEncodeModel
open Go.ChangeMaps (open_string shut_string)
set_option linter.unusedVariables false
theorem own : ownKnob Try.prog.godebug = none := by kernel_rfl
theorem laidOut : laidOutB Try.prog = true := by kernel_rfl
set_option maxRecDepth 100000 in
theorem lifted (os : Os) (started : os.Started) (H : Type) (enc : TypeId × Value → H) :
    ReturnsInHanded {} Try.checked os 9 .any (Rows.fnExactEncodeModelSpec.pre6 enc Try.prog Try.f9 Rows.fnExactEncodeModelRow.domain false) (Rows.fnExactEncodeModelSpec.post enc Try.prog Try.f9 false true false false) := by
  refine returnsInHanded_of_change_sized (C := Try.checked) own started (by kernel_rfl) Try.func9
    (ChangeSpec.witness6 (enc := enc) (C := Try.checked) false ⟨#[], #[.agg #[.int .i64 0, .int .i64 0, .int .i64 0, .slice none 0 0]], []⟩ 8 (by kernel_rfl) (by kernel_rfl) (by kernel_rfl) (by kernel_rfl)) ?_
  intro W base args ds gs before hval0 hW hcnd hsz0 _
  have hval : ∀ (j : Nat) t v, Try.f9.params[j]? = some t → args[j]? = some v → Value.okWide Try.prog W .any base t v := hval0
  have hW' := hW
  obtain ⟨p, q, hA0, hV, rfl, hfz, hnd⟩ := hW
  have hA : DataW.TrodAll enc Try.prog W 0 (fun _ => true) true Try.f9.params.toList args.toList ds p := hA0
  rw [Try.params9] at hA hval
  obtain ⟨v0, vs0, d0, ds0, p0, q0, hargs, rfl, rfl, h0, r0⟩ := trodAll_cons hA
  obtain ⟨rfl, rfl, rfl⟩ := trodAll_nil r0
  obtain rfl : args = #[v0] := by cases args; simp_all
  obtain ⟨rfl, rfl⟩ := trodVars_none hV
  have k0 := h0
  have lt0 : ∀ x ∈ p0, x.block < W.heap.size := by obtain ⟨m, hm⟩ := k0; exact DataW.trod_lt m _ _ _ hm
  obtain ⟨⟨⟨a0_0_0, a0_0_1, a0_0_2⟩, l0_1⟩, lx0, rfl, hk0, hg0⟩ := opens_arg Try.underlying42 (hval 0 42 v0 rfl rfl) (opens_prod Try.underlying42 (by kernel_rfl) (opensF_cons rfl (by kernel_rfl) (opens_prod Try.underlying39 (by kernel_rfl) (opensF_cons rfl (by kernel_rfl) (opens_int Try.underlying3) (opensF_cons rfl (by kernel_rfl) (opens_int Try.underlying3) (opensF_one rfl (by kernel_rfl) (opens_int Try.underlying3))))) (opensF_one rfl (by kernel_rfl) (opens_slice z117 Try.underlying40 (by kernel_rfl) (show Opens enc Try.prog W 117 k117 _ from opens_struct (fun x => (x.f0, x.f1, x.f2, x.f3, x.f4, x.f5, x.f6, x.f7, x.f8)) (fun x => (⟨x.1, x.2.1, x.2.2.1, x.2.2.2.1, x.2.2.2.2.1, x.2.2.2.2.2.1, x.2.2.2.2.2.2.1, x.2.2.2.2.2.2.2.1, x.2.2.2.2.2.2.2.2⟩ : S117)) (fun _ => rfl) Try.underlying117 (by kernel_rfl) (opensF_cons rfl (by kernel_rfl) (opens_int Try.underlying3) (opensF_cons rfl (by kernel_rfl) (opens_int Try.underlying3) (opensF_cons rfl (by kernel_rfl) (opens_int Try.underlying3) (opensF_cons rfl (by kernel_rfl) (opens_int Try.underlying3) (opensF_cons rfl (by kernel_rfl) (opens_int Try.underlying3) (opensF_cons rfl (by kernel_rfl) (opens_int Try.underlying3) (opensF_cons rfl (by kernel_rfl) (opens_int Try.underlying3) (opensF_cons rfl (by kernel_rfl) (opens_slice (0 : Int) Try.underlying51 (by kernel_rfl) (opens_int Try.underlying3)) (opensF_one rfl (by kernel_rfl) (opens_slice (0 : Int) Try.underlying51 (by kernel_rfl) (opens_int Try.underlying3)))))))))))))))) h0
  obtain ⟨_, _, rfl, ⟨_, _, rfl, rfl, ⟨_, _, rfl, rfl, rfl⟩⟩, ⟨A0_1, c0_1, rfl, hl0_1, hr0_1⟩⟩ := hk0
  clear hA0 hval0 hsz0
  obtain ⟨k, hp⟩ := Pure.FnExactEncodeModel a0_0_0 a0_0_1 a0_0_2 l0_1 hg0
  refine calls_of_args (args' := #[.agg #[.int .i64 a0_0_0, .int .i64 a0_0_1, .int .i64 a0_0_2, .slice A0_1 l0_1.length c0_1]]) rfl ?_
  refine (laws_FnExactEncodeModel.calls k a0_0_0 a0_0_1 a0_0_2 A0_1 c0_1 l0_1 W hr0_1 hl0_1 hp).mono fun e W' ⟨he, bel0⟩ => ?_
  have bel : Below W.heap.size W W' := bel0
  subst he
  exact ⟨_, rfl, _, _, _, [], _, [], hW', trodAll_mk1 (shut_bool Try.underlying4 _), (trodAll_cons_mk (Below.trod laidOut (by kernel_rfl) (of_decide_eq_true (by kernel_rfl)) k0 bel lt0) trodAll_mk0), rfl, bel.frame _, fun h => by cases h⟩
theorem over : Rows.fnExactEncodeModelRow.holds Try.pinned (OpenSpec.ofChange Rows.fnExactEncodeModelSpec) :=
  OpenClaim.holds_of_wide 9 Try.f9 rfl rfl rfl rfl rfl rfl rfl ⟨rfl, rfl, rfl, rfl, rfl⟩ rfl rfl rfl rfl rfl (by kernel_rfl) Try.func9 (by kernel_rfl)
    (of_decide_eq_true (by kernel_rfl)) (by unfold Func.isWrapper; first | (rw [if_pos (by decide +kernel)]; kernel_rfl) | (rw [if_neg (by decide +kernel)]; exact ⟨rfl, rfl⟩))
    (fun os started H enc _ => lifted os started H enc)
theorem proved : Rows.FnExactEncodeModelSaid := over
#print axioms proved
end Go.Proofs.Ytljdcemdhmaahaa.fnExactEncodeModel
namespace Go.Proofs.Ytljdcemdhmaahaa
/-- The row, under a short name, for the claim. -/
theorem fnExactEncodeModel_holds : Rows.FnExactEncodeModelSaid := fnExactEncodeModel.proved
end Go.Proofs.Ytljdcemdhmaahaa
