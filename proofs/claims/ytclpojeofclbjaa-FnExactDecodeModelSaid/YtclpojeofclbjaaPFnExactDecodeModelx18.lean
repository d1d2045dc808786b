import Derived.Test.YtclpojeofclbjaaPFnExactDecodeModelx0
import Derived.Test.YtclpojeofclbjaaPFnExactDecodeModelx17
namespace Go.Proofs.Ytclpojeofclbjaa.PFnExactDecodeModel
open Go.RowKit Go.Proofs.YtclpojeofclbjaaW.PrintWords Go.Proofs.YtclpojeofclbjaaW.PrintLast Go.Proofs.YtclpojeofclbjaaW.PrintMore
attribute [local go_sem] max2_int min2_int max_two min_two max_three min_three max_four min_four
set_option maxHeartbeats 8000000
set_option maxRecDepth 100000
set_option linter.unusedVariables false
set_option linter.unusedSimpArgs false

def laws_heldModel.f (k : Nat) (a0_0 : Int) (a0_1 : Int) (a0_2 : Int) (l0_3 : List (S37)) (a1 : Int) : Option (Int) := (laws_heldLayerS.f k l0_3 a1).bind fun t423 => (if t423 < 0 then (some (-1)) else (some t423))
theorem laws_heldModel.calls (k : Nat) (a0_0 : Int) (a0_1 : Int) (a0_2 : Int) (A0_3 : Option Addr) (c0_3 : Nat) (l0_3 : List (S37)) (a1 : Int) (r : Int) (w : World) (hr0_3 : Kd.C k37 w A0_3 l0_3.length l0_3) (hc0_3 : l0_3.length ≤ c0_3) (h : laws_heldModel.f k a0_0 a0_1 a0_2 l0_3 a1 = some r) :
   Calls Try.prog 42 #[.agg #[.int .i64 a0_0, .int .i64 a0_1, .int .i64 a0_2, .slice A0_3 l0_3.length c0_3], .int .i64 a1] w fun e w' => e = .returned (.int .i64 r) ∧ Below w.heap.size w w' := by
  have hu53 := Try.underlying53;have HR0_3 := am hr0_3;have HC0_3 := am hc0_3;clear hr0_3 hc0_3;have HB := am (Below.refl w.heap.size w);have H : ((laws_heldLayerS.f k l0_3 a1).bind fun t423 => (if t423 < 0 then (some (-1)) else (some t423))) = some r := h;clear h;obtain ⟨t423, A3, H⟩ := bnd H;(try dsimp only at H);by_cases c4 : t423 < 0;rw [if_pos c4] at H;have c4b0 : decide (t423 < 0) = true := decide_eq_true c4;clear c4;obtain rfl := Option.some.inj H;rotate_left;rw [if_neg c4] at H;have c4b0 : decide (t423 < 0) = false := decide_eq_false c4;clear c4;obtain rfl := Option.some.inj H;rotate_left
  all_goals (go_enter Try.func42, Try.ntmps42; go_wp2_with (first | ((with_reducible refine gate_dst (N := 2) rfl ?_); refine boxM 2 #[.int .i64 a0_0, .int .i64 a0_1, .int .i64 a0_2, .slice A0_3 l0_3.length c0_3] 53 ?_; intro gb422 hg w_ BK422 hb; obtain ⟨HB, GW422, GE422⟩ := box_at w hb hg; clear hb hg; have hcz_ := cells4 BK422.out) | ((with_reducible refine gate_callee (f := 90) rfl ?_); refine gM 8 Try.func90 #[.slice A0_3 l0_3.length c0_3, .int .i64 a1] rfl ?_; (with_reducible refine (laws_heldLayerS.calls k _ _ l0_3 a1 t423 _ ?side1 HC0_3.out A3.out).mono ?_); (case side1 => exact C_now HR0_3.out); rintro e w' ⟨rfl, ⟨nd, rfl⟩⟩; refine ⟨_, rfl, ?_⟩)))
  ·go_ret
   exact ⟨eqN, bel_now⟩
  ·go_ret
   exact ⟨eqN, bel_now⟩

end Go.Proofs.Ytclpojeofclbjaa.PFnExactDecodeModel
