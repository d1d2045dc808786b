import Derived.Test.YtclpojeofclbjaaPFnExactEvalModelx0
namespace Go.Proofs.Ytclpojeofclbjaa.PFnExactEvalModel
open Go.RowKit Go.Proofs.YtclpojeofclbjaaW.PrintWords Go.Proofs.YtclpojeofclbjaaW.PrintLast Go.Proofs.YtclpojeofclbjaaW.PrintMore
attribute [local go_sem] max2_int min2_int max_two min_two max_three min_three max_four min_four
set_option maxHeartbeats 8000000
set_option maxRecDepth 100000
set_option linter.unusedVariables false
set_option linter.unusedSimpArgs false

def impl_Layer_isBare.f (a0_0 : Int) (a0_1 : Int) (a0_2 : Int) (a0_3 : Int) (a0_4 : Int) (a0_5 : Int) (a0_6 : Int) (l0_7 : List Int) (l0_8 : List Int) : Option (Bool) := if a0_1 = 0 then (if a0_4 = 0 then (if a0_5 = 0 then (if (l0_7.length : Int) = 0 then (some ((l0_8.length : Int) == 0)) else (some false)) else (some false)) else (some false)) else (some false)
theorem impl_Layer_isBare.calls (a0_0 : Int) (a0_1 : Int) (a0_2 : Int) (a0_3 : Int) (a0_4 : Int) (a0_5 : Int) (a0_6 : Int) (A0_7 : Option Addr) (c0_7 : Nat) (l0_7 : List Int) (A0_8 : Option Addr) (c0_8 : Nat) (l0_8 : List Int) (r : Bool) (w : World) (hr0_7 : Kd.C (Kd.int .i64) w A0_7 l0_7.length l0_7) (hc0_7 : l0_7.length ≤ c0_7) (hr0_8 : Kd.C (Kd.int .i64) w A0_8 l0_8.length l0_8) (hc0_8 : l0_8.length ≤ c0_8) (h : impl_Layer_isBare.f a0_0 a0_1 a0_2 a0_3 a0_4 a0_5 a0_6 l0_7 l0_8 = some r) :
   Calls Try.prog 69 #[.agg #[.int .i64 a0_0, .int .i64 a0_1, .int .i64 a0_2, .int .i64 a0_3, .int .i64 a0_4, .int .i64 a0_5, .int .i64 a0_6, .slice A0_7 l0_7.length c0_7, .slice A0_8 l0_8.length c0_8]] w fun e w' => e = .returned (.bool r) ∧ Below w.heap.size w w' := by
  have hu37 := Try.underlying37;have HR0_7 := am hr0_7;have HC0_7 := am hc0_7;clear hr0_7 hc0_7;have HR0_8 := am hr0_8;have HC0_8 := am hc0_8;clear hr0_8 hc0_8;have HB := am (Below.refl w.heap.size w);have H : (if a0_1 = 0 then (if a0_4 = 0 then (if a0_5 = 0 then (if (l0_7.length : Int) = 0 then (some ((l0_8.length : Int) == 0)) else (some false)) else (some false)) else (some false)) else (some false)) = some r := h;clear h;by_cases c2 : a0_1 = 0
  case' neg => skip
  rw [if_neg c2] at H;have c2b0 : (a0_1 == 0) = false := beq_eq_false_iff_ne.mpr c2;have c2b1 : (a0_1 != 0) = true := bne_iff_ne.mpr c2;obtain rfl := Option.some.inj H;rotate_left;rw [if_pos c2] at H;have c2b0 : (a0_1 == 0) = true := beq_iff_eq.mpr c2;have c2b1 : (a0_1 != 0) = false := bne_eq_false_iff_eq.mpr c2;clear c2;by_cases c3 : a0_4 = 0
  case' neg => skip
  rw [if_neg c3] at H;have c3b0 : (a0_4 == 0) = false := beq_eq_false_iff_ne.mpr c3;have c3b1 : (a0_4 != 0) = true := bne_iff_ne.mpr c3;obtain rfl := Option.some.inj H;rotate_left;rw [if_pos c3] at H;have c3b0 : (a0_4 == 0) = true := beq_iff_eq.mpr c3;have c3b1 : (a0_4 != 0) = false := bne_eq_false_iff_eq.mpr c3;clear c3;by_cases c4 : a0_5 = 0
  case' neg => skip
  rw [if_neg c4] at H;have c4b0 : (a0_5 == 0) = false := beq_eq_false_iff_ne.mpr c4;have c4b1 : (a0_5 != 0) = true := bne_iff_ne.mpr c4;obtain rfl := Option.some.inj H;rotate_left;rw [if_pos c4] at H;have c4b0 : (a0_5 == 0) = true := beq_iff_eq.mpr c4;have c4b1 : (a0_5 != 0) = false := bne_eq_false_iff_eq.mpr c4;clear c4;by_cases c5 : (l0_7.length : Int) = 0;rw [if_pos c5] at H;have c5b0 : ((l0_7.length : Int) == 0) = true := beq_iff_eq.mpr c5;have c5b1 : ((l0_7.length : Int) != 0) = false := bne_eq_false_iff_eq.mpr c5;clear c5;obtain rfl := Option.some.inj H;rotate_left;rw [if_neg c5] at H;have c5b0 : ((l0_7.length : Int) == 0) = false := beq_eq_false_iff_ne.mpr c5;have c5b1 : ((l0_7.length : Int) != 0) = true := bne_iff_ne.mpr c5;have c5b2 : ¬ (l0_7 = []) := fun h_ => c5 (by rw [h_]; rfl);obtain rfl := Option.some.inj H;rotate_left
  all_goals (go_enter Try.func69, Try.ntmps69; go_wp2_with (first | ((with_reducible refine gate_dst (N := 1) rfl ?_); (try (refine gate_guard (by rfl) ?_; dsimp only)); refine boxM 1 #[.int .i64 a0_0, .int .i64 a0_1, .int .i64 a0_2, .int .i64 a0_3, .int .i64 a0_4, .int .i64 a0_5, .int .i64 a0_6, .slice A0_7 l0_7.length c0_7, .slice A0_8 l0_8.length c0_8] 37 ?_; intro gb365 hg w_ BK365 hb; obtain ⟨HB, GW365, GE365⟩ := box_at w hb hg; clear hb hg; have hcz_ := cells9 BK365.out)))
  ·go_ret
   exact ⟨eqN, bel_now⟩
  ·go_ret
   exact ⟨eqN, bel_now⟩
  ·go_ret
   exact ⟨eqN, bel_now⟩
  ·go_ret
   exact ⟨eqN, bel_now⟩
  ·go_ret
   exact ⟨eqN, bel_now⟩

end Go.Proofs.Ytclpojeofclbjaa.PFnExactEvalModel
