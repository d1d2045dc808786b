-- Printed by the session's own program (wip/myprint.py) for this claim out of the translation. Not trusted: Lean checks it.
import Derived.Test.YtclpojeofclbjaaPFnExactLeftOfx0
import Derived.Test.YtclpojeofclbjaaPFnExactLeftOfx2
import Derived.Test.YtclpojeofclbjaaPFnExactLeftOfx12
import Derived.Test.YtclpojeofclbjaaPFnExactLeftOfx20
import Derived.Test.YtclpojeofclbjaaPFnExactLeftOfx21
import Derived.Test.YtclpojeofclbjaaPFnExactLeftOfx22
namespace Go.Proofs.Ytclpojeofclbjaa.PFnExactLeftOf
open Go.RowKit Go.Proofs.YtclpojeofclbjaaW.PrintWords Go.Proofs.YtclpojeofclbjaaW.PrintLast Go.Proofs.YtclpojeofclbjaaW.PrintMore
attribute [local go_sem] max2_int min2_int max_two min_two max_three min_three max_four min_four   -- for this text's walks alone
set_option linter.unusedVariables false
set_option linter.unusedSimpArgs false

/-! ### laws_FnExactLeftOf: function 4 -/
def laws_FnExactLeftOf.j0 : Nat → List Int → List Int → Bool → Int → Int → Int → List (S28) → Int → Int → Int → Int → List Int → Int → Option (Bool)
  | 0, _, _, _, _, _, _, _, _, _, _, _, _, _ => none
  | k + 1, x4, x6, x42, x445000, x445001, x445002, x445003, x445004, x445005, x445006, x445007, x445008, x445009 => if x42 = true then (some false) else ((laws_markIntS.f x6 1).bind fun bt499 => ((laws_heldIntS.f k bt499.2 1).bind fun t501 => (if t501 < 0 then (some false) else (if t501 = bt499.1 then ((laws_toJob.f k x445000 x445001 x445002 x445003 x445004 x445005 x445006 x445007 x445008 x445009).bind fun bt502 => ((impl_LeftOf.f k bt502.1 bt502.2.1 bt502.2.2.1 bt502.2.2.2.1 bt502.2.2.2.2.1 bt502.2.2.2.2.2.1 bt502.2.2.2.2.2.2.1 bt502.2.2.2.2.2.2.2.1 bt502.2.2.2.2.2.2.2.2.1 bt502.2.2.2.2.2.2.2.2.2).bind fun t516 => ((laws_eqIntS.f k t516 x4).bind fun t519 => (if t519 = true then ((laws_heldIntS.f k bt499.2 1).bind fun t520 => (if t520 < 0 then (some false) else (if t520 = bt499.1 then (some true) else (some false)))) else (some false))))) else (some false)))))
def laws_FnExactLeftOf.f (k : Nat) (a0_0 : Int) (a0_1 : Int) (a0_2 : Int) (l0_3 : List (S28)) (a0_4 : Int) (a0_5 : Int) (a0_6 : Int) (a0_7 : Int) (l0_8 : List Int) (a0_9 : Int) : Option (Bool) := (laws_szJob.f k a0_0 a0_1 a0_2 l0_3 a0_4 a0_5 a0_6 a0_7 l0_8 a0_9 1048576).bind fun t445 => (if t445 < 0 then (some true) else ((laws_toJob.f k a0_0 a0_1 a0_2 l0_3 a0_4 a0_5 a0_6 a0_7 l0_8 a0_9).bind fun bt446 => ((spec_LeftOf.f k bt446.1 bt446.2.1 bt446.2.2.1 bt446.2.2.2.1 bt446.2.2.2.2.1 bt446.2.2.2.2.2.1 bt446.2.2.2.2.2.2.1 bt446.2.2.2.2.2.2.2.1 bt446.2.2.2.2.2.2.2.2.1 bt446.2.2.2.2.2.2.2.2.2).bind fun t460 => ((laws_toJob.f k a0_0 a0_1 a0_2 l0_3 a0_4 a0_5 a0_6 a0_7 l0_8 a0_9).bind fun bt463 => ((impl_LeftOf.f k bt463.1 bt463.2.1 bt463.2.2.1 bt463.2.2.2.1 bt463.2.2.2.2.1 bt463.2.2.2.2.2.1 bt463.2.2.2.2.2.2.1 bt463.2.2.2.2.2.2.2.1 bt463.2.2.2.2.2.2.2.2.1 bt463.2.2.2.2.2.2.2.2.2).bind fun t478 => ((laws_eqIntS.f k t478 t460).bind fun t481 => (if t481 = true then ((laws_toJob.f k a0_0 a0_1 a0_2 l0_3 a0_4 a0_5 a0_6 a0_7 l0_8 a0_9).bind fun bt482 => ((laws_eqJob.f k bt463.1 bt463.2.1 bt463.2.2.1 bt463.2.2.2.1 bt463.2.2.2.2.1 bt463.2.2.2.2.2.1 bt463.2.2.2.2.2.2.1 bt463.2.2.2.2.2.2.2.1 bt463.2.2.2.2.2.2.2.2.1 bt463.2.2.2.2.2.2.2.2.2 bt482.1 bt482.2.1 bt482.2.2.1 bt482.2.2.2.1 bt482.2.2.2.2.1 bt482.2.2.2.2.2.1 bt482.2.2.2.2.2.2.1 bt482.2.2.2.2.2.2.2.1 bt482.2.2.2.2.2.2.2.2.1 bt482.2.2.2.2.2.2.2.2.2).bind fun t496 => (if t496 = true then ((laws_markJob.f bt463.1 bt463.2.1 bt463.2.2.1 bt463.2.2.2.1 bt463.2.2.2.2.1 bt463.2.2.2.2.2.1 bt463.2.2.2.2.2.2.1 bt463.2.2.2.2.2.2.2.1 bt463.2.2.2.2.2.2.2.2.1 bt463.2.2.2.2.2.2.2.2.2 1).bind fun t497 => (if t497 < 0 then (laws_FnExactLeftOf.j0 k t460 t478 true a0_0 a0_1 a0_2 l0_3 a0_4 a0_5 a0_6 a0_7 l0_8 a0_9) else ((laws_eqIntS.f k t478 t460).bind fun t498 => (laws_FnExactLeftOf.j0 k t460 t478 (!t498) a0_0 a0_1 a0_2 l0_3 a0_4 a0_5 a0_6 a0_7 l0_8 a0_9)))) else (some false)))) else (some false))))))))
set_option maxHeartbeats 8000000 in
set_option maxRecDepth 100000 in
theorem laws_FnExactLeftOf.calls (k : Nat) (a0_0 : Int) (a0_1 : Int) (a0_2 : Int) (A0_3 : Option Addr) (c0_3 : Nat) (l0_3 : List (S28)) (a0_4 : Int) (a0_5 : Int) (a0_6 : Int) (a0_7 : Int) (A0_8 : Option Addr) (c0_8 : Nat) (l0_8 : List Int) (a0_9 : Int) (w : World) (hr0_3 : Kd.C k28 w A0_3 l0_3.length l0_3) (hc0_3 : l0_3.length ≤ c0_3) (hr0_8 : Kd.C (Kd.int .i64) w A0_8 l0_8.length l0_8) (hc0_8 : l0_8.length ≤ c0_8) (h : laws_FnExactLeftOf.f k a0_0 a0_1 a0_2 l0_3 a0_4 a0_5 a0_6 a0_7 l0_8 a0_9 = some true) :
   Calls Try.prog 4 #[.agg #[.int .i64 a0_0, .int .i64 a0_1, .int .i64 a0_2, .slice A0_3 l0_3.length c0_3, .int .i64 a0_4, .int .i64 a0_5, .int .i64 a0_6, .int .i64 a0_7, .slice A0_8 l0_8.length c0_8, .int .i64 a0_9]] w fun e w' => e = .returned (.bool true) ∧ Below w.heap.size w w' := by
  have hu48 := Try.underlying48
  have hu55 := Try.underlying55
  have HR0_3 := Aside0.mk hr0_3
  have HC0_3 := Aside0.mk hc0_3
  clear hr0_3 hc0_3
  have HR0_8 := Aside0.mk hr0_8
  have HC0_8 := Aside0.mk hc0_8
  clear hr0_8 hc0_8
  have HB := Aside0.mk (Below.refl w.heap.size w)
  have H : ((laws_szJob.f k a0_0 a0_1 a0_2 l0_3 a0_4 a0_5 a0_6 a0_7 l0_8 a0_9 1048576).bind fun t445 => (if t445 < 0 then (some true) else ((laws_toJob.f k a0_0 a0_1 a0_2 l0_3 a0_4 a0_5 a0_6 a0_7 l0_8 a0_9).bind fun bt446 => ((spec_LeftOf.f k bt446.1 bt446.2.1 bt446.2.2.1 bt446.2.2.2.1 bt446.2.2.2.2.1 bt446.2.2.2.2.2.1 bt446.2.2.2.2.2.2.1 bt446.2.2.2.2.2.2.2.1 bt446.2.2.2.2.2.2.2.2.1 bt446.2.2.2.2.2.2.2.2.2).bind fun t460 => ((laws_toJob.f k a0_0 a0_1 a0_2 l0_3 a0_4 a0_5 a0_6 a0_7 l0_8 a0_9).bind fun bt463 => ((impl_LeftOf.f k bt463.1 bt463.2.1 bt463.2.2.1 bt463.2.2.2.1 bt463.2.2.2.2.1 bt463.2.2.2.2.2.1 bt463.2.2.2.2.2.2.1 bt463.2.2.2.2.2.2.2.1 bt463.2.2.2.2.2.2.2.2.1 bt463.2.2.2.2.2.2.2.2.2).bind fun t478 => ((laws_eqIntS.f k t478 t460).bind fun t481 => (if t481 = true then ((laws_toJob.f k a0_0 a0_1 a0_2 l0_3 a0_4 a0_5 a0_6 a0_7 l0_8 a0_9).bind fun bt482 => ((laws_eqJob.f k bt463.1 bt463.2.1 bt463.2.2.1 bt463.2.2.2.1 bt463.2.2.2.2.1 bt463.2.2.2.2.2.1 bt463.2.2.2.2.2.2.1 bt463.2.2.2.2.2.2.2.1 bt463.2.2.2.2.2.2.2.2.1 bt463.2.2.2.2.2.2.2.2.2 bt482.1 bt482.2.1 bt482.2.2.1 bt482.2.2.2.1 bt482.2.2.2.2.1 bt482.2.2.2.2.2.1 bt482.2.2.2.2.2.2.1 bt482.2.2.2.2.2.2.2.1 bt482.2.2.2.2.2.2.2.2.1 bt482.2.2.2.2.2.2.2.2.2).bind fun t496 => (if t496 = true then ((laws_markJob.f bt463.1 bt463.2.1 bt463.2.2.1 bt463.2.2.2.1 bt463.2.2.2.2.1 bt463.2.2.2.2.2.1 bt463.2.2.2.2.2.2.1 bt463.2.2.2.2.2.2.2.1 bt463.2.2.2.2.2.2.2.2.1 bt463.2.2.2.2.2.2.2.2.2 1).bind fun t497 => (if t497 < 0 then (laws_FnExactLeftOf.j0 k t460 t478 true a0_0 a0_1 a0_2 l0_3 a0_4 a0_5 a0_6 a0_7 l0_8 a0_9) else ((laws_eqIntS.f k t478 t460).bind fun t498 => (laws_FnExactLeftOf.j0 k t460 t478 (!t498) a0_0 a0_1 a0_2 l0_3 a0_4 a0_5 a0_6 a0_7 l0_8 a0_9)))) else (some false)))) else (some false))))))))) = some true := h
  clear h
  replace H := Option.bind_eq_some_iff.mp H
  obtain ⟨t445, A20, H⟩ := H
  (try dsimp only at H)
  have A2 := Aside0.mk A20
  clear A20
  by_cases c3 : t445 < 0
  ·rw [if_pos c3] at H
   have c3b0 : decide (t445 < 0) = true := decide_eq_true c3
   clear c3
   clear H
   go_enter Try.func4, Try.ntmps4
   go_wp2_with (first | ((with_reducible refine gate_dst (N := 1) rfl ?_); refine boxM 1 #[.int .i64 a0_0, .int .i64 a0_1, .int .i64 a0_2, .slice A0_3 l0_3.length c0_3, .int .i64 a0_4, .int .i64 a0_5, .int .i64 a0_6, .int .i64 a0_7, .slice A0_8 l0_8.length c0_8, .int .i64 a0_9] 48 ?_; intro gb444 hg w4 BK444 hb; replace HB := box_at w hb hg; obtain ⟨HB, GW444, GE444⟩ := HB; clear hb hg; have hcz5 := cells10 BK444.out) | ((with_reducible refine gate_callee (f := 19) rfl ?_); refine goesM (some 13) rfl rfl Try.func19 (by kernel_rfl) rfl #[.agg #[.int .i64 a0_0, .int .i64 a0_1, .int .i64 a0_2, .slice A0_3 l0_3.length c0_3, .int .i64 a0_4, .int .i64 a0_5, .int .i64 a0_6, .int .i64 a0_7, .slice A0_8 l0_8.length c0_8, .int .i64 a0_9], .int .i64 1048576] rfl ?_; (with_reducible refine (laws_szJob.calls k a0_0 a0_1 a0_2 _ _ l0_3 a0_4 a0_5 a0_6 a0_7 _ _ l0_8 a0_9 1048576 t445 _ ?side1 ?side2 ?side3 ?side4 A2.out).mono ?_); (case side1 => exact C_now HR0_3.out); (case side2 => exact HC0_3.out); (case side3 => exact C_now HR0_8.out); (case side4 => exact HC0_8.out); rintro e w6 ⟨rfl, hb⟩; refine ⟨_, rfl, ?_⟩; replace HB := bel_on w hb; replace BK444 := blk_on gb444 hb; (try clear hb)))
   go_ret
   exact ⟨eqN, bel_now⟩
  rw [if_neg c3] at H
  have c3b0 : decide (t445 < 0) = false := decide_eq_false c3
  clear c3
  replace H := Option.bind_eq_some_iff.mp H
  obtain ⟨⟨t446, t447, t448, t449, t452, t453, t454, t455, t456, t459⟩, A70, H⟩ := H
  (try dsimp only at H)
  have A7 := Aside0.mk A70
  clear A70
  replace H := Option.bind_eq_some_iff.mp H
  obtain ⟨t460, A80, H⟩ := H
  (try dsimp only at H)
  have A8 := Aside0.mk A80
  clear A80
  replace H := Option.bind_eq_some_iff.mp H
  obtain ⟨⟨t463, t464, t465, t466, t469, t470, t471, t472, t473, t476⟩, A90, H⟩ := H
  (try dsimp only at H)
  have A9 := Aside0.mk A90
  clear A90
  replace H := Option.bind_eq_some_iff.mp H
  obtain ⟨t478, A100, H⟩ := H
  (try dsimp only at H)
  have A10 := Aside0.mk A100
  clear A100
  replace H := Option.bind_eq_some_iff.mp H
  obtain ⟨t481, A110, H⟩ := H
  (try dsimp only at H)
  have A11 := Aside0.mk A110
  clear A110
  by_cases c12 : t481 = true
  rotate_left
  ·replace c12 := Bool.eq_false_iff.mpr c12
   subst c12
   rw [if_neg (show ¬ (false = true) by decide)] at H
   exact absurd H (by decide)
  subst c12
  rw [if_pos rfl] at H
  replace H := Option.bind_eq_some_iff.mp H
  obtain ⟨⟨t482, t483, t484, t485, t488, t489, t490, t491, t492, t495⟩, A130, H⟩ := H
  (try dsimp only at H)
  have A13 := Aside0.mk A130
  clear A130
  replace H := Option.bind_eq_some_iff.mp H
  obtain ⟨t496, A140, H⟩ := H
  (try dsimp only at H)
  have A14 := Aside0.mk A140
  clear A140
  by_cases c15 : t496 = true
  rotate_left
  ·replace c15 := Bool.eq_false_iff.mpr c15
   subst c15
   rw [if_neg (show ¬ (false = true) by decide)] at H
   exact absurd H (by decide)
  subst c15
  rw [if_pos rfl] at H
  replace H := Option.bind_eq_some_iff.mp H
  obtain ⟨t497, A160, H⟩ := H
  (try dsimp only at H)
  have A16 := Aside0.mk A160
  clear A160
  have HC17 := Aside0.mk H
  clear H
  go_enter Try.func4, Try.ntmps4
  try go_wp2_with (first | ((with_reducible refine gate_dst (N := 1) rfl ?_); refine boxM 1 #[.int .i64 a0_0, .int .i64 a0_1, .int .i64 a0_2, .slice A0_3 l0_3.length c0_3, .int .i64 a0_4, .int .i64 a0_5, .int .i64 a0_6, .int .i64 a0_7, .slice A0_8 l0_8.length c0_8, .int .i64 a0_9] 48 ?_; intro gb444 hg w18 BK444 hb; replace HB := box_at w hb hg; obtain ⟨HB, GW444, GE444⟩ := HB; clear hb hg; have hcz19 := cells10 BK444.out) | ((with_reducible refine gate_callee (f := 19) rfl ?_); refine goesM (some 13) rfl rfl Try.func19 (by kernel_rfl) rfl #[.agg #[.int .i64 a0_0, .int .i64 a0_1, .int .i64 a0_2, .slice A0_3 l0_3.length c0_3, .int .i64 a0_4, .int .i64 a0_5, .int .i64 a0_6, .int .i64 a0_7, .slice A0_8 l0_8.length c0_8, .int .i64 a0_9], .int .i64 1048576] rfl ?_; (with_reducible refine (laws_szJob.calls k a0_0 a0_1 a0_2 _ _ l0_3 a0_4 a0_5 a0_6 a0_7 _ _ l0_8 a0_9 1048576 t445 _ ?side1 ?side2 ?side3 ?side4 A2.out).mono ?_); (case side1 => exact C_now HR0_3.out); (case side2 => exact HC0_3.out); (case side3 => exact C_now HR0_8.out); (case side4 => exact HC0_8.out); rintro e w20 ⟨rfl, hb⟩; refine ⟨_, rfl, ?_⟩; replace HB := bel_on w hb; replace BK444 := blk_on gb444 hb; (try clear hb); have hcz21 := cells10 BK444.out) | ((with_reducible refine gate_callee (f := 21) rfl ?_); refine goesM (some 17) rfl rfl Try.func21 (by kernel_rfl) rfl #[.agg #[.int .i64 a0_0, .int .i64 a0_1, .int .i64 a0_2, .slice A0_3 l0_3.length c0_3, .int .i64 a0_4, .int .i64 a0_5, .int .i64 a0_6, .int .i64 a0_7, .slice A0_8 l0_8.length c0_8, .int .i64 a0_9]] rfl ?_; (with_reducible refine (laws_toJob.calls k a0_0 a0_1 a0_2 _ _ l0_3 a0_4 a0_5 a0_6 a0_7 _ _ l0_8 a0_9 t446 t447 t448 t449 t452 t453 t454 t455 t456 t459 _ ?side1 ?side2 ?side3 ?side4 A7.out).mono ?_); (case side1 => exact C_now HR0_3.out); (case side2 => exact HC0_3.out); (case side3 => exact C_now HR0_8.out); (case side4 => exact HC0_8.out); rintro e w22 ⟨v450, v457, rfl, ho0, ho1, hb⟩; refine ⟨_, rfl, ?_⟩; have n0_ := Aside0.mk (Kd.S_lower ho0 (below_size bel_now)); have n1_ := Aside0.mk (Kd.R_lower ho1 (below_size bel_now)); replace HB := bel_on w hb; replace BK444 := blk_on gb444 hb; have HO451 := n0_; have HO458 := n1_; clear n0_ n1_; (try clear hb); (try clear ho0); (try clear ho1); obtain ⟨Ao23, co23, eo23⟩ := Kd.S_slice HO451.out; subst eo23; obtain ⟨Ao24, co24, eo24⟩ := Kd.R_slice HO458.out; subst eo24) | ((with_reducible refine gate_callee (f := 20) rfl ?_); refine goesM (some 18) rfl rfl Try.func20 (by kernel_rfl) rfl #[.agg #[.int .i64 t446, .int .i64 t447, .int .i64 t448, .slice Ao23 t449.length co23, .int .i64 t452, .int .i64 t453, .int .i64 t454, .int .i64 t455, .slice Ao24 t456.length co24, .int .i64 t459]] rfl ?_; (with_reducible refine (spec_LeftOf.calls k t446 t447 t448 _ _ t449 t452 t453 t454 t455 _ _ t456 t459 t460 _ ?side1 ?side2 ?side3 ?side4 A8.out).mono ?_); (case side1 => repeat (first | exact (Kd.S_reads' HO451.out).2.2 | (with_reducible refine Kd.C_alloc ?_ _) | (with_reducible refine Kd.C_drewN ?_ _) | (with_reducible refine Kd.C_drew ?_))); (case side2 => exact (Kd.S_reads' HO451.out).2.1); (case side3 => exact (Kd.R_reads' (R_at HO458.out)).2.2); (case side4 => exact (Kd.R_reads' HO458.out).2.1); rintro e w25 ⟨v461, rfl, ho0, hb⟩; refine ⟨_, rfl, ?_⟩; have n2_ := Aside0.mk (Kd.R_lower (Kd.R_new' ho0 (Kd.R_lt (R_at HO458.out))) (below_size bel_now)); replace HO451 := Aside0.mk (Kd.S_elder' (by (with_reducible repeat (first | apply Kd.S_alloc | apply Kd.S_drewN | apply Kd.S_drew)); exact HO451.out) (Kd.R_base ho0) hb); replace HO458 := Aside0.mk (Kd.R_elder' (R_at HO458.out) (Kd.R_base ho0) hb); replace HB := bel_on w hb; replace BK444 := blk_on gb444 hb; have HO462 := n2_; clear n2_; (try clear hb); (try clear ho0); have hcz26 := cells10 BK444.out) | ((with_reducible refine gate_callee (f := 21) rfl ?_); refine goesM (some 20) rfl rfl Try.func21 (by kernel_rfl) rfl #[.agg #[.int .i64 a0_0, .int .i64 a0_1, .int .i64 a0_2, .slice A0_3 l0_3.length c0_3, .int .i64 a0_4, .int .i64 a0_5, .int .i64 a0_6, .int .i64 a0_7, .slice A0_8 l0_8.length c0_8, .int .i64 a0_9]] rfl ?_; (with_reducible refine (laws_toJob.calls k a0_0 a0_1 a0_2 _ _ l0_3 a0_4 a0_5 a0_6 a0_7 _ _ l0_8 a0_9 t463 t464 t465 t466 t469 t470 t471 t472 t473 t476 _ ?side1 ?side2 ?side3 ?side4 A9.out).mono ?_); (case side1 => exact C_now HR0_3.out); (case side2 => exact HC0_3.out); (case side3 => exact C_now HR0_8.out); (case side4 => exact HC0_8.out); rintro e w27 ⟨v467, v474, rfl, ho0, ho1, hb⟩; refine ⟨_, rfl, ?_⟩; have n3_ := Aside0.mk (Kd.S_lower (Kd.S_new' (Kd.S_new' (Kd.S_new' ho0 (Kd.S_lt (by (with_reducible repeat (first | apply Kd.S_alloc | apply Kd.S_drewN | apply Kd.S_drew)); exact HO451.out))) (Kd.R_lt (R_at HO458.out))) (Kd.R_lt (R_at HO462.out))) (below_size bel_now)); have n4_ := Aside0.mk (Kd.R_lower (Kd.R_new' (Kd.R_new' ho1 (Kd.R_lt (R_at HO458.out))) (Kd.R_lt (R_at HO462.out))) (below_size bel_now)); replace HO451 := Aside0.mk (Kd.S_mono (Kd.S_told (Kd.S_told (Kd.S_old (by (with_reducible repeat (first | apply Kd.S_alloc | apply Kd.S_drewN | apply Kd.S_drew)); exact HO451.out) hb) (Kd.S_base ho0)) (Kd.R_base ho1)) (fun _ h_ => h_.1)); replace HO458 := Aside0.mk (Kd.R_elder' (R_at HO458.out) (Kd.R_base ho1) hb); replace HO462 := Aside0.mk (Kd.R_elder' (R_at HO462.out) (Kd.R_base ho1) hb); replace HB := bel_on w hb; replace BK444 := blk_on gb444 hb; have HO468 := n3_; have HO475 := n4_; clear n3_ n4_; (try clear hb); (try clear ho0); (try clear ho1)) | ((with_reducible refine gate_dst (N := 5) rfl ?_); refine boxM 5 #[.int .i64 0, .int .i64 0, .int .i64 0, .slice none 0 0, .int .i64 0, .int .i64 0, .int .i64 0, .int .i64 0, .slice none 0 0, .int .i64 0] 55 ?_; intro gb477 hg w28 BK477 hb; replace HB := box_at w hb hg; obtain ⟨HB, GW477, GE477⟩ := HB; replace BK444 := box_on gb444 hb hg; obtain ⟨BK444, NB444_477, NB477_444⟩ := BK444; replace HO451 := Aside0.mk (Kd.S_below (by (with_reducible repeat (first | apply Kd.S_alloc | apply Kd.S_drewN | apply Kd.S_drew)); exact HO451.out) hb); replace HO458 := Aside0.mk (Kd.R_below (R_at HO458.out) hb); replace HO462 := Aside0.mk (Kd.R_below (R_at HO462.out) hb); replace HO468 := Aside0.mk (Kd.S_below (by (with_reducible repeat (first | apply Kd.S_alloc | apply Kd.S_drewN | apply Kd.S_drew)); exact HO468.out) hb); replace HO475 := Aside0.mk (Kd.R_below (R_at HO475.out) hb); clear hb hg; have hn29 := ne2 NB477_444; have hcz30 := cells10 BK477.out; obtain ⟨Ao31, co31, eo31⟩ := Kd.S_slice HO468.out; subst eo31; obtain ⟨Ao32, co32, eo32⟩ := Kd.R_slice HO475.out; subst eo32) | ((with_reducible refine gate_callee (f := 22) rfl ?_); refine goesM (some 22) rfl rfl Try.func22 (by kernel_rfl) rfl #[.agg #[.int .i64 t463, .int .i64 t464, .int .i64 t465, .slice Ao31 t466.length co31, .int .i64 t469, .int .i64 t470, .int .i64 t471, .int .i64 t472, .slice Ao32 t473.length co32, .int .i64 t476]] rfl ?_; (with_reducible refine (impl_LeftOf.calls k t463 t464 t465 _ _ t466 t469 t470 t471 t472 _ _ t473 t476 t478 _ ?side1 ?side2 ?side3 ?side4 A10.out).mono ?_); (case side1 => refine (Kd.S_reads' (e := 37) (base := w.heap.size) (ok := fun k_ => (((nb k_ Ao32 t473.length co32 ∧ nb k_ Ao23 t449.length co23) ∧ nb k_ Ao24 t456.length co24) ∧ some k_ ≠ (v461 : Value).ownBlock)) (n := t466.length) (c := co31) ?_).2.2; exact (by (with_reducible repeat (first | apply Kd.S_alloc | apply Kd.S_drewN | apply Kd.S_drew)); exact (Kd.S_mono (Kd.S_far (p := ⟨gb477, 9, none⟩) (Kd.S_far (p := ⟨gb477, 8, none⟩) (Kd.S_far (p := ⟨gb477, 7, none⟩) (Kd.S_far (p := ⟨gb477, 6, none⟩) (Kd.S_far (p := ⟨gb477, 5, none⟩) (Kd.S_far (p := ⟨gb477, 4, none⟩) (Kd.S_far (p := ⟨gb477, 3, none⟩) (Kd.S_far (p := ⟨gb477, 2, none⟩) (Kd.S_far (p := ⟨gb477, 1, none⟩) (Kd.S_far (p := ⟨gb477, 0, none⟩) (Kd.S_types HO468.out BK477.out (by decide)) (fun _ hk => hk.2) (.int .i64 t463)) (fun _ hk => hk.2) (.int .i64 t464)) (fun _ hk => hk.2) (.int .i64 t465)) (fun _ hk => hk.2) (.slice Ao31 t466.length co31)) (fun _ hk => hk.2) (.int .i64 t469)) (fun _ hk => hk.2) (.int .i64 t470)) (fun _ hk => hk.2) (.int .i64 t471)) (fun _ hk => hk.2) (.int .i64 t472)) (fun _ hk => hk.2) (.slice Ao32 t473.length co32)) (fun _ hk => hk.2) (.int .i64 t476)) (fun _ h_ => h_.1)))); (case side2 => exact (Kd.S_reads' HO468.out).2.1); (case side3 => refine (Kd.R_reads' (e := 3) (base := w.heap.size) (ok := fun k_ => ((True ∧ nb k_ Ao24 t456.length co24) ∧ some k_ ≠ (v461 : Value).ownBlock)) (n := t473.length) (c := co32) ?_).2.2; exact (R_at (R_far10 HO475.out BK477.out (by decide)))); (case side4 => exact (Kd.R_reads' HO475.out).2.1); rintro e w33 ⟨v479, rfl, ho0, hb⟩; refine ⟨_, rfl, ?_⟩; have n0_ := Aside0.mk (Kd.S_elder' (by (with_reducible repeat (first | apply Kd.S_alloc | apply Kd.S_drewN | apply Kd.S_drew)); exact (Kd.S_mono (Kd.S_far (p := ⟨gb477, 9, none⟩) (Kd.S_far (p := ⟨gb477, 8, none⟩) (Kd.S_far (p := ⟨gb477, 7, none⟩) (Kd.S_far (p := ⟨gb477, 6, none⟩) (Kd.S_far (p := ⟨gb477, 5, none⟩) (Kd.S_far (p := ⟨gb477, 4, none⟩) (Kd.S_far (p := ⟨gb477, 3, none⟩) (Kd.S_far (p := ⟨gb477, 2, none⟩) (Kd.S_far (p := ⟨gb477, 1, none⟩) (Kd.S_far (p := ⟨gb477, 0, none⟩) (Kd.S_types HO451.out BK477.out (by decide)) (fun _ hk => hk.2) (.int .i64 t463)) (fun _ hk => hk.2) (.int .i64 t464)) (fun _ hk => hk.2) (.int .i64 t465)) (fun _ hk => hk.2) (.slice Ao31 t466.length co31)) (fun _ hk => hk.2) (.int .i64 t469)) (fun _ hk => hk.2) (.int .i64 t470)) (fun _ hk => hk.2) (.int .i64 t471)) (fun _ hk => hk.2) (.int .i64 t472)) (fun _ hk => hk.2) (.slice Ao32 t473.length co32)) (fun _ hk => hk.2) (.int .i64 t476)) (fun _ h_ => h_.1))) (Kd.Q_base ho0) hb); have n1_ := Aside0.mk (Kd.R_elder' (R_at (R_far10 HO458.out BK477.out (by decide))) (Kd.Q_base ho0) hb); have n2_ := Aside0.mk (Kd.R_elder' (R_at (R_far10 HO462.out BK477.out (by decide))) (Kd.Q_base ho0) hb); have n3_ := Aside0.mk (Kd.S_elder' (by (with_reducible repeat (first | apply Kd.S_alloc | apply Kd.S_drewN | apply Kd.S_drew)); exact (Kd.S_mono (Kd.S_far (p := ⟨gb477, 9, none⟩) (Kd.S_far (p := ⟨gb477, 8, none⟩) (Kd.S_far (p := ⟨gb477, 7, none⟩) (Kd.S_far (p := ⟨gb477, 6, none⟩) (Kd.S_far (p := ⟨gb477, 5, none⟩) (Kd.S_far (p := ⟨gb477, 4, none⟩) (Kd.S_far (p := ⟨gb477, 3, none⟩) (Kd.S_far (p := ⟨gb477, 2, none⟩) (Kd.S_far (p := ⟨gb477, 1, none⟩) (Kd.S_far (p := ⟨gb477, 0, none⟩) (Kd.S_types HO468.out BK477.out (by decide)) (fun _ hk => hk.2) (.int .i64 t463)) (fun _ hk => hk.2) (.int .i64 t464)) (fun _ hk => hk.2) (.int .i64 t465)) (fun _ hk => hk.2) (.slice Ao31 t466.length co31)) (fun _ hk => hk.2) (.int .i64 t469)) (fun _ hk => hk.2) (.int .i64 t470)) (fun _ hk => hk.2) (.int .i64 t471)) (fun _ hk => hk.2) (.int .i64 t472)) (fun _ hk => hk.2) (.slice Ao32 t473.length co32)) (fun _ hk => hk.2) (.int .i64 t476)) (fun _ h_ => h_.1))) (Kd.Q_base ho0) hb); have n4_ := Aside0.mk (Kd.R_elder' (R_at (R_far10 HO475.out BK477.out (by decide))) (Kd.Q_base ho0) hb); have n5_ := Aside0.mk (Kd.Q_lower (Kd.Q_new' (Kd.Q_new' (Kd.Q_new' ho0 (Kd.R_lt (R_at (R_far10 HO458.out BK477.out (by decide))))) (Kd.R_lt (R_at (R_far10 HO462.out BK477.out (by decide))))) (Kd.R_lt (R_at (R_far10 HO475.out BK477.out (by decide))))) (below_size bel_now)); replace HB := bel_on w hb; replace BK444 := Aside0.mk (blk_below (g := gb444) (o := .cells #[.int .i64 a0_0, .int .i64 a0_1, .int .i64 a0_2, .slice A0_3 l0_3.length c0_3, .int .i64 a0_4, .int .i64 a0_5, .int .i64 a0_6, .int .i64 a0_7, .slice A0_8 l0_8.length c0_8, .int .i64 a0_9] 48 (0, 0)) (blk_fars BK444.out) hb); replace BK477 := Aside0.mk (blk_below (g := gb477) (o := .cells #[.int .i64 t463, .int .i64 t464, .int .i64 t465, .slice Ao31 t466.length co31, .int .i64 t469, .int .i64 t470, .int .i64 t471, .int .i64 t472, .slice Ao32 t473.length co32, .int .i64 t476] 55 (0, 0)) (by (with_reducible repeat (first | refine blk_drewN ?_ _ | refine blk_drew ?_ | refine blk_alloc ?_ _)); first | exact putl10 BK477.out | exact blk_fars (putl10 BK477.out)) hb); clear HO451 HO458 HO462 HO468 HO475; have HO451 := n0_; have HO458 := n1_; have HO462 := n2_; have HO468 := n3_; have HO475 := n4_; have HO480 := n5_; clear n0_ n1_ n2_ n3_ n4_ n5_; (try clear hb); (try clear hk); (try clear ho0); obtain ⟨Ao34, co34, eo34, _⟩ := Kd.Q_slice HO480.out; subst eo34; obtain ⟨Ao35, co35, eo35⟩ := Kd.R_slice HO462.out; subst eo35) | ((with_reducible refine gate_callee (f := 23) rfl ?_); refine goesM (some 25) rfl rfl Try.func23 (by kernel_rfl) rfl #[.slice Ao34 t478.length co34, .slice Ao35 t460.length co35] rfl ?_; (with_reducible refine (laws_eqIntS.calls k _ _ t478 _ _ t460 true _ ?side1 ?side2 ?side3 ?side4 A11.out).mono ?_); (case side1 => repeat (first | exact (Kd.Q_reads' HO480.out).2.2 | (with_reducible refine Kd.C_alloc ?_ _) | (with_reducible refine Kd.C_drewN ?_ _) | (with_reducible refine Kd.C_drew ?_))); (case side2 => exact (Kd.Q_reads' HO480.out).2.1); (case side3 => exact (Kd.R_reads' (R_at HO462.out)).2.2); (case side4 => exact (Kd.R_reads' HO462.out).2.1); rintro e w' ⟨rfl, ⟨nd, rfl⟩⟩; refine ⟨_, rfl, ?_⟩))
  (try (rw [drewN_self w33]; generalize hq_ : World.drewN w33 _ = w33; have n0_ : Aside0 (Kd.S k37 37 w33 w.heap.size (fun k_ => nb k_ Ao24 t456.length co24 ∧ nb k_ Ao35 t460.length co35 ∧ nb k_ Ao31 t466.length co31 ∧ nb k_ Ao32 t473.length co32 ∧ nb k_ Ao34 t478.length co34) (.slice Ao23 t449.length co23) t449) := ⟨by rw [← hq_]; exact (by (with_reducible repeat (first | apply Kd.S_alloc | apply Kd.S_drewN | apply Kd.S_drew)); exact Kd.S_mono HO451.out (fun _ hk => ⟨hk.1.1.1.1, ⟨hk.1.1.1.2, ⟨hk.1.1.2, ⟨hk.1.2, hk.2⟩⟩⟩⟩))⟩; have n1_ : Aside0 (Kd.R (Kd.int .i64) 3 w33 w.heap.size (fun k_ => nb k_ Ao35 t460.length co35 ∧ nb k_ Ao32 t473.length co32 ∧ nb k_ Ao34 t478.length co34) (.slice Ao24 t456.length co24) t456) := ⟨by rw [← hq_]; exact (R_at (Kd.R_mono HO458.out (fun _ hk => ⟨hk.1.1.2, ⟨hk.1.2, hk.2⟩⟩)))⟩; have n2_ : Aside0 (Kd.R (Kd.int .i64) 3 w33 w.heap.size (fun k_ => nb k_ Ao24 t456.length co24 ∧ nb k_ Ao32 t473.length co32 ∧ nb k_ Ao34 t478.length co34) (.slice Ao35 t460.length co35) t460) := ⟨by rw [← hq_]; exact (R_at (Kd.R_mono HO462.out (fun _ hk => ⟨hk.1.1.2, ⟨hk.1.2, hk.2⟩⟩)))⟩; have n3_ : Aside0 (Kd.S k37 37 w33 w.heap.size (fun k_ => nb k_ Ao23 t449.length co23 ∧ nb k_ Ao24 t456.length co24 ∧ nb k_ Ao35 t460.length co35 ∧ nb k_ Ao32 t473.length co32 ∧ nb k_ Ao34 t478.length co34) (.slice Ao31 t466.length co31) t466) := ⟨by rw [← hq_]; exact (by (with_reducible repeat (first | apply Kd.S_alloc | apply Kd.S_drewN | apply Kd.S_drew)); exact Kd.S_mono HO468.out (fun _ hk => ⟨hk.1.1.1.2, ⟨hk.1.1.2, ⟨hk.1.2, ⟨hk.1.1.1.1, hk.2⟩⟩⟩⟩))⟩; have n4_ : Aside0 (Kd.R (Kd.int .i64) 3 w33 w.heap.size (fun k_ => nb k_ Ao24 t456.length co24 ∧ nb k_ Ao35 t460.length co35 ∧ nb k_ Ao34 t478.length co34) (.slice Ao32 t473.length co32) t473) := ⟨by rw [← hq_]; exact (R_at (Kd.R_mono HO475.out (fun _ hk => ⟨hk.1.1.2, ⟨hk.1.2, hk.2⟩⟩)))⟩; have n5_ : Aside0 (Kd.Q (Kd.int .i64) 3 w33 w.heap.size (fun k_ => nb k_ Ao24 t456.length co24 ∧ nb k_ Ao35 t460.length co35 ∧ nb k_ Ao32 t473.length co32) (.slice Ao34 t478.length co34) t478) := ⟨by rw [← hq_]; exact (by (with_reducible repeat (first | apply Kd.Q_alloc | apply Kd.Q_drewN | apply Kd.Q_drew)); exact Kd.Q_mono HO480.out (fun _ hk => ⟨hk.1.1.2, ⟨hk.1.2, hk.2⟩⟩))⟩; have n6_ : Aside0 (w33.heap[gb444]? = some (.cells #[.int .i64 a0_0, .int .i64 a0_1, .int .i64 a0_2, .slice A0_3 l0_3.length c0_3, .int .i64 a0_4, .int .i64 a0_5, .int .i64 a0_6, .int .i64 a0_7, .slice A0_8 l0_8.length c0_8, .int .i64 a0_9] 48 (0, 0))) := ⟨by rw [← hq_]; exact blk_now⟩; have n7_ : Aside0 (w33.heap[gb477]? = some (.cells #[.int .i64 t463, .int .i64 t464, .int .i64 t465, .slice Ao31 t466.length co31, .int .i64 t469, .int .i64 t470, .int .i64 t471, .int .i64 t472, .slice Ao32 t473.length co32, .int .i64 t476] 55 (0, 0))) := ⟨by rw [← hq_]; exact blk_now⟩; have n8_ : Aside0 (Below w.heap.size w w33) := ⟨by rw [← hq_]; exact bel_now⟩; clear HO451 HO458 HO462 HO468 HO475 HO480 BK444 BK477 HB hq_; have HO451 := n0_; have HO458 := n1_; have HO462 := n2_; have HO468 := n3_; have HO475 := n4_; have HO480 := n5_; have BK444 := n6_; have BK477 := n7_; have HB := n8_; clear n0_ n1_ n2_ n3_ n4_ n5_ n6_ n7_ n8_))
  replace HO451 := Aside0.mk (Kd.S_drew HO451.out)
  replace HO458 := Aside0.mk (Kd.R_drew HO458.out)
  replace HO462 := Aside0.mk (Kd.R_drew HO462.out)
  replace HO468 := Aside0.mk (Kd.S_drew HO468.out)
  replace HO475 := Aside0.mk (Kd.R_drew HO475.out)
  replace HO480 := Aside0.mk (Kd.Q_drew HO480.out)
  replace BK444 := Aside0.mk (blk_drew BK444.out)
  replace BK477 := Aside0.mk (blk_drew BK477.out)
  replace HB := Aside0.mk (below_drew1 HB.out)
  refine start_ (n := 5) (S := fun w' => w'.cell? ⟨gb477, 0, none⟩ = some (.int .i64 t463) ∧ w'.cell? ⟨gb477, 1, none⟩ = some (.int .i64 t464) ∧ w'.cell? ⟨gb477, 2, none⟩ = some (.int .i64 t465) ∧ w'.cell? ⟨gb477, 3, none⟩ = some (.slice Ao31 t466.length co31) ∧ w'.cell? ⟨gb477, 4, none⟩ = some (.int .i64 t469) ∧ w'.cell? ⟨gb477, 5, none⟩ = some (.int .i64 t470) ∧ w'.cell? ⟨gb477, 6, none⟩ = some (.int .i64 t471) ∧ w'.cell? ⟨gb477, 7, none⟩ = some (.int .i64 t472) ∧ w'.cell? ⟨gb477, 8, none⟩ = some (.slice Ao32 t473.length co32) ∧ w'.cell? ⟨gb477, 9, none⟩ = some (.int .i64 t476) ∧ w'.cell? ⟨gb444, 0, none⟩ = some (.int .i64 a0_0) ∧ w'.cell? ⟨gb444, 1, none⟩ = some (.int .i64 a0_1) ∧ w'.cell? ⟨gb444, 2, none⟩ = some (.int .i64 a0_2) ∧ w'.cell? ⟨gb444, 3, none⟩ = some (.slice A0_3 l0_3.length c0_3) ∧ w'.cell? ⟨gb444, 4, none⟩ = some (.int .i64 a0_4) ∧ w'.cell? ⟨gb444, 5, none⟩ = some (.int .i64 a0_5) ∧ w'.cell? ⟨gb444, 6, none⟩ = some (.int .i64 a0_6) ∧ w'.cell? ⟨gb444, 7, none⟩ = some (.int .i64 a0_7) ∧ w'.cell? ⟨gb444, 8, none⟩ = some (.slice A0_8 l0_8.length c0_8) ∧ w'.cell? ⟨gb444, 9, none⟩ = some (.int .i64 a0_9)) (ds := []) #[false, false, false, false, false] (by kernel_rfl) rfl rfl ⟨bc BK477 0, bc BK477 1, bc BK477 2, bc BK477 3, bc BK477 4, bc BK477 5, bc BK477 6, bc BK477 7, bc BK477 8, bc BK477 9, bc BK444 0, bc BK444 1, bc BK444 2, bc BK444 3, bc BK444 4, bc BK444 5, bc BK444 6, bc BK444 7, bc BK444 8, bc BK444 9⟩ (fun hHeld => ?_)
  generalize w33.drew = w36 at HO451 HO458 HO462 HO468 HO475 HO480 BK444 BK477 HB hHeld ⊢
  refine stepT 0 (some 27) (tk 5 1) (by kernel_rfl) hHeld ?_
  refine stepT 1 (some 28) (tk 5 3) (by kernel_rfl) hHeld ?_
  refine one_ (i := 2) (N := some 29) #[true, true, true, false, false] rfl rfl (by kernel_rfl) (by decide) (fun K hK => ?_)
  refine goes_ Try.func21 (by kernel_rfl) rfl #[.agg #[.int .i64 a0_0, .int .i64 a0_1, .int .i64 a0_2, .slice A0_3 l0_3.length c0_3, .int .i64 a0_4, .int .i64 a0_5, .int .i64 a0_6, .int .i64 a0_7, .slice A0_8 l0_8.length c0_8, .int .i64 a0_9]] (by rfl) rfl rfl (by (try simp only [List.map_toArray, List.map_cons, List.map_nil]); first | done | rfl | (simp only [List.length_drop, List.length_take]; rfl)) ?_
  with_reducible refine (laws_toJob.calls k a0_0 a0_1 a0_2 _ _ l0_3 a0_4 a0_5 a0_6 a0_7 _ _ l0_8 a0_9 t482 t483 t484 t485 t488 t489 t490 t491 t492 t495 _ ?side1 ?side2 ?side3 ?side4 A13.out).mono ?_
  (case side1 => exact C_now HR0_3.out)
  (case side2 => exact HC0_3.out)
  (case side3 => exact C_now HR0_8.out)
  (case side4 => exact HC0_8.out)
  rintro e w37 ⟨v486, v493, rfl, ho0, ho1, hb⟩
  refine ⟨_, rfl, ?_⟩
  have n6_ := Aside0.mk (Kd.S_lower (Kd.S_new' (Kd.S_new' (Kd.S_new' (Kd.S_new' (Kd.S_new' (Kd.S_new' ho0 (Kd.S_lt (by (with_reducible repeat (first | apply Kd.S_alloc | apply Kd.S_drewN | apply Kd.S_drew)); exact HO451.out))) (Kd.R_lt (R_at HO458.out))) (Kd.R_lt (R_at HO462.out))) (Kd.S_lt (by (with_reducible repeat (first | apply Kd.S_alloc | apply Kd.S_drewN | apply Kd.S_drew)); exact HO468.out))) (Kd.R_lt (R_at HO475.out))) (Kd.Q_lt (by (with_reducible repeat (first | apply Kd.Q_alloc | apply Kd.Q_drewN | apply Kd.Q_drew)); exact HO480.out))) (below_size bel_now))
  have n7_ := Aside0.mk (Kd.R_lower (Kd.R_new' (Kd.R_new' (Kd.R_new' (Kd.R_new' ho1 (Kd.R_lt (R_at HO458.out))) (Kd.R_lt (R_at HO462.out))) (Kd.R_lt (R_at HO475.out))) (Kd.Q_lt (by (with_reducible repeat (first | apply Kd.Q_alloc | apply Kd.Q_drewN | apply Kd.Q_drew)); exact HO480.out))) (below_size bel_now))
  replace HO451 := Aside0.mk (Kd.S_mono (Kd.S_told (Kd.S_told (Kd.S_old (by (with_reducible repeat (first | apply Kd.S_alloc | apply Kd.S_drewN | apply Kd.S_drew)); exact HO451.out) hb) (Kd.S_base ho0)) (Kd.R_base ho1)) (fun _ h_ => h_.1))
  replace HO458 := Aside0.mk (Kd.R_elder' (R_at HO458.out) (Kd.R_base ho1) hb)
  replace HO462 := Aside0.mk (Kd.R_elder' (R_at HO462.out) (Kd.R_base ho1) hb)
  replace HO468 := Aside0.mk (Kd.S_mono (Kd.S_told (Kd.S_told (Kd.S_old (by (with_reducible repeat (first | apply Kd.S_alloc | apply Kd.S_drewN | apply Kd.S_drew)); exact HO468.out) hb) (Kd.S_base ho0)) (Kd.R_base ho1)) (fun _ h_ => h_.1))
  replace HO475 := Aside0.mk (Kd.R_elder' (R_at HO475.out) (Kd.R_base ho1) hb)
  replace HO480 := Aside0.mk (Kd.Q_elder' (by (with_reducible repeat (first | apply Kd.Q_alloc | apply Kd.Q_drewN | apply Kd.Q_drew)); exact HO480.out) (Kd.R_base ho1) hb)
  replace BK444 := blk_on gb444 hb
  replace BK477 := blk_on gb477 hb
  replace HB := bel_on w hb
  have HO487 := n6_
  have HO494 := n7_
  clear n6_ n7_
  (try clear hb)
  (try clear ho0)
  (try clear ho1)
  obtain ⟨Ao38, co38, eo38⟩ := Kd.S_slice HO487.out
  (first | subst eo38 | (injection eo38 with f1_ f2_ f3_; have f4_ := f1_.symm; have f5_ := f3_.symm; clear f1_ f2_ f3_; subst f4_; subst f5_))
  obtain ⟨Ao39, co39, eo39⟩ := Kd.R_slice HO494.out
  (first | subst eo39 | (injection eo39 with f1_ f2_ f3_; have f4_ := f1_.symm; have f5_ := f3_.symm; clear f1_ f2_ f3_; subst f4_; subst f5_))
  refine hK.out _ _ ⟨bc BK477 0, bc BK477 1, bc BK477 2, bc BK477 3, bc BK477 4, bc BK477 5, bc BK477 6, bc BK477 7, bc BK477 8, bc BK477 9, bc BK444 0, bc BK444 1, bc BK444 2, bc BK444 3, bc BK444 4, bc BK444 5, bc BK444 6, bc BK444 7, bc BK444 8, bc BK444 9⟩ (fun hHeld => ?_)
  clear hK K
  refine normP 29 ?_
  refine one_ (i := 3) (N := some 30) #[true, true, true, true, false] rfl rfl (by kernel_rfl) (by decide) (fun K hK => ?_)
  refine goes_ Try.func24 (by kernel_rfl) rfl #[.agg #[.int .i64 t463, .int .i64 t464, .int .i64 t465, .slice Ao31 t466.length co31, .int .i64 t469, .int .i64 t470, .int .i64 t471, .int .i64 t472, .slice Ao32 t473.length co32, .int .i64 t476], .agg #[.int .i64 t482, .int .i64 t483, .int .i64 t484, .slice Ao38 t485.length co38, .int .i64 t488, .int .i64 t489, .int .i64 t490, .int .i64 t491, .slice Ao39 t492.length co39, .int .i64 t495]] (by rfl) rfl rfl (by (try simp only [List.map_toArray, List.map_cons, List.map_nil]); first | done | rfl | (simp only [List.length_drop, List.length_take]; rfl)) ?_
  with_reducible refine (laws_eqJob.calls k t463 t464 t465 _ _ t466 t469 t470 t471 t472 _ _ t473 t476 t482 t483 t484 _ _ t485 t488 t489 t490 t491 _ _ t492 t495 true _ ?side1 ?side2 ?side3 ?side4 ?side5 ?side6 ?side7 ?side8 A14.out).mono ?_
  (case side1 => repeat (first | exact (Kd.S_reads' HO468.out).2.2 | (with_reducible refine Kd.C_alloc ?_ _) | (with_reducible refine Kd.C_drewN ?_ _) | (with_reducible refine Kd.C_drew ?_)))
  (case side2 => exact (Kd.S_reads' HO468.out).2.1)
  (case side3 => exact (Kd.R_reads' (R_at HO475.out)).2.2)
  (case side4 => exact (Kd.R_reads' HO475.out).2.1)
  (case side5 => repeat (first | exact (Kd.S_reads' HO487.out).2.2 | (with_reducible refine Kd.C_alloc ?_ _) | (with_reducible refine Kd.C_drewN ?_ _) | (with_reducible refine Kd.C_drew ?_)))
  (case side6 => exact (Kd.S_reads' HO487.out).2.1)
  (case side7 => exact (Kd.R_reads' (R_at HO494.out)).2.2)
  (case side8 => exact (Kd.R_reads' HO494.out).2.1)
  rintro e w40 ⟨rfl, hb⟩
  refine ⟨_, rfl, ?_⟩
  replace HO451 := Aside0.mk (Kd.S_below (by (with_reducible repeat (first | apply Kd.S_alloc | apply Kd.S_drewN | apply Kd.S_drew)); exact HO451.out) hb)
  replace HO458 := Aside0.mk (Kd.R_below (R_at HO458.out) hb)
  replace HO462 := Aside0.mk (Kd.R_below (R_at HO462.out) hb)
  replace HO468 := Aside0.mk (Kd.S_below (by (with_reducible repeat (first | apply Kd.S_alloc | apply Kd.S_drewN | apply Kd.S_drew)); exact HO468.out) hb)
  replace HO475 := Aside0.mk (Kd.R_below (R_at HO475.out) hb)
  replace HO480 := Aside0.mk (Kd.Q_below (by (with_reducible repeat (first | apply Kd.Q_alloc | apply Kd.Q_drewN | apply Kd.Q_drew)); exact HO480.out) hb)
  replace HO487 := Aside0.mk (Kd.S_below (by (with_reducible repeat (first | apply Kd.S_alloc | apply Kd.S_drewN | apply Kd.S_drew)); exact HO487.out) hb)
  replace HO494 := Aside0.mk (Kd.R_below (R_at HO494.out) hb)
  replace BK444 := blk_on gb444 hb
  replace BK477 := blk_on gb477 hb
  replace HB := bel_on w hb
  (try clear hb)
  refine hK.out _ _ ⟨bc BK477 0, bc BK477 1, bc BK477 2, bc BK477 3, bc BK477 4, bc BK477 5, bc BK477 6, bc BK477 7, bc BK477 8, bc BK477 9, bc BK444 0, bc BK444 1, bc BK444 2, bc BK444 3, bc BK444 4, bc BK444 5, bc BK444 6, bc BK444 7, bc BK444 8, bc BK444 9⟩ (fun hHeld => ?_)
  clear hK K
  refine normP 30 ?_
  refine stepP 4 (some 31) (tk 5 31) (by kernel_rfl) ?_
  refine done_ (by kernel_rfl) ?_
  have hcz41 := cells10 BK477.out
  go_upto_region 14 with (first | ((with_reducible refine gate_callee (f := 25) rfl ?_); refine goesM (some 34) rfl rfl Try.func25 (by kernel_rfl) rfl #[.agg #[.int .i64 t463, .int .i64 t464, .int .i64 t465, .slice Ao31 t466.length co31, .int .i64 t469, .int .i64 t470, .int .i64 t471, .int .i64 t472, .slice Ao32 t473.length co32, .int .i64 t476], .int .i64 1] rfl ?_; (with_reducible refine (laws_markJob.calls t463 t464 t465 (fun k_ => ((((((((nb k_ Ao32 t473.length co32 ∧ nb k_ Ao23 t449.length co23) ∧ nb k_ Ao24 t456.length co24) ∧ nb k_ Ao35 t460.length co35) ∧ nb k_ Ao34 t478.length co34) ∧ nb k_ Ao38 t485.length co38) ∧ nb k_ Ao39 t492.length co39) ∧ k_ ≠ gb444) ∧ k_ ≠ gb477)) (.slice Ao31 t466.length co31) t466 t469 t470 t471 t472 (fun k_ => some k_ = (.slice Ao32 t473.length co32 : Value).ownBlock) (.slice Ao32 t473.length co32) t473 t476 1 t497 w _ ?side1 ?side2 ?side3 A16.out).mono ?_); (case side1 => exact bel_now); (case side2 => exact Kd.S_mono (Kd.S_types (Kd.S_types (HO468.out) BK444.out (by decide)) BK477.out (by decide)) (fun k_ hk_ => by first | exact hk_ | (simp only [and_assoc, true_and] at hk_ ⊢; first | exact hk_ | ((repeat' apply And.intro) <;> (first | exact hk_.1 | exact hk_.2.1 | exact hk_.2.2.1 | exact hk_.2.2.2.1 | exact hk_.2.2.2.2.1 | exact hk_.2.2.2.2.2.1 | exact hk_.2.2.2.2.2.2.1 | exact hk_.2.2.2.2.2.2.2.1 | exact hk_.2.2.2.2.2.2.2.2.1 | exact hk_.2.2.2.2.2.2.2.2.2.1 | exact hk_.2.2.2.2.2.2.2.2.2.2.1 | exact hk_.2.2.2.2.2.2.2.2.2.2.2.1 | exact hk_.2.2.2.2.2.2.2.2.2.2.2.2.1 | exact hk_.2 | exact hk_.2.2 | exact hk_.2.2.2 | exact hk_.2.2.2.2 | exact hk_.2.2.2.2.2 | exact hk_.2.2.2.2.2.2 | exact hk_.2.2.2.2.2.2.2 | exact hk_.2.2.2.2.2.2.2.2 | exact hk_.2.2.2.2.2.2.2.2.2 | exact hk_.2.2.2.2.2.2.2.2.2.2 | exact hk_.2.2.2.2.2.2.2.2.2.2.2 | exact hk_.2.2.2.2.2.2.2.2.2.2.2.2))))); (case side3 => exact Kd.R_tight rfl HO475.out); rintro e w42 ⟨rfl, hb, hkp⟩; refine ⟨_, rfl, ?_⟩; have n0_ := Aside0.mk (blk_kept blk_now hkp (fun hs_ => Or.elim hs_ (fun e_ => (fun e_ => (e_.1.2) rfl) e_) (fun e_ => (fun e_ => (Kd.R_ne HO475.out BK444.out (by decide)) e_) e_))); have n1_ := Aside0.mk (Kd.R_mono (ok' := fun k_ => nb k_ Ao35 t460.length co35 ∧ nb k_ Ao34 t478.length co34 ∧ nb k_ Ao39 t492.length co39) (Kd.R_keptB ((Kd.R_mono (ok' := fun k_ => ((((True ∧ nb k_ Ao35 t460.length co35) ∧ nb k_ Ao32 t473.length co32) ∧ nb k_ Ao34 t478.length co34) ∧ nb k_ Ao39 t492.length co39) ∧ ¬ ((((((((nb k_ Ao32 t473.length co32 ∧ nb k_ Ao23 t449.length co23) ∧ nb k_ Ao24 t456.length co24) ∧ nb k_ Ao35 t460.length co35) ∧ nb k_ Ao34 t478.length co34) ∧ nb k_ Ao38 t485.length co38) ∧ nb k_ Ao39 t492.length co39) ∧ k_ ≠ gb444) ∧ k_ ≠ gb477)) (Kd.R_tight2 rfl HO458.out) (fun k_ hk => ⟨by first | exact hk.2 | (have h_ := hk.2; simp only [and_assoc, true_and] at h_ ⊢; exact h_), fun hp_ => (hp_.1.1.1.1.1.1.2) hk.1⟩))) hkp (fun k_ hk_ hs_ => Or.elim hs_ (fun e_ => (fun e_ => (hk_.2) e_) e_) (fun e_ => (hk_.1.1.1.2) e_))) (fun k_ hk_ => ⟨hk_.1.1.1.1.1.2, hk_.1.1.1.2, hk_.1.1.2⟩)); have n2_ := Aside0.mk (Kd.R_mono (ok' := fun k_ => nb k_ Ao24 t456.length co24 ∧ nb k_ Ao34 t478.length co34 ∧ nb k_ Ao39 t492.length co39) (Kd.R_keptB ((Kd.R_mono (ok' := fun k_ => ((((True ∧ nb k_ Ao24 t456.length co24) ∧ nb k_ Ao32 t473.length co32) ∧ nb k_ Ao34 t478.length co34) ∧ nb k_ Ao39 t492.length co39) ∧ ¬ ((((((((nb k_ Ao32 t473.length co32 ∧ nb k_ Ao23 t449.length co23) ∧ nb k_ Ao24 t456.length co24) ∧ nb k_ Ao35 t460.length co35) ∧ nb k_ Ao34 t478.length co34) ∧ nb k_ Ao38 t485.length co38) ∧ nb k_ Ao39 t492.length co39) ∧ k_ ≠ gb444) ∧ k_ ≠ gb477)) (Kd.R_tight2 rfl HO462.out) (fun k_ hk => ⟨by first | exact hk.2 | (have h_ := hk.2; simp only [and_assoc, true_and] at h_ ⊢; exact h_), fun hp_ => (hp_.1.1.1.1.1.2) hk.1⟩))) hkp (fun k_ hk_ hs_ => Or.elim hs_ (fun e_ => (fun e_ => (hk_.2) e_) e_) (fun e_ => (hk_.1.1.1.2) e_))) (fun k_ hk_ => ⟨hk_.1.1.1.1.1.2, hk_.1.1.1.2, hk_.1.1.2⟩)); have n3_ := Aside0.mk (blk_kept blk_now hkp (fun hs_ => Or.elim hs_ (fun e_ => (fun e_ => (e_.2) rfl) e_) (fun e_ => (fun e_ => (Kd.R_ne HO475.out BK477.out (by decide)) e_) e_))); have n4_ := Aside0.mk (Kd.Q_mono (ok' := fun k_ => nb k_ Ao24 t456.length co24 ∧ nb k_ Ao35 t460.length co35 ∧ nb k_ Ao39 t492.length co39) (Kd.Q_keptB ((Kd.Q_mono (ok' := fun k_ => ((((True ∧ nb k_ Ao24 t456.length co24) ∧ nb k_ Ao35 t460.length co35) ∧ nb k_ Ao32 t473.length co32) ∧ nb k_ Ao39 t492.length co39) ∧ ¬ ((((((((nb k_ Ao32 t473.length co32 ∧ nb k_ Ao23 t449.length co23) ∧ nb k_ Ao24 t456.length co24) ∧ nb k_ Ao35 t460.length co35) ∧ nb k_ Ao34 t478.length co34) ∧ nb k_ Ao38 t485.length co38) ∧ nb k_ Ao39 t492.length co39) ∧ k_ ≠ gb444) ∧ k_ ≠ gb477)) (Q_tightB rfl HO480.out) (fun k_ hk => ⟨by first | exact hk.2 | (have h_ := hk.2; simp only [and_assoc, true_and] at h_ ⊢; exact h_), fun hp_ => (hp_.1.1.1.1.2) hk.1⟩))) hkp (fun k_ hk_ hs_ => Or.elim hs_ (fun e_ => (fun e_ => (hk_.2) e_) e_) (fun e_ => (hk_.1.1.2) e_))) (fun k_ hk_ => ⟨hk_.1.1.1.1.1.2, hk_.1.1.1.1.2, hk_.1.1.2⟩)); have n5_ := Aside0.mk (Kd.R_mono (ok' := fun k_ => nb k_ Ao24 t456.length co24 ∧ nb k_ Ao35 t460.length co35 ∧ nb k_ Ao34 t478.length co34) (Kd.R_keptB ((Kd.R_mono (ok' := fun k_ => ((((True ∧ nb k_ Ao24 t456.length co24) ∧ nb k_ Ao35 t460.length co35) ∧ nb k_ Ao32 t473.length co32) ∧ nb k_ Ao34 t478.length co34) ∧ ¬ ((((((((nb k_ Ao32 t473.length co32 ∧ nb k_ Ao23 t449.length co23) ∧ nb k_ Ao24 t456.length co24) ∧ nb k_ Ao35 t460.length co35) ∧ nb k_ Ao34 t478.length co34) ∧ nb k_ Ao38 t485.length co38) ∧ nb k_ Ao39 t492.length co39) ∧ k_ ≠ gb444) ∧ k_ ≠ gb477)) (Kd.R_tight2 rfl HO494.out) (fun k_ hk => ⟨by first | exact hk.2 | (have h_ := hk.2; simp only [and_assoc, true_and] at h_ ⊢; exact h_), fun hp_ => (hp_.1.1.2) hk.1⟩))) hkp (fun k_ hk_ hs_ => Or.elim hs_ (fun e_ => (fun e_ => (hk_.2) e_) e_) (fun e_ => (hk_.1.1.2) e_))) (fun k_ hk_ => ⟨hk_.1.1.1.1.1.2, hk_.1.1.1.1.2, hk_.1.1.2⟩)); have n6_ := Aside0.mk (hb); clear BK444; clear HO458; clear HO462; clear BK477; clear HO480; clear HO494; clear HB; clear HO451; clear HO468; clear HO475; clear HO487; have BK444 := n0_; have HO458 := n1_; have HO462 := n2_; have BK477 := n3_; have HO480 := n4_; have HO494 := n5_; have HB := n6_; clear n0_ n1_ n2_ n3_ n4_ n5_ n6_; (try clear hb); (try clear hkp)))
  (try simp only [Act.put, zA, zB, zC])
  go_cut [42] (fun v42 wc => ∃ (kq : Nat) (x42_16 : Bool), v42 = .bool x42_16 ∧ Aside0 (laws_FnExactLeftOf.j0 kq t460 t478 x42_16 a0_0 a0_1 a0_2 l0_3 a0_4 a0_5 a0_6 a0_7 l0_8 a0_9 = some true) ∧ Aside0 (kq ≤ k) ∧ Aside0 (Kd.R (Kd.int .i64) 3 wc w.heap.size (fun k_ => some k_ ≠ ((.slice Ao34 t478.length co34) : Value).ownBlock) (.slice Ao35 t460.length co35) t460) ∧ Aside0 (Kd.Q (Kd.int .i64) 3 wc w.heap.size (fun k_ => some k_ ≠ ((.slice Ao35 t460.length co35) : Value).ownBlock) (.slice Ao34 t478.length co34) t478) ∧ Aside0 (wc.heap[gb444]? = some (.cells #[.int .i64 a0_0, .int .i64 a0_1, .int .i64 a0_2, (.slice A0_3 l0_3.length c0_3), .int .i64 a0_4, .int .i64 a0_5, .int .i64 a0_6, .int .i64 a0_7, (.slice A0_8 l0_8.length c0_8), .int .i64 a0_9] 48 (0, 0))) ∧ Aside0 (Below w.heap.size w wc))
  case first =>
   have H := HC17.out
   clear HC17
   by_cases c43 : t497 < 0
   ·rw [if_pos c43] at H
    have c43b0 : decide (t497 < 0) = true := decide_eq_true c43
    clear c43
    (first | rw [c43b0] | (simp only [i64_w, i32_w]; rw [c43b0]) | skip)
    have H' := Aside0.mk H
    clear H
    go_wp2
    go_meet
    case rel => exact ⟨_, (true), (by first | rfl | (simp; done) | (simp [*]; done)), H', ⟨by first | omega | exact Nat.le_refl _⟩, ⟨by (with_reducible repeat (first | apply Kd.R_alloc | apply Kd.R_drewN | apply Kd.R_drew)); exact Kd.R_mono HO462.out (fun _ hk => hk.2.1)⟩, ⟨by (with_reducible repeat (first | apply Kd.Q_alloc | apply Kd.Q_drewN | apply Kd.Q_drew)); exact Kd.Q_mono HO480.out (fun _ hk => hk.2.1)⟩, ⟨bks BK444⟩, ⟨bel_now⟩⟩
   rw [if_neg c43] at H
   have c43b0 : decide (t497 < 0) = false := decide_eq_false c43
   clear c43
   (first | rw [c43b0] | (simp only [i64_w, i32_w]; rw [c43b0]) | skip)
   replace H := Option.bind_eq_some_iff.mp H
   obtain ⟨t498, A440, H⟩ := H
   (try dsimp only at H)
   have A44 := Aside0.mk A440
   clear A440
   have H' := Aside0.mk H
   clear H
   go_wp2_with (first | (go_at_call 23; (with_reducible refine (laws_eqIntS.calls k _ _ t478 _ _ t460 t498 _ ?side1 ?side2 ?side3 ?side4 A44.out).mono ?_); (case side1 => repeat (first | exact (Kd.Q_reads' HO480.out).2.2 | (with_reducible refine Kd.C_alloc ?_ _) | (with_reducible refine Kd.C_drewN ?_ _) | (with_reducible refine Kd.C_drew ?_))); (case side2 => exact (Kd.Q_reads' HO480.out).2.1); (case side3 => exact (Kd.R_reads' (R_at HO462.out)).2.2); (case side4 => exact (Kd.R_reads' HO462.out).2.1); rintro e w' ⟨rfl, ⟨nd, rfl⟩⟩))
   go_meet
   case rel => exact ⟨_, (!t498), (by first | rfl | (simp; done) | (simp [*]; done)), H', ⟨by first | omega | exact Nat.le_refl _⟩, ⟨by (with_reducible repeat (first | apply Kd.R_alloc | apply Kd.R_drewN | apply Kd.R_drew)); exact Kd.R_mono HO462.out (fun _ hk => hk.2.1)⟩, ⟨by (with_reducible repeat (first | apply Kd.Q_alloc | apply Kd.Q_drewN | apply Kd.Q_drew)); exact Kd.Q_mono HO480.out (fun _ hk => hk.2.1)⟩, ⟨bks BK444⟩, ⟨bel_now⟩⟩
  case rest =>
   clear HC17
   try clear c1
   try clear c2
   try clear p2
   try clear c3
   try clear c3b0
   try clear c4
   try clear c12
   try clear c15
   try clear c19
   try clear c20
   try clear c21
   try clear c22
   try clear c23
   try clear c24
   try clear c25
   try clear c29
   try clear c43
   try clear c43b0
   try clear hcz19
   try clear hcz21
   try clear hcz26
   try clear hcz30
   try clear hcz41
   try clear hcz5
   obtain ⟨kq, x42_16, rfl, HA, HJ16, HO_4, HO_6, BK444, HB⟩ := hcut
   cases kq with
   | zero => exact absurd HA.out (by simp [laws_FnExactLeftOf.j0])
   | succ kj16 =>
    have H := HA.out
    clear HA
    simp only [laws_FnExactLeftOf.j0] at H
    by_cases c45 : x42_16 = true
    ·subst c45
     rw [if_pos rfl] at H
     exact absurd H (by decide)
    replace c45 := Bool.eq_false_iff.mpr c45
    subst c45
    rw [if_neg (show ¬ (false = true) by decide)] at H
    replace H := Option.bind_eq_some_iff.mp H
    obtain ⟨⟨t499, t500⟩, A460, H⟩ := H
    (try dsimp only at H)
    have A46 := Aside0.mk A460
    clear A460
    replace H := Option.bind_eq_some_iff.mp H
    obtain ⟨t501, A470, H⟩ := H
    (try dsimp only at H)
    have A47 := Aside0.mk A470
    clear A470
    by_cases c48 : t501 < 0
    ·rw [if_pos c48] at H
     have c48b0 : decide (t501 < 0) = true := decide_eq_true c48
     clear c48
     exact absurd H (by decide)
    rw [if_neg c48] at H
    have c48b0 : decide (t501 < 0) = false := decide_eq_false c48
    clear c48
    by_cases c49 : t501 = t499
    rotate_left
    ·rw [if_neg c49] at H
     have c49b0 : (t501 == t499) = false := beq_eq_false_iff_ne.mpr c49
     have c49b1 : (t501 != t499) = true := bne_iff_ne.mpr c49
     exact absurd H (by decide)
    rw [if_pos c49] at H
    have c49b0 : (t501 == t499) = true := beq_iff_eq.mpr c49
    have c49b1 : (t501 != t499) = false := bne_eq_false_iff_eq.mpr c49
    clear c49
    replace H := Option.bind_eq_some_iff.mp H
    obtain ⟨⟨t502, t503, t504, t505, t508, t509, t510, t511, t512, t515⟩, A500, H⟩ := H
    (try dsimp only at H)
    have A50 := Aside0.mk A500
    clear A500
    replace H := Option.bind_eq_some_iff.mp H
    obtain ⟨t516, A510, H⟩ := H
    (try dsimp only at H)
    have A51 := Aside0.mk A510
    clear A510
    replace H := Option.bind_eq_some_iff.mp H
    obtain ⟨t519, A520, H⟩ := H
    (try dsimp only at H)
    have A52 := Aside0.mk A520
    clear A520
    by_cases c53 : t519 = true
    rotate_left
    ·replace c53 := Bool.eq_false_iff.mpr c53
     subst c53
     rw [if_neg (show ¬ (false = true) by decide)] at H
     exact absurd H (by decide)
    subst c53
    rw [if_pos rfl] at H
    replace H := Option.bind_eq_some_iff.mp H
    obtain ⟨t520, A540, H⟩ := H
    (try dsimp only at H)
    have A54 := Aside0.mk A540
    clear A540
    by_cases c55 : t520 < 0
    ·rw [if_pos c55] at H
     have c55b0 : decide (t520 < 0) = true := decide_eq_true c55
     clear c55
     exact absurd H (by decide)
    rw [if_neg c55] at H
    have c55b0 : decide (t520 < 0) = false := decide_eq_false c55
    clear c55
    by_cases c56 : t520 = t499
    rotate_left
    ·rw [if_neg c56] at H
     have c56b0 : (t520 == t499) = false := beq_eq_false_iff_ne.mpr c56
     have c56b1 : (t520 != t499) = true := bne_iff_ne.mpr c56
     exact absurd H (by decide)
    rw [if_pos c56] at H
    have c56b0 : (t520 == t499) = true := beq_iff_eq.mpr c56
    have c56b1 : (t520 != t499) = false := bne_eq_false_iff_eq.mpr c56
    clear c56
    clear H
    go_wp2_with (first | ((with_reducible refine gate_callee (f := 26) rfl ?_); refine goesM (some 45) rfl rfl Try.func26 (by kernel_rfl) rfl #[.slice Ao34 t478.length co34, .int .i64 1] rfl ?_; (with_reducible refine (laws_markIntS.calls (fun k_ => some k_ = (.slice Ao34 t478.length co34 : Value).ownBlock) (.slice Ao34 t478.length co34) t478 1 t499 t500 w _ ?side1 ?side2 A46.out).mono ?_); (case side1 => exact bel_now); (case side2 => exact Kd.Q_tight rfl HO_6.out); rintro e w57 ⟨rfl, hy0, hb, hkp⟩; refine ⟨_, rfl, ?_⟩; have n0_ := Aside0.mk (Kd.R_mono (ok' := fun k_ => nb k_ Ao34 t478.length co34) (Kd.R_keptB (HO_4.out) hkp (fun k_ hk_ hs_ => (hk_) hs_)) (fun k_ hk_ => hk_.1)); have n1_ := Aside0.mk (Kd.Q_mono (Kd.Q_tight rfl hy0) (fun k_ e_ => HO_6.out.1 k_ e_.symm)); have n2_ := Aside0.mk (blk_kept blk_now hkp (fun hs_ => (fun e_ => (Kd.Q_ne HO_6.out BK444.out (by decide)) e_) hs_)); have n3_ := Aside0.mk (hb); clear HO_4; clear HO_6; clear BK444; clear HB; have HO_4 := n0_; have HO_6 := n1_; have BK444 := n2_; have HB := n3_; clear n0_ n1_ n2_ n3_; (try clear hb); (try clear hkp); (try clear hy0)) | ((with_reducible refine gate_callee (f := 27) rfl ?_); refine goesL_ (some 48) rfl rfl Try.func27 (by kernel_rfl) rfl #[.slice Ao34 t500.length co34, .int .i64 1] rfl (by (try simp only [List.map_toArray, List.map_cons, List.map_nil]); first | done | (rw [show t500.length = t478.length from (Kd.Q_reads' HO_6.out).1.symm] <;> rfl) | rfl | (simp only [List.length_drop, List.length_take]; rfl)) ?_; (with_reducible refine (laws_heldIntS.calls kj16 _ _ t500 1 t501 _ ?side1 ?side2 A47.out).mono ?_); (case side1 => repeat (first | exact (Kd.Q_reads' HO_6.out).2.2 | (with_reducible refine Kd.C_alloc ?_ _) | (with_reducible refine Kd.C_drewN ?_ _) | (with_reducible refine Kd.C_drew ?_))); (case side2 => rw [show t500.length = t478.length from (Kd.Q_reads' HO_6.out).1.symm]; exact (Kd.Q_reads' HO_6.out).2.1); rintro e w' ⟨rfl, ⟨nd, rfl⟩⟩; refine ⟨_, rfl, ?_⟩; have hcz58 := cells10 BK444.out) | ((with_reducible refine gate_callee (f := 21) rfl ?_); refine goesM (some 55) rfl rfl Try.func21 (by kernel_rfl) rfl #[.agg #[.int .i64 a0_0, .int .i64 a0_1, .int .i64 a0_2, .slice A0_3 l0_3.length c0_3, .int .i64 a0_4, .int .i64 a0_5, .int .i64 a0_6, .int .i64 a0_7, .slice A0_8 l0_8.length c0_8, .int .i64 a0_9]] rfl ?_; (with_reducible refine (laws_toJob.calls kj16 a0_0 a0_1 a0_2 _ _ l0_3 a0_4 a0_5 a0_6 a0_7 _ _ l0_8 a0_9 t502 t503 t504 t505 t508 t509 t510 t511 t512 t515 _ ?side1 ?side2 ?side3 ?side4 A50.out).mono ?_); (case side1 => exact C_now HR0_3.out); (case side2 => exact HC0_3.out); (case side3 => exact C_now HR0_8.out); (case side4 => exact HC0_8.out); rintro e w59 ⟨v506, v513, rfl, ho0, ho1, hb⟩; refine ⟨_, rfl, ?_⟩; have n2_ := Aside0.mk (Kd.S_lower (Kd.S_new' (Kd.S_new' ho0 (Kd.R_lt (R_at HO_4.out))) (Kd.Q_lt (by (with_reducible repeat (first | apply Kd.Q_alloc | apply Kd.Q_drewN | apply Kd.Q_drew)); exact HO_6.out))) (below_size bel_now)); have n3_ := Aside0.mk (Kd.R_lower (Kd.R_new' (Kd.R_new' ho1 (Kd.R_lt (R_at HO_4.out))) (Kd.Q_lt (by (with_reducible repeat (first | apply Kd.Q_alloc | apply Kd.Q_drewN | apply Kd.Q_drew)); exact HO_6.out))) (below_size bel_now)); replace HO_4 := Aside0.mk (Kd.R_elder' (R_at HO_4.out) (Kd.R_base ho1) hb); replace HO_6 := Aside0.mk (Kd.Q_elder' (by (with_reducible repeat (first | apply Kd.Q_alloc | apply Kd.Q_drewN | apply Kd.Q_drew)); exact HO_6.out) (Kd.R_base ho1) hb); replace HB := bel_on w hb; replace BK444 := blk_on gb444 hb; have HO507 := n2_; have HO514 := n3_; clear n2_ n3_; (try clear hb); (try clear ho0); (try clear ho1); obtain ⟨Ao60, co60, eo60⟩ := Kd.S_slice HO507.out; subst eo60; obtain ⟨Ao61, co61, eo61⟩ := Kd.R_slice HO514.out; subst eo61) | ((with_reducible refine gate_callee (f := 22) rfl ?_); refine goesM (some 56) rfl rfl Try.func22 (by kernel_rfl) rfl #[.agg #[.int .i64 t502, .int .i64 t503, .int .i64 t504, .slice Ao60 t505.length co60, .int .i64 t508, .int .i64 t509, .int .i64 t510, .int .i64 t511, .slice Ao61 t512.length co61, .int .i64 t515]] rfl ?_; (with_reducible refine (impl_LeftOf.calls kj16 t502 t503 t504 _ _ t505 t508 t509 t510 t511 _ _ t512 t515 t516 _ ?side1 ?side2 ?side3 ?side4 A51.out).mono ?_); (case side1 => repeat (first | exact (Kd.S_reads' HO507.out).2.2 | (with_reducible refine Kd.C_alloc ?_ _) | (with_reducible refine Kd.C_drewN ?_ _) | (with_reducible refine Kd.C_drew ?_))); (case side2 => exact (Kd.S_reads' HO507.out).2.1); (case side3 => exact (Kd.R_reads' (R_at HO514.out)).2.2); (case side4 => exact (Kd.R_reads' HO514.out).2.1); rintro e w62 ⟨v517, rfl, ho0, hb⟩; refine ⟨_, rfl, ?_⟩; have n4_ := Aside0.mk (Kd.Q_lower (Kd.Q_new' (Kd.Q_new' (Kd.Q_new' ho0 (Kd.R_lt (R_at HO_4.out))) (Kd.Q_lt (by (with_reducible repeat (first | apply Kd.Q_alloc | apply Kd.Q_drewN | apply Kd.Q_drew)); exact HO_6.out))) (Kd.R_lt (R_at HO514.out))) (below_size bel_now)); replace HO_4 := Aside0.mk (Kd.R_elder' (R_at HO_4.out) (Kd.Q_base ho0) hb); replace HO_6 := Aside0.mk (Kd.Q_elder' (by (with_reducible repeat (first | apply Kd.Q_alloc | apply Kd.Q_drewN | apply Kd.Q_drew)); exact HO_6.out) (Kd.Q_base ho0) hb); replace HO507 := Aside0.mk (Kd.S_elder' (by (with_reducible repeat (first | apply Kd.S_alloc | apply Kd.S_drewN | apply Kd.S_drew)); exact HO507.out) (Kd.Q_base ho0) hb); replace HO514 := Aside0.mk (Kd.R_elder' (R_at HO514.out) (Kd.Q_base ho0) hb); replace HB := bel_on w hb; replace BK444 := blk_on gb444 hb; have HO518 := n4_; clear n4_; (try clear hb); (try clear ho0); obtain ⟨Ao63, co63, eo63, _⟩ := Kd.Q_slice HO518.out; subst eo63) | ((with_reducible refine gate_callee (f := 23) rfl ?_); refine goesM (some 59) rfl rfl Try.func23 (by kernel_rfl) rfl #[.slice Ao63 t516.length co63, .slice Ao35 t460.length co35] rfl ?_; (with_reducible refine (laws_eqIntS.calls kj16 _ _ t516 _ _ t460 true _ ?side1 ?side2 ?side3 ?side4 A52.out).mono ?_); (case side1 => repeat (first | exact (Kd.Q_reads' HO518.out).2.2 | (with_reducible refine Kd.C_alloc ?_ _) | (with_reducible refine Kd.C_drewN ?_ _) | (with_reducible refine Kd.C_drew ?_))); (case side2 => exact (Kd.Q_reads' HO518.out).2.1); (case side3 => exact (Kd.R_reads' (R_at HO_4.out)).2.2); (case side4 => exact (Kd.R_reads' HO_4.out).2.1); rintro e w' ⟨rfl, ⟨nd, rfl⟩⟩; refine ⟨_, rfl, ?_⟩) | ((with_reducible refine gate_callee (f := 27) rfl ?_); refine goesL_ (some 63) rfl rfl Try.func27 (by kernel_rfl) rfl #[.slice Ao34 t500.length co34, .int .i64 1] rfl (by (try simp only [List.map_toArray, List.map_cons, List.map_nil]); first | done | (rw [show t500.length = t478.length from (Kd.Q_reads' HO_6.out).1.symm] <;> rfl) | rfl | (simp only [List.length_drop, List.length_take]; rfl)) ?_; (with_reducible refine (laws_heldIntS.calls kj16 _ _ t500 1 t520 _ ?side1 ?side2 A54.out).mono ?_); (case side1 => repeat (first | exact (Kd.Q_reads' HO_6.out).2.2 | (with_reducible refine Kd.C_alloc ?_ _) | (with_reducible refine Kd.C_drewN ?_ _) | (with_reducible refine Kd.C_drew ?_))); (case side2 => rw [show t500.length = t478.length from (Kd.Q_reads' HO_6.out).1.symm]; exact (Kd.Q_reads' HO_6.out).2.1); rintro e w' ⟨rfl, ⟨nd, rfl⟩⟩; refine ⟨_, rfl, ?_⟩))
    go_ret
    exact ⟨eqN, bel_now⟩

end Go.Proofs.Ytclpojeofclbjaa.PFnExactLeftOf
