-- Printed by the session's own program (wip/myprint.py) for this claim out of the translation. Not trusted: Lean checks it.
import Derived.Test.YtclpojeofclbjaaDoorPFnExactModelTextx0
import Derived.Test.YtclpojeofclbjaaDoorPFnExactModelTextx1
import Derived.Test.YtclpojeofclbjaaDoorPFnExactModelTextx6
import Derived.Test.YtclpojeofclbjaaDoorPFnExactModelTextx11
import Derived.Test.YtclpojeofclbjaaDoorPFnExactModelTextx12
namespace Go.Proofs.YtclpojeofclbjaaDoor.PFnExactModelText
open Go.RowKit Go.Proofs.YtclpojeofclbjaaDoorW.PrintWords Go.Proofs.YtclpojeofclbjaaDoorW.PrintLast Go.Proofs.YtclpojeofclbjaaDoorW.PrintMore
attribute [local go_sem] max2_int min2_int max_two min_two max_three min_three max_four min_four   -- for this text's walks alone
set_option linter.unusedVariables false
set_option linter.unusedSimpArgs false

/-! ### laws_eqModel: function 9 -/
def laws_eqModel.f (k : Nat) (a0_0 : Int) (a0_1 : Int) (a0_2 : Int) (l0_3 : List (S49)) (a1_0 : Int) (a1_1 : Int) (a1_2 : Int) (l1_3 : List (S49)) : Option (Bool) := (laws_eqShape.f a0_0 a0_1 a0_2 a1_0 a1_1 a1_2).bind fun t356 => (if t356 = true then ((laws_eqLayerS.f k l0_3 l1_3).bind fun t357 => (if t357 = true then (some true) else (some false))) else (some false))
set_option maxHeartbeats 8000000 in
set_option maxRecDepth 100000 in
theorem laws_eqModel.calls (k : Nat) (a0_0 : Int) (a0_1 : Int) (a0_2 : Int) (A0_3 : Option Addr) (c0_3 : Nat) (l0_3 : List (S49)) (a1_0 : Int) (a1_1 : Int) (a1_2 : Int) (A1_3 : Option Addr) (c1_3 : Nat) (l1_3 : List (S49)) (r : Bool) (w : World) (hr0_3 : Kd.C k49 w A0_3 l0_3.length l0_3) (hc0_3 : l0_3.length ≤ c0_3) (hr1_3 : Kd.C k49 w A1_3 l1_3.length l1_3) (hc1_3 : l1_3.length ≤ c1_3) (h : laws_eqModel.f k a0_0 a0_1 a0_2 l0_3 a1_0 a1_1 a1_2 l1_3 = some r) :
   Calls Tryd.prog 9 #[.agg #[.int .i64 a0_0, .int .i64 a0_1, .int .i64 a0_2, .slice A0_3 l0_3.length c0_3], .agg #[.int .i64 a1_0, .int .i64 a1_1, .int .i64 a1_2, .slice A1_3 l1_3.length c1_3]] w fun e w' => e = .returned (.bool r) ∧ Below w.heap.size w w' := by
  have hu32 := Tryd.underlying32
  have hu29 := Tryd.underlying29
  have HR0_3 := Aside0.mk hr0_3
  have HC0_3 := Aside0.mk hc0_3
  clear hr0_3 hc0_3
  have HR1_3 := Aside0.mk hr1_3
  have HC1_3 := Aside0.mk hc1_3
  clear hr1_3 hc1_3
  have HB := Aside0.mk (Below.refl w.heap.size w)
  have H : ((laws_eqShape.f a0_0 a0_1 a0_2 a1_0 a1_1 a1_2).bind fun t356 => (if t356 = true then ((laws_eqLayerS.f k l0_3 l1_3).bind fun t357 => (if t357 = true then (some true) else (some false))) else (some false))) = some r := h
  clear h
  replace H := Option.bind_eq_some_iff.mp H
  obtain ⟨t356, A30, H⟩ := H
  (try dsimp only at H)
  have A3 := Aside0.mk A30
  clear A30
  by_cases c4 : t356 = true
  rotate_left
  ·replace c4 := Bool.eq_false_iff.mpr c4
   subst c4
   rw [if_neg (show ¬ (false = true) by decide)] at H
   obtain rfl := Option.some.inj H
   go_enter Tryd.func9, Tryd.ntmps9
   go_wp2_with (first | ((with_reducible refine gate_dst (N := 2) rfl ?_); refine boxM 2 #[.int .i64 a0_0, .int .i64 a0_1, .int .i64 a0_2, .slice A0_3 l0_3.length c0_3] 32 ?_; intro gb354 hg w25 BK354 hb; replace HB := box_at w hb hg; obtain ⟨HB, GW354, GE354⟩ := HB; clear hb hg) | ((with_reducible refine gate_dst (N := 3) rfl ?_); refine boxM 3 #[.int .i64 a1_0, .int .i64 a1_1, .int .i64 a1_2, .slice A1_3 l1_3.length c1_3] 32 ?_; intro gb355 hg w26 BK355 hb; replace HB := box_at w hb hg; obtain ⟨HB, GW355, GE355⟩ := HB; replace BK354 := box_on gb354 hb hg; obtain ⟨BK354, NB354_355, NB355_354⟩ := BK354; clear hb hg; have hn27 := ne2 NB354_355; have hcz28 := cells4 BK354.out; have hcz29 := cells4 BK355.out) | ((with_reducible refine gate_callee (f := 25) rfl ?_); refine goesM (some 9) rfl rfl Tryd.func25 (by kernel_rfl) rfl #[.agg #[.int .i64 a0_0, .int .i64 a0_1, .int .i64 a0_2], .agg #[.int .i64 a1_0, .int .i64 a1_1, .int .i64 a1_2]] rfl ?_; (with_reducible refine (laws_eqShape.calls a0_0 a0_1 a0_2 a1_0 a1_1 a1_2 false _ A3.out).mono ?_); rintro e w30 ⟨rfl, hb⟩; refine ⟨_, rfl, ?_⟩; replace HB := bel_on w hb; replace BK354 := blk_on gb354 hb; replace BK355 := blk_on gb355 hb; (try clear hb)))
   go_ret
   exact ⟨eqN, bel_now⟩
  subst c4
  rw [if_pos rfl] at H
  replace H := Option.bind_eq_some_iff.mp H
  obtain ⟨t357, A50, H⟩ := H
  (try dsimp only at H)
  have A5 := Aside0.mk A50
  clear A50
  by_cases c6 : t357 = true
  ·subst c6
   rw [if_pos rfl] at H
   obtain rfl := Option.some.inj H
   go_enter Tryd.func9, Tryd.ntmps9
   go_wp2_with (first | ((with_reducible refine gate_dst (N := 2) rfl ?_); refine boxM 2 #[.int .i64 a0_0, .int .i64 a0_1, .int .i64 a0_2, .slice A0_3 l0_3.length c0_3] 32 ?_; intro gb354 hg w7 BK354 hb; replace HB := box_at w hb hg; obtain ⟨HB, GW354, GE354⟩ := HB; clear hb hg) | ((with_reducible refine gate_dst (N := 3) rfl ?_); refine boxM 3 #[.int .i64 a1_0, .int .i64 a1_1, .int .i64 a1_2, .slice A1_3 l1_3.length c1_3] 32 ?_; intro gb355 hg w8 BK355 hb; replace HB := box_at w hb hg; obtain ⟨HB, GW355, GE355⟩ := HB; replace BK354 := box_on gb354 hb hg; obtain ⟨BK354, NB354_355, NB355_354⟩ := BK354; clear hb hg; have hn9 := ne2 NB354_355; have hcz10 := cells4 BK354.out; have hcz11 := cells4 BK355.out) | ((with_reducible refine gate_callee (f := 25) rfl ?_); refine goesM (some 9) rfl rfl Tryd.func25 (by kernel_rfl) rfl #[.agg #[.int .i64 a0_0, .int .i64 a0_1, .int .i64 a0_2], .agg #[.int .i64 a1_0, .int .i64 a1_1, .int .i64 a1_2]] rfl ?_; (with_reducible refine (laws_eqShape.calls a0_0 a0_1 a0_2 a1_0 a1_1 a1_2 true _ A3.out).mono ?_); rintro e w12 ⟨rfl, hb⟩; refine ⟨_, rfl, ?_⟩; replace HB := bel_on w hb; replace BK354 := blk_on gb354 hb; replace BK355 := blk_on gb355 hb; (try clear hb); have hcz13 := cells4 BK354.out; have hcz14 := cells4 BK355.out) | ((with_reducible refine gate_callee (f := 26) rfl ?_); refine goesM (some 15) rfl rfl Tryd.func26 (by kernel_rfl) rfl #[.slice A0_3 l0_3.length c0_3, .slice A1_3 l1_3.length c1_3] rfl ?_; (with_reducible refine (laws_eqLayerS.calls k _ _ l0_3 _ _ l1_3 true _ ?side1 ?side2 ?side3 ?side4 A5.out).mono ?_); (case side1 => exact C_now HR0_3.out); (case side2 => exact HC0_3.out); (case side3 => exact C_now HR1_3.out); (case side4 => exact HC1_3.out); rintro e w15 ⟨rfl, hb⟩; refine ⟨_, rfl, ?_⟩; replace HB := bel_on w hb; replace BK354 := blk_on gb354 hb; replace BK355 := blk_on gb355 hb; (try clear hb)))
   go_ret
   exact ⟨eqN, bel_now⟩
  replace c6 := Bool.eq_false_iff.mpr c6
  subst c6
  rw [if_neg (show ¬ (false = true) by decide)] at H
  obtain rfl := Option.some.inj H
  go_enter Tryd.func9, Tryd.ntmps9
  go_wp2_with (first | ((with_reducible refine gate_dst (N := 2) rfl ?_); refine boxM 2 #[.int .i64 a0_0, .int .i64 a0_1, .int .i64 a0_2, .slice A0_3 l0_3.length c0_3] 32 ?_; intro gb354 hg w16 BK354 hb; replace HB := box_at w hb hg; obtain ⟨HB, GW354, GE354⟩ := HB; clear hb hg) | ((with_reducible refine gate_dst (N := 3) rfl ?_); refine boxM 3 #[.int .i64 a1_0, .int .i64 a1_1, .int .i64 a1_2, .slice A1_3 l1_3.length c1_3] 32 ?_; intro gb355 hg w17 BK355 hb; replace HB := box_at w hb hg; obtain ⟨HB, GW355, GE355⟩ := HB; replace BK354 := box_on gb354 hb hg; obtain ⟨BK354, NB354_355, NB355_354⟩ := BK354; clear hb hg; have hn18 := ne2 NB354_355; have hcz19 := cells4 BK354.out; have hcz20 := cells4 BK355.out) | ((with_reducible refine gate_callee (f := 25) rfl ?_); refine goesM (some 9) rfl rfl Tryd.func25 (by kernel_rfl) rfl #[.agg #[.int .i64 a0_0, .int .i64 a0_1, .int .i64 a0_2], .agg #[.int .i64 a1_0, .int .i64 a1_1, .int .i64 a1_2]] rfl ?_; (with_reducible refine (laws_eqShape.calls a0_0 a0_1 a0_2 a1_0 a1_1 a1_2 true _ A3.out).mono ?_); rintro e w21 ⟨rfl, hb⟩; refine ⟨_, rfl, ?_⟩; replace HB := bel_on w hb; replace BK354 := blk_on gb354 hb; replace BK355 := blk_on gb355 hb; (try clear hb); have hcz22 := cells4 BK354.out; have hcz23 := cells4 BK355.out) | ((with_reducible refine gate_callee (f := 26) rfl ?_); refine goesM (some 15) rfl rfl Tryd.func26 (by kernel_rfl) rfl #[.slice A0_3 l0_3.length c0_3, .slice A1_3 l1_3.length c1_3] rfl ?_; (with_reducible refine (laws_eqLayerS.calls k _ _ l0_3 _ _ l1_3 false _ ?side1 ?side2 ?side3 ?side4 A5.out).mono ?_); (case side1 => exact C_now HR0_3.out); (case side2 => exact HC0_3.out); (case side3 => exact C_now HR1_3.out); (case side4 => exact HC1_3.out); rintro e w24 ⟨rfl, hb⟩; refine ⟨_, rfl, ?_⟩; replace HB := bel_on w hb; replace BK354 := blk_on gb354 hb; replace BK355 := blk_on gb355 hb; (try clear hb)))
  go_ret
  exact ⟨eqN, bel_now⟩

/-! ### laws_FnExactModelText: function 3 -/
def laws_FnExactModelText.f (k : Nat) (a0_0 : Int) (a0_1 : Int) (a0_2 : Int) (l0_3 : List (S74)) : Option (Bool) := (laws_szModel.f k a0_0 a0_1 a0_2 l0_3 1048576).bind fun t359 => (if t359 < 0 then (some true) else ((laws_toModel.f k a0_0 a0_1 a0_2 l0_3).bind fun bt360 => ((spec_ModelText.f k bt360.1 bt360.2.1 bt360.2.2.1 bt360.2.2.2).bind fun t366 => ((laws_toModel.f k a0_0 a0_1 a0_2 l0_3).bind fun bt367 => ((impl_ModelText.f k bt367.1 bt367.2.1 bt367.2.2.1 bt367.2.2.2).bind fun t374 => (if t374.toList = t366.toList then ((laws_toModel.f k a0_0 a0_1 a0_2 l0_3).bind fun bt375 => ((laws_eqModel.f k bt367.1 bt367.2.1 bt367.2.2.1 bt367.2.2.2 bt375.1 bt375.2.1 bt375.2.2.1 bt375.2.2.2).bind fun t381 => (if t381 = true then (some true) else (some false)))) else (some false)))))))
set_option maxHeartbeats 8000000 in
set_option maxRecDepth 100000 in
theorem laws_FnExactModelText.calls (k : Nat) (a0_0 : Int) (a0_1 : Int) (a0_2 : Int) (A0_3 : Option Addr) (c0_3 : Nat) (l0_3 : List (S74)) (w : World) (hr0_3 : Kd.C k74 w A0_3 l0_3.length l0_3) (hc0_3 : l0_3.length ≤ c0_3) (htab : TabT w) (h : laws_FnExactModelText.f k a0_0 a0_1 a0_2 l0_3 = some true) :
   Calls Tryd.prog 3 #[.agg #[.int .i64 a0_0, .int .i64 a0_1, .int .i64 a0_2, .slice A0_3 l0_3.length c0_3]] w fun e w' => e = .returned (.bool true) ∧ Below w.heap.size w w' := by
  have HTB := Aside0.mk htab
  clear htab
  have hu26 := Tryd.underlying26
  have hu32 := Tryd.underlying32
  have HR0_3 := Aside0.mk hr0_3
  have HC0_3 := Aside0.mk hc0_3
  clear hr0_3 hc0_3
  have HB := Aside0.mk (Below.refl w.heap.size w)
  have H : ((laws_szModel.f k a0_0 a0_1 a0_2 l0_3 1048576).bind fun t359 => (if t359 < 0 then (some true) else ((laws_toModel.f k a0_0 a0_1 a0_2 l0_3).bind fun bt360 => ((spec_ModelText.f k bt360.1 bt360.2.1 bt360.2.2.1 bt360.2.2.2).bind fun t366 => ((laws_toModel.f k a0_0 a0_1 a0_2 l0_3).bind fun bt367 => ((impl_ModelText.f k bt367.1 bt367.2.1 bt367.2.2.1 bt367.2.2.2).bind fun t374 => (if t374.toList = t366.toList then ((laws_toModel.f k a0_0 a0_1 a0_2 l0_3).bind fun bt375 => ((laws_eqModel.f k bt367.1 bt367.2.1 bt367.2.2.1 bt367.2.2.2 bt375.1 bt375.2.1 bt375.2.2.1 bt375.2.2.2).bind fun t381 => (if t381 = true then (some true) else (some false)))) else (some false)))))))) = some true := h
  clear h
  replace H := Option.bind_eq_some_iff.mp H
  obtain ⟨t359, A20, H⟩ := H
  (try dsimp only at H)
  have A2 := Aside0.mk A20
  clear A20
  by_cases c3 : t359 < 0
  ·rw [if_pos c3] at H
   have c3b0 : decide (t359 < 0) = true := decide_eq_true c3
   clear c3
   clear H
   go_enter Tryd.func3, Tryd.ntmps3
   go_wp2_with (first | ((with_reducible refine gate_dst (N := 1) rfl ?_); refine boxM 1 #[.int .i64 a0_0, .int .i64 a0_1, .int .i64 a0_2, .slice A0_3 l0_3.length c0_3] 26 ?_; intro gb358 hg w4 BK358 hb; replace HB := box_at w hb hg; obtain ⟨HB, GW358, GE358⟩ := HB; clear hb hg; have hcz5 := cells4 BK358.out) | ((with_reducible refine gate_callee (f := 5) rfl ?_); refine goesM (some 9) rfl rfl Tryd.func5 (by kernel_rfl) rfl #[.agg #[.int .i64 a0_0, .int .i64 a0_1, .int .i64 a0_2, .slice A0_3 l0_3.length c0_3], .int .i64 1048576] rfl ?_; (with_reducible refine (laws_szModel.calls k a0_0 a0_1 a0_2 _ _ l0_3 1048576 t359 _ ?side1 ?side2 A2.out).mono ?_); (case side1 => exact C_now HR0_3.out); (case side2 => exact HC0_3.out); rintro e w6 ⟨rfl, hb⟩; refine ⟨_, rfl, ?_⟩; replace HB := bel_on w hb; replace BK358 := blk_on gb358 hb; (try clear hb)))
   go_ret
   exact ⟨eqN, bel_now⟩
  rw [if_neg c3] at H
  have c3b0 : decide (t359 < 0) = false := decide_eq_false c3
  clear c3
  replace H := Option.bind_eq_some_iff.mp H
  obtain ⟨⟨t360, t361, t362, t363⟩, A70, H⟩ := H
  (try dsimp only at H)
  have A7 := Aside0.mk A70
  clear A70
  replace H := Option.bind_eq_some_iff.mp H
  obtain ⟨t366, A80, H⟩ := H
  (try dsimp only at H)
  have A8 := Aside0.mk A80
  clear A80
  replace H := Option.bind_eq_some_iff.mp H
  obtain ⟨⟨t367, t368, t369, t370⟩, A90, H⟩ := H
  (try dsimp only at H)
  have A9 := Aside0.mk A90
  clear A90
  replace H := Option.bind_eq_some_iff.mp H
  obtain ⟨t374, A100, H⟩ := H
  (try dsimp only at H)
  have A10 := Aside0.mk A100
  clear A100
  by_cases c11 : t374.toList = t366.toList
  rotate_left
  ·rw [if_neg c11] at H
   have c11b0 : (t374.toList == t366.toList) = false := beq_eq_false_iff_ne.mpr c11
   have c11b1 : (t374.toList != t366.toList) = true := bne_iff_ne.mpr c11
   exact absurd H (by decide)
  rw [if_pos c11] at H
  have c11b0 : (t374.toList == t366.toList) = true := beq_iff_eq.mpr c11
  have c11b1 : (t374.toList != t366.toList) = false := bne_eq_false_iff_eq.mpr c11
  clear c11
  replace H := Option.bind_eq_some_iff.mp H
  obtain ⟨⟨t375, t376, t377, t378⟩, A120, H⟩ := H
  (try dsimp only at H)
  have A12 := Aside0.mk A120
  clear A120
  replace H := Option.bind_eq_some_iff.mp H
  obtain ⟨t381, A130, H⟩ := H
  (try dsimp only at H)
  have A13 := Aside0.mk A130
  clear A130
  by_cases c14 : t381 = true
  rotate_left
  ·replace c14 := Bool.eq_false_iff.mpr c14
   subst c14
   rw [if_neg (show ¬ (false = true) by decide)] at H
   exact absurd H (by decide)
  subst c14
  have H1 : (some true) = some true := rfl
  clear H
  have H := H1
  clear H1
  clear H
  go_enter Tryd.func3, Tryd.ntmps3
  try go_wp2_with (first | ((with_reducible refine gate_dst (N := 1) rfl ?_); refine boxM 1 #[.int .i64 a0_0, .int .i64 a0_1, .int .i64 a0_2, .slice A0_3 l0_3.length c0_3] 26 ?_; intro gb358 hg w15 BK358 hb; replace HB := box_at w hb hg; obtain ⟨HB, GW358, GE358⟩ := HB; clear hb hg; have hcz16 := cells4 BK358.out) | ((with_reducible refine gate_callee (f := 5) rfl ?_); refine goesM (some 9) rfl rfl Tryd.func5 (by kernel_rfl) rfl #[.agg #[.int .i64 a0_0, .int .i64 a0_1, .int .i64 a0_2, .slice A0_3 l0_3.length c0_3], .int .i64 1048576] rfl ?_; (with_reducible refine (laws_szModel.calls k a0_0 a0_1 a0_2 _ _ l0_3 1048576 t359 _ ?side1 ?side2 A2.out).mono ?_); (case side1 => exact C_now HR0_3.out); (case side2 => exact HC0_3.out); rintro e w17 ⟨rfl, hb⟩; refine ⟨_, rfl, ?_⟩; replace HB := bel_on w hb; replace BK358 := blk_on gb358 hb; (try clear hb); have hcz18 := cells4 BK358.out) | ((with_reducible refine gate_callee (f := 7) rfl ?_); refine goesM (some 13) rfl rfl Tryd.func7 (by kernel_rfl) rfl #[.agg #[.int .i64 a0_0, .int .i64 a0_1, .int .i64 a0_2, .slice A0_3 l0_3.length c0_3]] rfl ?_; (with_reducible refine (laws_toModel.calls k a0_0 a0_1 a0_2 _ _ l0_3 t360 t361 t362 t363 _ ?side1 ?side2 A7.out).mono ?_); (case side1 => exact C_now HR0_3.out); (case side2 => exact HC0_3.out); rintro e w19 ⟨v364, rfl, ho0, hb⟩; refine ⟨_, rfl, ?_⟩; have n0_ := Aside0.mk (Kd.S_lower ho0 (below_size bel_now)); replace HB := bel_on w hb; replace BK358 := blk_on gb358 hb; have HO365 := n0_; clear n0_; (try clear hb); (try clear ho0); obtain ⟨Ao20, co20, eo20⟩ := Kd.S_slice HO365.out; subst eo20) | ((with_reducible refine gate_callee (f := 6) rfl ?_); refine goesM (some 14) rfl rfl Tryd.func6 (by kernel_rfl) rfl #[.agg #[.int .i64 t360, .int .i64 t361, .int .i64 t362, .slice Ao20 t363.length co20]] rfl ?_; (with_reducible refine (spec_ModelText.calls k t360 t361 t362 _ _ t363 t366 _ ?side1 ?side2 A8.out).mono ?_); (case side1 => repeat (first | exact (Kd.S_reads' HO365.out).2.2 | (with_reducible refine Kd.C_alloc ?_ _) | (with_reducible refine Kd.C_drewN ?_ _) | (with_reducible refine Kd.C_drew ?_))); (case side2 => exact (Kd.S_reads' HO365.out).2.1); rintro e w21 ⟨rfl, hb⟩; refine ⟨_, rfl, ?_⟩; replace HO365 := Aside0.mk (Kd.S_below (by (with_reducible repeat (first | apply Kd.S_alloc | apply Kd.S_drewN | apply Kd.S_drew)); exact HO365.out) hb); replace HB := bel_on w hb; replace BK358 := blk_on gb358 hb; (try clear hb); have hcz22 := cells4 BK358.out) | ((with_reducible refine gate_callee (f := 7) rfl ?_); refine goesM (some 16) rfl rfl Tryd.func7 (by kernel_rfl) rfl #[.agg #[.int .i64 a0_0, .int .i64 a0_1, .int .i64 a0_2, .slice A0_3 l0_3.length c0_3]] rfl ?_; (with_reducible refine (laws_toModel.calls k a0_0 a0_1 a0_2 _ _ l0_3 t367 t368 t369 t370 _ ?side1 ?side2 A9.out).mono ?_); (case side1 => exact C_now HR0_3.out); (case side2 => exact HC0_3.out); rintro e w23 ⟨v371, rfl, ho0, hb⟩; refine ⟨_, rfl, ?_⟩; have n1_ := Aside0.mk (Kd.S_lower (Kd.S_new' ho0 (Kd.S_lt (by (with_reducible repeat (first | apply Kd.S_alloc | apply Kd.S_drewN | apply Kd.S_drew)); exact HO365.out))) (below_size bel_now)); replace HO365 := Aside0.mk (Kd.S_elder' (by (with_reducible repeat (first | apply Kd.S_alloc | apply Kd.S_drewN | apply Kd.S_drew)); exact HO365.out) (Kd.S_base ho0) hb); replace HB := bel_on w hb; replace BK358 := blk_on gb358 hb; have HO372 := n1_; clear n1_; (try clear hb); (try clear ho0)) | ((with_reducible refine gate_dst (N := 5) rfl ?_); refine boxM 5 #[.int .i64 0, .int .i64 0, .int .i64 0, .slice none 0 0] 32 ?_; intro gb373 hg w24 BK373 hb; replace HB := box_at w hb hg; obtain ⟨HB, GW373, GE373⟩ := HB; replace BK358 := box_on gb358 hb hg; obtain ⟨BK358, NB358_373, NB373_358⟩ := BK358; replace HO365 := Aside0.mk (Kd.S_below (by (with_reducible repeat (first | apply Kd.S_alloc | apply Kd.S_drewN | apply Kd.S_drew)); exact HO365.out) hb); replace HO372 := Aside0.mk (Kd.S_below (by (with_reducible repeat (first | apply Kd.S_alloc | apply Kd.S_drewN | apply Kd.S_drew)); exact HO372.out) hb); clear hb hg; have hn25 := ne2 NB373_358; have hcz26 := cells4 BK373.out; obtain ⟨Ao27, co27, eo27⟩ := Kd.S_slice HO372.out; subst eo27) | ((with_reducible refine gate_callee (f := 8) rfl ?_); refine goesM (some 18) rfl rfl Tryd.func8 (by kernel_rfl) rfl #[.agg #[.int .i64 t367, .int .i64 t368, .int .i64 t369, .slice Ao27 t370.length co27]] rfl ?_; (with_reducible refine (impl_ModelText.calls (htab := tab_now HTB) k t367 t368 t369 _ _ t370 t374 _ ?side1 ?side2 A10.out).mono ?_); (case side1 => refine (Kd.S_reads' (e := 49) (base := w.heap.size) (ok := fun k_ => (True ∧ nb k_ Ao20 t363.length co20)) (n := t370.length) (c := co27) ?_).2.2; exact (by (with_reducible repeat (first | apply Kd.S_alloc | apply Kd.S_drewN | apply Kd.S_drew)); exact (Kd.S_mono (Kd.S_far (p := ⟨gb373, 3, none⟩) (Kd.S_far (p := ⟨gb373, 2, none⟩) (Kd.S_far (p := ⟨gb373, 1, none⟩) (Kd.S_far (p := ⟨gb373, 0, none⟩) (Kd.S_types HO372.out BK373.out (by decide)) (fun _ hk => hk.2) (.int .i64 t367)) (fun _ hk => hk.2) (.int .i64 t368)) (fun _ hk => hk.2) (.int .i64 t369)) (fun _ hk => hk.2) (.slice Ao27 t370.length co27)) (fun _ h_ => h_.1)))); (case side2 => exact (Kd.S_reads' HO372.out).2.1); rintro e w28 ⟨rfl, hb⟩; refine ⟨_, rfl, ?_⟩; have n0_ := Aside0.mk (Kd.S_below (by (with_reducible repeat (first | apply Kd.S_alloc | apply Kd.S_drewN | apply Kd.S_drew)); exact (Kd.S_mono (Kd.S_far (p := ⟨gb373, 3, none⟩) (Kd.S_far (p := ⟨gb373, 2, none⟩) (Kd.S_far (p := ⟨gb373, 1, none⟩) (Kd.S_far (p := ⟨gb373, 0, none⟩) (Kd.S_types HO365.out BK373.out (by decide)) (fun _ hk => hk.2) (.int .i64 t367)) (fun _ hk => hk.2) (.int .i64 t368)) (fun _ hk => hk.2) (.int .i64 t369)) (fun _ hk => hk.2) (.slice Ao27 t370.length co27)) (fun _ h_ => h_.1))) hb); have n1_ := Aside0.mk (Kd.S_below (by (with_reducible repeat (first | apply Kd.S_alloc | apply Kd.S_drewN | apply Kd.S_drew)); exact (Kd.S_mono (Kd.S_far (p := ⟨gb373, 3, none⟩) (Kd.S_far (p := ⟨gb373, 2, none⟩) (Kd.S_far (p := ⟨gb373, 1, none⟩) (Kd.S_far (p := ⟨gb373, 0, none⟩) (Kd.S_types HO372.out BK373.out (by decide)) (fun _ hk => hk.2) (.int .i64 t367)) (fun _ hk => hk.2) (.int .i64 t368)) (fun _ hk => hk.2) (.int .i64 t369)) (fun _ hk => hk.2) (.slice Ao27 t370.length co27)) (fun _ h_ => h_.1))) hb); replace HB := bel_on w hb; replace BK358 := Aside0.mk (blk_below (g := gb358) (o := .cells #[.int .i64 a0_0, .int .i64 a0_1, .int .i64 a0_2, .slice A0_3 l0_3.length c0_3] 26 (0, 0)) (blk_fars BK358.out) hb); replace BK373 := Aside0.mk (blk_below (g := gb373) (o := .cells #[.int .i64 t367, .int .i64 t368, .int .i64 t369, .slice Ao27 t370.length co27] 32 (0, 0)) (blk_fars (puts4 BK373.out)) hb); clear HO365 HO372; have HO365 := n0_; have HO372 := n1_; clear n0_ n1_; (try clear hb); (try clear hk)))
  replace HO365 := Aside0.mk (Kd.S_drew HO365.out)
  replace HO372 := Aside0.mk (Kd.S_drew HO372.out)
  replace BK358 := Aside0.mk (blk_drew BK358.out)
  replace BK373 := Aside0.mk (blk_drew BK373.out)
  replace HB := Aside0.mk (below_drew1 HB.out)
  refine start_ (n := 5) (S := fun w' => w'.cell? ⟨gb373, 0, none⟩ = some (.int .i64 t367) ∧ w'.cell? ⟨gb373, 1, none⟩ = some (.int .i64 t368) ∧ w'.cell? ⟨gb373, 2, none⟩ = some (.int .i64 t369) ∧ w'.cell? ⟨gb373, 3, none⟩ = some (.slice Ao27 t370.length co27) ∧ w'.cell? ⟨gb358, 0, none⟩ = some (.int .i64 a0_0) ∧ w'.cell? ⟨gb358, 1, none⟩ = some (.int .i64 a0_1) ∧ w'.cell? ⟨gb358, 2, none⟩ = some (.int .i64 a0_2) ∧ w'.cell? ⟨gb358, 3, none⟩ = some (.slice A0_3 l0_3.length c0_3)) (ds := []) #[false, false, false, false, false] (by kernel_rfl) rfl rfl ⟨bc BK373 0, bc BK373 1, bc BK373 2, bc BK373 3, bc BK358 0, bc BK358 1, bc BK358 2, bc BK358 3⟩ (fun hHeld => ?_)
  generalize w28.drew = w29 at HO365 HO372 BK358 BK373 HB hHeld ⊢
  refine stepT 0 (some 22) (tk 5 1) (by kernel_rfl) hHeld ?_
  refine stepT 1 (some 23) (tk 5 3) (by kernel_rfl) hHeld ?_
  refine one_ (i := 2) (N := some 24) #[true, true, true, false, false] rfl rfl (by kernel_rfl) (by decide) (fun K hK => ?_)
  refine goes_ Tryd.func7 (by kernel_rfl) rfl #[.agg #[.int .i64 a0_0, .int .i64 a0_1, .int .i64 a0_2, .slice A0_3 l0_3.length c0_3]] (by rfl) rfl rfl (by (try simp only [List.map_toArray, List.map_cons, List.map_nil]); first | done | rfl | (simp only [List.length_drop, List.length_take]; rfl)) ?_
  with_reducible refine (laws_toModel.calls k a0_0 a0_1 a0_2 _ _ l0_3 t375 t376 t377 t378 _ ?side1 ?side2 A12.out).mono ?_
  (case side1 => exact C_now HR0_3.out)
  (case side2 => exact HC0_3.out)
  rintro e w30 ⟨v379, rfl, ho0, hb⟩
  refine ⟨_, rfl, ?_⟩
  have n2_ := Aside0.mk (Kd.S_lower (Kd.S_new' (Kd.S_new' ho0 (Kd.S_lt (by (with_reducible repeat (first | apply Kd.S_alloc | apply Kd.S_drewN | apply Kd.S_drew)); exact HO365.out))) (Kd.S_lt (by (with_reducible repeat (first | apply Kd.S_alloc | apply Kd.S_drewN | apply Kd.S_drew)); exact HO372.out))) (below_size bel_now))
  replace HO365 := Aside0.mk (Kd.S_elder' (by (with_reducible repeat (first | apply Kd.S_alloc | apply Kd.S_drewN | apply Kd.S_drew)); exact HO365.out) (Kd.S_base ho0) hb)
  replace HO372 := Aside0.mk (Kd.S_elder' (by (with_reducible repeat (first | apply Kd.S_alloc | apply Kd.S_drewN | apply Kd.S_drew)); exact HO372.out) (Kd.S_base ho0) hb)
  replace BK358 := blk_on gb358 hb
  replace BK373 := blk_on gb373 hb
  replace HB := bel_on w hb
  have HO380 := n2_
  clear n2_
  (try clear hb)
  (try clear ho0)
  obtain ⟨Ao31, co31, eo31⟩ := Kd.S_slice HO380.out
  (first | subst eo31 | (injection eo31 with f1_ f2_ f3_; have f4_ := f1_.symm; have f5_ := f3_.symm; clear f1_ f2_ f3_; subst f4_; subst f5_))
  refine hK.out _ _ ⟨bc BK373 0, bc BK373 1, bc BK373 2, bc BK373 3, bc BK358 0, bc BK358 1, bc BK358 2, bc BK358 3⟩ (fun hHeld => ?_)
  clear hK K
  refine normP 24 ?_
  refine one_ (i := 3) (N := some 25) #[true, true, true, true, false] rfl rfl (by kernel_rfl) (by decide) (fun K hK => ?_)
  refine goes_ Tryd.func9 (by kernel_rfl) rfl #[.agg #[.int .i64 t367, .int .i64 t368, .int .i64 t369, .slice Ao27 t370.length co27], .agg #[.int .i64 t375, .int .i64 t376, .int .i64 t377, .slice Ao31 t378.length co31]] (by rfl) rfl rfl (by (try simp only [List.map_toArray, List.map_cons, List.map_nil]); first | done | rfl | (simp only [List.length_drop, List.length_take]; rfl)) ?_
  with_reducible refine (laws_eqModel.calls k t367 t368 t369 _ _ t370 t375 t376 t377 _ _ t378 true _ ?side1 ?side2 ?side3 ?side4 A13.out).mono ?_
  (case side1 => repeat (first | exact (Kd.S_reads' HO372.out).2.2 | (with_reducible refine Kd.C_alloc ?_ _) | (with_reducible refine Kd.C_drewN ?_ _) | (with_reducible refine Kd.C_drew ?_)))
  (case side2 => exact (Kd.S_reads' HO372.out).2.1)
  (case side3 => repeat (first | exact (Kd.S_reads' HO380.out).2.2 | (with_reducible refine Kd.C_alloc ?_ _) | (with_reducible refine Kd.C_drewN ?_ _) | (with_reducible refine Kd.C_drew ?_)))
  (case side4 => exact (Kd.S_reads' HO380.out).2.1)
  rintro e w32 ⟨rfl, hb⟩
  refine ⟨_, rfl, ?_⟩
  replace HO365 := Aside0.mk (Kd.S_below (by (with_reducible repeat (first | apply Kd.S_alloc | apply Kd.S_drewN | apply Kd.S_drew)); exact HO365.out) hb)
  replace HO372 := Aside0.mk (Kd.S_below (by (with_reducible repeat (first | apply Kd.S_alloc | apply Kd.S_drewN | apply Kd.S_drew)); exact HO372.out) hb)
  replace HO380 := Aside0.mk (Kd.S_below (by (with_reducible repeat (first | apply Kd.S_alloc | apply Kd.S_drewN | apply Kd.S_drew)); exact HO380.out) hb)
  replace BK358 := blk_on gb358 hb
  replace BK373 := blk_on gb373 hb
  replace HB := bel_on w hb
  (try clear hb)
  refine hK.out _ _ ⟨bc BK373 0, bc BK373 1, bc BK373 2, bc BK373 3, bc BK358 0, bc BK358 1, bc BK358 2, bc BK358 3⟩ (fun hHeld => ?_)
  clear hK K
  refine normP 25 ?_
  refine stepP 4 (some 26) (tk 5 31) (by kernel_rfl) ?_
  refine done_ (by kernel_rfl) ?_
  try go_wp2
  go_ret
  exact ⟨eqN, bel_now⟩

end Go.Proofs.YtclpojeofclbjaaDoor.PFnExactModelText
