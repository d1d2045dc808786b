-- Printed by the session's own program (wip/myprint.py) for this claim out of the translation. Not trusted: Lean checks it.
import Derived.Test.YtljdcemdhmaahaaPFnExactNextCostx0
import Derived.Test.YtljdcemdhmaahaaPFnExactNextCostx12
namespace Go.Proofs.Ytljdcemdhmaahaa.PFnExactNextCost
open Go.RowKit Go.Proofs.YtljdcemdhmaahaaW.PrintWords Go.Proofs.YtljdcemdhmaahaaW.PrintLast Go.Proofs.YtljdcemdhmaahaaW.PrintMore
attribute [local go_sem] max2_int min2_int max_two min_two max_three min_three max_four min_four   -- for this text's walks alone
set_option linter.unusedVariables false
set_option linter.unusedSimpArgs false

/-! ### impl_Layer_isScaled: function 117 -/
def impl_Layer_isScaled.f (k : Nat) (a0_0 : Int) (a0_1 : Int) (a0_2 : Int) (a0_3 : Int) (a0_4 : Int) (a0_5 : Int) (a0_6 : Int) (l0_7 : List Int) (l0_8 : List Int) (a1 : Int) : Option (Bool) := (impl_in.f a0_1 1 8).bind fun t307 => (if t307 = true then ((impl_in.f a0_4 0 2147483647).bind fun t308 => (if t308 = true then ((impl_in.f a0_5 0 31).bind fun t309 => (if t309 = true then ((impl_in.f a0_6 (-128) 127).bind fun t310 => (if t310 = true then (if (l0_7.length : Int) = (wrap64 (a0_1 * a1)) then ((impl_areItems.f k l0_7).bind fun t311 => (if t311 = true then (if (l0_8.length : Int) = a0_1 then ((slices_ContainsFunc_int_int_impl_Layer_isScaled_1.f k l0_8).bind fun t312 => (some (!t312))) else (some false)) else (some false))) else (some false)) else (some false))) else (some false))) else (some false))) else (some false))
set_option maxHeartbeats 8000000 in
set_option maxRecDepth 100000 in
theorem impl_Layer_isScaled.calls (k : Nat) (a0_0 : Int) (a0_1 : Int) (a0_2 : Int) (a0_3 : Int) (a0_4 : Int) (a0_5 : Int) (a0_6 : Int) (A0_7 : Option Addr) (c0_7 : Nat) (l0_7 : List Int) (A0_8 : Option Addr) (c0_8 : Nat) (l0_8 : List Int) (a1 : Int) (r : Bool) (w : World) (hr0_7 : Kd.C (Kd.int .i64) w A0_7 l0_7.length l0_7) (hc0_7 : l0_7.length ≤ c0_7) (hr0_8 : Kd.C (Kd.int .i64) w A0_8 l0_8.length l0_8) (hc0_8 : l0_8.length ≤ c0_8) (h : impl_Layer_isScaled.f k a0_0 a0_1 a0_2 a0_3 a0_4 a0_5 a0_6 l0_7 l0_8 a1 = some r) :
   Calls Try.prog 117 #[.agg #[.int .i64 a0_0, .int .i64 a0_1, .int .i64 a0_2, .int .i64 a0_3, .int .i64 a0_4, .int .i64 a0_5, .int .i64 a0_6, .slice A0_7 l0_7.length c0_7, .slice A0_8 l0_8.length c0_8], .int .i64 a1] w fun e w' => e = .returned (.bool r) ∧ Below w.heap.size w w' := by
  have hu73 := Try.underlying73
  have HR0_7 := Aside0.mk hr0_7
  have HC0_7 := Aside0.mk hc0_7
  clear hr0_7 hc0_7
  have HR0_8 := Aside0.mk hr0_8
  have HC0_8 := Aside0.mk hc0_8
  clear hr0_8 hc0_8
  have HB := Aside0.mk (Below.refl w.heap.size w)
  have H : ((impl_in.f a0_1 1 8).bind fun t307 => (if t307 = true then ((impl_in.f a0_4 0 2147483647).bind fun t308 => (if t308 = true then ((impl_in.f a0_5 0 31).bind fun t309 => (if t309 = true then ((impl_in.f a0_6 (-128) 127).bind fun t310 => (if t310 = true then (if (l0_7.length : Int) = (wrap64 (a0_1 * a1)) then ((impl_areItems.f k l0_7).bind fun t311 => (if t311 = true then (if (l0_8.length : Int) = a0_1 then ((slices_ContainsFunc_int_int_impl_Layer_isScaled_1.f k l0_8).bind fun t312 => (some (!t312))) else (some false)) else (some false))) else (some false)) else (some false))) else (some false))) else (some false))) else (some false))) = some r := h
  clear h
  replace H := Option.bind_eq_some_iff.mp H
  obtain ⟨t307, A30, H⟩ := H
  (try dsimp only at H)
  have A3 := Aside0.mk A30
  clear A30
  by_cases c4 : t307 = true
  ·subst c4
   rw [if_pos rfl] at H
   replace H := Option.bind_eq_some_iff.mp H
   obtain ⟨t308, A50, H⟩ := H
   (try dsimp only at H)
   have A5 := Aside0.mk A50
   clear A50
   by_cases c6 : t308 = true
   ·subst c6
    rw [if_pos rfl] at H
    replace H := Option.bind_eq_some_iff.mp H
    obtain ⟨t309, A70, H⟩ := H
    (try dsimp only at H)
    have A7 := Aside0.mk A70
    clear A70
    by_cases c8 : t309 = true
    ·subst c8
     rw [if_pos rfl] at H
     replace H := Option.bind_eq_some_iff.mp H
     obtain ⟨t310, A90, H⟩ := H
     (try dsimp only at H)
     have A9 := Aside0.mk A90
     clear A90
     by_cases c10 : t310 = true
     ·subst c10
      rw [if_pos rfl] at H
      by_cases c11 : (l0_7.length : Int) = (wrap64 (a0_1 * a1))
      ·rw [if_pos c11] at H
       have c11b0 : ((l0_7.length : Int) == (wrap64 (a0_1 * a1))) = true := beq_iff_eq.mpr c11
       have c11b1 : ((l0_7.length : Int) != (wrap64 (a0_1 * a1))) = false := bne_eq_false_iff_eq.mpr c11
       clear c11
       replace H := Option.bind_eq_some_iff.mp H
       obtain ⟨t311, A120, H⟩ := H
       (try dsimp only at H)
       have A12 := Aside0.mk A120
       clear A120
       by_cases c13 : t311 = true
       ·subst c13
        rw [if_pos rfl] at H
        by_cases c14 : (l0_8.length : Int) = a0_1
        ·rw [if_pos c14] at H
         have c14b0 : ((l0_8.length : Int) == a0_1) = true := beq_iff_eq.mpr c14
         have c14b1 : ((l0_8.length : Int) != a0_1) = false := bne_eq_false_iff_eq.mpr c14
         clear c14
         replace H := Option.bind_eq_some_iff.mp H
         obtain ⟨t312, A150, H⟩ := H
         (try dsimp only at H)
         have A15 := Aside0.mk A150
         clear A150
         obtain rfl := Option.some.inj H
         go_enter Try.func117, Try.ntmps117
         go_wp2_with (first | ((with_reducible refine gate_dst (N := 2) rfl ?_); (try (refine gate_guard (by rfl) ?_; dsimp only)); refine boxM 2 #[.int .i64 a0_0, .int .i64 a0_1, .int .i64 a0_2, .int .i64 a0_3, .int .i64 a0_4, .int .i64 a0_5, .int .i64 a0_6, .slice A0_7 l0_7.length c0_7, .slice A0_8 l0_8.length c0_8] 73 ?_; intro gb306 hg w16 BK306 hb; replace HB := box_at w hb hg; obtain ⟨HB, GW306, GE306⟩ := HB; clear hb hg; obtain ⟨hcz17_0, hcz17_1, hcz17_2, hcz17_3, hcz17_4, hcz17_5, hcz17_6, hcz17_7, hcz17_8, hfz17_0, hfz17_1, hfz17_2, hfz17_3, hfz17_4, hfz17_5, hfz17_6, hfz17_7, hfz17_8⟩ := cells9 BK306.out) | ((with_reducible refine gate_callee (f := 82) rfl ?_); refine goesM (some 7) rfl rfl Try.func82 (by kernel_rfl) rfl #[.int .i64 a0_1, .int .i64 1, .int .i64 8] rfl ?_; (with_reducible refine (impl_in.calls a0_1 1 8 true _ A3.out).mono ?_); rintro e w' ⟨rfl, ⟨nd, rfl⟩⟩; refine ⟨_, rfl, ?_⟩) | (go_at_call 82; (with_reducible refine (impl_in.calls a0_4 0 2147483647 true _ A5.out).mono ?_); rintro e w' ⟨rfl, ⟨nd, rfl⟩⟩) | (go_at_call 82; (with_reducible refine (impl_in.calls a0_5 0 31 true _ A7.out).mono ?_); rintro e w' ⟨rfl, ⟨nd, rfl⟩⟩) | (go_at_call 82; (with_reducible refine (impl_in.calls a0_6 (-128) 127 true _ A9.out).mono ?_); rintro e w' ⟨rfl, ⟨nd, rfl⟩⟩) | (go_at_call 108; (with_reducible refine (impl_areItems.calls k _ _ l0_7 true _ ?side1 ?side2 A12.out).mono ?_); (case side1 => exact C_now HR0_7.out); (case side2 => exact HC0_7.out); rintro e w' ⟨rfl, ⟨nd, rfl⟩⟩) | (go_at_call 121; (with_reducible refine (slices_ContainsFunc_int_int_impl_Layer_isScaled_1.calls k _ _ l0_8 t312 _ ?side1 ?side2 A15.out).mono ?_); (case side1 => exact C_now HR0_8.out); (case side2 => exact HC0_8.out); rintro e w' ⟨rfl, ⟨nd, rfl⟩⟩))
         go_ret
         exact ⟨eqN, bel_now⟩
        ·rw [if_neg c14] at H
         have c14b0 : ((l0_8.length : Int) == a0_1) = false := beq_eq_false_iff_ne.mpr c14
         have c14b1 : ((l0_8.length : Int) != a0_1) = true := bne_iff_ne.mpr c14
         obtain rfl := Option.some.inj H
         go_enter Try.func117, Try.ntmps117
         go_wp2_with (first | ((with_reducible refine gate_dst (N := 2) rfl ?_); (try (refine gate_guard (by rfl) ?_; dsimp only)); refine boxM 2 #[.int .i64 a0_0, .int .i64 a0_1, .int .i64 a0_2, .int .i64 a0_3, .int .i64 a0_4, .int .i64 a0_5, .int .i64 a0_6, .slice A0_7 l0_7.length c0_7, .slice A0_8 l0_8.length c0_8] 73 ?_; intro gb306 hg w18 BK306 hb; replace HB := box_at w hb hg; obtain ⟨HB, GW306, GE306⟩ := HB; clear hb hg; obtain ⟨hcz19_0, hcz19_1, hcz19_2, hcz19_3, hcz19_4, hcz19_5, hcz19_6, hcz19_7, hcz19_8, hfz19_0, hfz19_1, hfz19_2, hfz19_3, hfz19_4, hfz19_5, hfz19_6, hfz19_7, hfz19_8⟩ := cells9 BK306.out) | ((with_reducible refine gate_callee (f := 82) rfl ?_); refine goesM (some 7) rfl rfl Try.func82 (by kernel_rfl) rfl #[.int .i64 a0_1, .int .i64 1, .int .i64 8] rfl ?_; (with_reducible refine (impl_in.calls a0_1 1 8 true _ A3.out).mono ?_); rintro e w' ⟨rfl, ⟨nd, rfl⟩⟩; refine ⟨_, rfl, ?_⟩) | (go_at_call 82; (with_reducible refine (impl_in.calls a0_4 0 2147483647 true _ A5.out).mono ?_); rintro e w' ⟨rfl, ⟨nd, rfl⟩⟩) | (go_at_call 82; (with_reducible refine (impl_in.calls a0_5 0 31 true _ A7.out).mono ?_); rintro e w' ⟨rfl, ⟨nd, rfl⟩⟩) | (go_at_call 82; (with_reducible refine (impl_in.calls a0_6 (-128) 127 true _ A9.out).mono ?_); rintro e w' ⟨rfl, ⟨nd, rfl⟩⟩) | (go_at_call 108; (with_reducible refine (impl_areItems.calls k _ _ l0_7 true _ ?side1 ?side2 A12.out).mono ?_); (case side1 => exact C_now HR0_7.out); (case side2 => exact HC0_7.out); rintro e w' ⟨rfl, ⟨nd, rfl⟩⟩))
         go_ret
         exact ⟨eqN, bel_now⟩
       ·replace c13 := Bool.eq_false_iff.mpr c13
        subst c13
        rw [if_neg (show ¬ (false = true) by decide)] at H
        obtain rfl := Option.some.inj H
        go_enter Try.func117, Try.ntmps117
        go_wp2_with (first | ((with_reducible refine gate_dst (N := 2) rfl ?_); (try (refine gate_guard (by rfl) ?_; dsimp only)); refine boxM 2 #[.int .i64 a0_0, .int .i64 a0_1, .int .i64 a0_2, .int .i64 a0_3, .int .i64 a0_4, .int .i64 a0_5, .int .i64 a0_6, .slice A0_7 l0_7.length c0_7, .slice A0_8 l0_8.length c0_8] 73 ?_; intro gb306 hg w20 BK306 hb; replace HB := box_at w hb hg; obtain ⟨HB, GW306, GE306⟩ := HB; clear hb hg; obtain ⟨hcz21_0, hcz21_1, hcz21_2, hcz21_3, hcz21_4, hcz21_5, hcz21_6, hcz21_7, hcz21_8, hfz21_0, hfz21_1, hfz21_2, hfz21_3, hfz21_4, hfz21_5, hfz21_6, hfz21_7, hfz21_8⟩ := cells9 BK306.out) | ((with_reducible refine gate_callee (f := 82) rfl ?_); refine goesM (some 7) rfl rfl Try.func82 (by kernel_rfl) rfl #[.int .i64 a0_1, .int .i64 1, .int .i64 8] rfl ?_; (with_reducible refine (impl_in.calls a0_1 1 8 true _ A3.out).mono ?_); rintro e w' ⟨rfl, ⟨nd, rfl⟩⟩; refine ⟨_, rfl, ?_⟩) | (go_at_call 82; (with_reducible refine (impl_in.calls a0_4 0 2147483647 true _ A5.out).mono ?_); rintro e w' ⟨rfl, ⟨nd, rfl⟩⟩) | (go_at_call 82; (with_reducible refine (impl_in.calls a0_5 0 31 true _ A7.out).mono ?_); rintro e w' ⟨rfl, ⟨nd, rfl⟩⟩) | (go_at_call 82; (with_reducible refine (impl_in.calls a0_6 (-128) 127 true _ A9.out).mono ?_); rintro e w' ⟨rfl, ⟨nd, rfl⟩⟩) | (go_at_call 108; (with_reducible refine (impl_areItems.calls k _ _ l0_7 false _ ?side1 ?side2 A12.out).mono ?_); (case side1 => exact C_now HR0_7.out); (case side2 => exact HC0_7.out); rintro e w' ⟨rfl, ⟨nd, rfl⟩⟩))
        go_ret
        exact ⟨eqN, bel_now⟩
      ·rw [if_neg c11] at H
       have c11b0 : ((l0_7.length : Int) == (wrap64 (a0_1 * a1))) = false := beq_eq_false_iff_ne.mpr c11
       have c11b1 : ((l0_7.length : Int) != (wrap64 (a0_1 * a1))) = true := bne_iff_ne.mpr c11
       obtain rfl := Option.some.inj H
       go_enter Try.func117, Try.ntmps117
       go_wp2_with (first | ((with_reducible refine gate_dst (N := 2) rfl ?_); (try (refine gate_guard (by rfl) ?_; dsimp only)); refine boxM 2 #[.int .i64 a0_0, .int .i64 a0_1, .int .i64 a0_2, .int .i64 a0_3, .int .i64 a0_4, .int .i64 a0_5, .int .i64 a0_6, .slice A0_7 l0_7.length c0_7, .slice A0_8 l0_8.length c0_8] 73 ?_; intro gb306 hg w22 BK306 hb; replace HB := box_at w hb hg; obtain ⟨HB, GW306, GE306⟩ := HB; clear hb hg; obtain ⟨hcz23_0, hcz23_1, hcz23_2, hcz23_3, hcz23_4, hcz23_5, hcz23_6, hcz23_7, hcz23_8, hfz23_0, hfz23_1, hfz23_2, hfz23_3, hfz23_4, hfz23_5, hfz23_6, hfz23_7, hfz23_8⟩ := cells9 BK306.out) | ((with_reducible refine gate_callee (f := 82) rfl ?_); refine goesM (some 7) rfl rfl Try.func82 (by kernel_rfl) rfl #[.int .i64 a0_1, .int .i64 1, .int .i64 8] rfl ?_; (with_reducible refine (impl_in.calls a0_1 1 8 true _ A3.out).mono ?_); rintro e w' ⟨rfl, ⟨nd, rfl⟩⟩; refine ⟨_, rfl, ?_⟩) | (go_at_call 82; (with_reducible refine (impl_in.calls a0_4 0 2147483647 true _ A5.out).mono ?_); rintro e w' ⟨rfl, ⟨nd, rfl⟩⟩) | (go_at_call 82; (with_reducible refine (impl_in.calls a0_5 0 31 true _ A7.out).mono ?_); rintro e w' ⟨rfl, ⟨nd, rfl⟩⟩) | (go_at_call 82; (with_reducible refine (impl_in.calls a0_6 (-128) 127 true _ A9.out).mono ?_); rintro e w' ⟨rfl, ⟨nd, rfl⟩⟩))
       go_ret
       exact ⟨eqN, bel_now⟩
     ·replace c10 := Bool.eq_false_iff.mpr c10
      subst c10
      rw [if_neg (show ¬ (false = true) by decide)] at H
      obtain rfl := Option.some.inj H
      go_enter Try.func117, Try.ntmps117
      go_wp2_with (first | ((with_reducible refine gate_dst (N := 2) rfl ?_); (try (refine gate_guard (by rfl) ?_; dsimp only)); refine boxM 2 #[.int .i64 a0_0, .int .i64 a0_1, .int .i64 a0_2, .int .i64 a0_3, .int .i64 a0_4, .int .i64 a0_5, .int .i64 a0_6, .slice A0_7 l0_7.length c0_7, .slice A0_8 l0_8.length c0_8] 73 ?_; intro gb306 hg w24 BK306 hb; replace HB := box_at w hb hg; obtain ⟨HB, GW306, GE306⟩ := HB; clear hb hg; obtain ⟨hcz25_0, hcz25_1, hcz25_2, hcz25_3, hcz25_4, hcz25_5, hcz25_6, hcz25_7, hcz25_8, hfz25_0, hfz25_1, hfz25_2, hfz25_3, hfz25_4, hfz25_5, hfz25_6, hfz25_7, hfz25_8⟩ := cells9 BK306.out) | ((with_reducible refine gate_callee (f := 82) rfl ?_); refine goesM (some 7) rfl rfl Try.func82 (by kernel_rfl) rfl #[.int .i64 a0_1, .int .i64 1, .int .i64 8] rfl ?_; (with_reducible refine (impl_in.calls a0_1 1 8 true _ A3.out).mono ?_); rintro e w' ⟨rfl, ⟨nd, rfl⟩⟩; refine ⟨_, rfl, ?_⟩) | (go_at_call 82; (with_reducible refine (impl_in.calls a0_4 0 2147483647 true _ A5.out).mono ?_); rintro e w' ⟨rfl, ⟨nd, rfl⟩⟩) | (go_at_call 82; (with_reducible refine (impl_in.calls a0_5 0 31 true _ A7.out).mono ?_); rintro e w' ⟨rfl, ⟨nd, rfl⟩⟩) | (go_at_call 82; (with_reducible refine (impl_in.calls a0_6 (-128) 127 false _ A9.out).mono ?_); rintro e w' ⟨rfl, ⟨nd, rfl⟩⟩))
      go_ret
      exact ⟨eqN, bel_now⟩
    ·replace c8 := Bool.eq_false_iff.mpr c8
     subst c8
     rw [if_neg (show ¬ (false = true) by decide)] at H
     obtain rfl := Option.some.inj H
     go_enter Try.func117, Try.ntmps117
     go_wp2_with (first | ((with_reducible refine gate_dst (N := 2) rfl ?_); (try (refine gate_guard (by rfl) ?_; dsimp only)); refine boxM 2 #[.int .i64 a0_0, .int .i64 a0_1, .int .i64 a0_2, .int .i64 a0_3, .int .i64 a0_4, .int .i64 a0_5, .int .i64 a0_6, .slice A0_7 l0_7.length c0_7, .slice A0_8 l0_8.length c0_8] 73 ?_; intro gb306 hg w26 BK306 hb; replace HB := box_at w hb hg; obtain ⟨HB, GW306, GE306⟩ := HB; clear hb hg; obtain ⟨hcz27_0, hcz27_1, hcz27_2, hcz27_3, hcz27_4, hcz27_5, hcz27_6, hcz27_7, hcz27_8, hfz27_0, hfz27_1, hfz27_2, hfz27_3, hfz27_4, hfz27_5, hfz27_6, hfz27_7, hfz27_8⟩ := cells9 BK306.out) | ((with_reducible refine gate_callee (f := 82) rfl ?_); refine goesM (some 7) rfl rfl Try.func82 (by kernel_rfl) rfl #[.int .i64 a0_1, .int .i64 1, .int .i64 8] rfl ?_; (with_reducible refine (impl_in.calls a0_1 1 8 true _ A3.out).mono ?_); rintro e w' ⟨rfl, ⟨nd, rfl⟩⟩; refine ⟨_, rfl, ?_⟩) | (go_at_call 82; (with_reducible refine (impl_in.calls a0_4 0 2147483647 true _ A5.out).mono ?_); rintro e w' ⟨rfl, ⟨nd, rfl⟩⟩) | (go_at_call 82; (with_reducible refine (impl_in.calls a0_5 0 31 false _ A7.out).mono ?_); rintro e w' ⟨rfl, ⟨nd, rfl⟩⟩))
     go_ret
     exact ⟨eqN, bel_now⟩
   ·replace c6 := Bool.eq_false_iff.mpr c6
    subst c6
    rw [if_neg (show ¬ (false = true) by decide)] at H
    obtain rfl := Option.some.inj H
    go_enter Try.func117, Try.ntmps117
    go_wp2_with (first | ((with_reducible refine gate_dst (N := 2) rfl ?_); (try (refine gate_guard (by rfl) ?_; dsimp only)); refine boxM 2 #[.int .i64 a0_0, .int .i64 a0_1, .int .i64 a0_2, .int .i64 a0_3, .int .i64 a0_4, .int .i64 a0_5, .int .i64 a0_6, .slice A0_7 l0_7.length c0_7, .slice A0_8 l0_8.length c0_8] 73 ?_; intro gb306 hg w28 BK306 hb; replace HB := box_at w hb hg; obtain ⟨HB, GW306, GE306⟩ := HB; clear hb hg; obtain ⟨hcz29_0, hcz29_1, hcz29_2, hcz29_3, hcz29_4, hcz29_5, hcz29_6, hcz29_7, hcz29_8, hfz29_0, hfz29_1, hfz29_2, hfz29_3, hfz29_4, hfz29_5, hfz29_6, hfz29_7, hfz29_8⟩ := cells9 BK306.out) | ((with_reducible refine gate_callee (f := 82) rfl ?_); refine goesM (some 7) rfl rfl Try.func82 (by kernel_rfl) rfl #[.int .i64 a0_1, .int .i64 1, .int .i64 8] rfl ?_; (with_reducible refine (impl_in.calls a0_1 1 8 true _ A3.out).mono ?_); rintro e w' ⟨rfl, ⟨nd, rfl⟩⟩; refine ⟨_, rfl, ?_⟩) | (go_at_call 82; (with_reducible refine (impl_in.calls a0_4 0 2147483647 false _ A5.out).mono ?_); rintro e w' ⟨rfl, ⟨nd, rfl⟩⟩))
    go_ret
    exact ⟨eqN, bel_now⟩
  ·replace c4 := Bool.eq_false_iff.mpr c4
   subst c4
   rw [if_neg (show ¬ (false = true) by decide)] at H
   obtain rfl := Option.some.inj H
   go_enter Try.func117, Try.ntmps117
   go_wp2_with (first | ((with_reducible refine gate_dst (N := 2) rfl ?_); (try (refine gate_guard (by rfl) ?_; dsimp only)); refine boxM 2 #[.int .i64 a0_0, .int .i64 a0_1, .int .i64 a0_2, .int .i64 a0_3, .int .i64 a0_4, .int .i64 a0_5, .int .i64 a0_6, .slice A0_7 l0_7.length c0_7, .slice A0_8 l0_8.length c0_8] 73 ?_; intro gb306 hg w30 BK306 hb; replace HB := box_at w hb hg; obtain ⟨HB, GW306, GE306⟩ := HB; clear hb hg; obtain ⟨hcz31_0, hcz31_1, hcz31_2, hcz31_3, hcz31_4, hcz31_5, hcz31_6, hcz31_7, hcz31_8, hfz31_0, hfz31_1, hfz31_2, hfz31_3, hfz31_4, hfz31_5, hfz31_6, hfz31_7, hfz31_8⟩ := cells9 BK306.out) | ((with_reducible refine gate_callee (f := 82) rfl ?_); refine goesM (some 7) rfl rfl Try.func82 (by kernel_rfl) rfl #[.int .i64 a0_1, .int .i64 1, .int .i64 8] rfl ?_; (with_reducible refine (impl_in.calls a0_1 1 8 false _ A3.out).mono ?_); rintro e w' ⟨rfl, ⟨nd, rfl⟩⟩; refine ⟨_, rfl, ?_⟩))
   go_ret
   exact ⟨eqN, bel_now⟩

/-! ### impl_Layer_isWindow: function 118 -/
def impl_Layer_isWindow.f (a0_0 : Int) (a0_1 : Int) (a0_2 : Int) (a0_3 : Int) (a0_4 : Int) (a0_5 : Int) (a0_6 : Int) (l0_7 : List Int) (l0_8 : List Int) (a1_0 : Int) (a1_1 : Int) (a1_2 : Int) : Option (Bool) := (impl_in.f a0_2 1 (mn (mn 3 a1_0) a1_1)).bind fun t315 => (if t315 = true then ((impl_in.f a0_3 1 2).bind fun t316 => (some t316)) else (some false))
set_option maxHeartbeats 8000000 in
set_option maxRecDepth 100000 in
theorem impl_Layer_isWindow.calls (a0_0 : Int) (a0_1 : Int) (a0_2 : Int) (a0_3 : Int) (a0_4 : Int) (a0_5 : Int) (a0_6 : Int) (A0_7 : Option Addr) (c0_7 : Nat) (l0_7 : List Int) (A0_8 : Option Addr) (c0_8 : Nat) (l0_8 : List Int) (a1_0 : Int) (a1_1 : Int) (a1_2 : Int) (r : Bool) (w : World) (hr0_7 : Kd.C (Kd.int .i64) w A0_7 l0_7.length l0_7) (hc0_7 : l0_7.length ≤ c0_7) (hr0_8 : Kd.C (Kd.int .i64) w A0_8 l0_8.length l0_8) (hc0_8 : l0_8.length ≤ c0_8) (h : impl_Layer_isWindow.f a0_0 a0_1 a0_2 a0_3 a0_4 a0_5 a0_6 l0_7 l0_8 a1_0 a1_1 a1_2 = some r) :
   Calls Try.prog 118 #[.agg #[.int .i64 a0_0, .int .i64 a0_1, .int .i64 a0_2, .int .i64 a0_3, .int .i64 a0_4, .int .i64 a0_5, .int .i64 a0_6, .slice A0_7 l0_7.length c0_7, .slice A0_8 l0_8.length c0_8], .agg #[.int .i64 a1_0, .int .i64 a1_1, .int .i64 a1_2]] w fun e w' => e = .returned (.bool r) ∧ Below w.heap.size w w' := by
  have hu73 := Try.underlying73
  have hu25 := Try.underlying25
  have HR0_7 := Aside0.mk hr0_7
  have HC0_7 := Aside0.mk hc0_7
  clear hr0_7 hc0_7
  have HR0_8 := Aside0.mk hr0_8
  have HC0_8 := Aside0.mk hc0_8
  clear hr0_8 hc0_8
  have HB := Aside0.mk (Below.refl w.heap.size w)
  have H : ((impl_in.f a0_2 1 (mn (mn 3 a1_0) a1_1)).bind fun t315 => (if t315 = true then ((impl_in.f a0_3 1 2).bind fun t316 => (some t316)) else (some false))) = some r := h
  clear h
  obtain ⟨ji3, hji3⟩ : ∃ j_ : Int, (mn 3 a1_0) = j_ := ⟨_, rfl⟩
  replace H : ((impl_in.f a0_2 1 (mn (ji3) a1_1)).bind fun t315 => (if t315 = true then ((impl_in.f a0_3 1 2).bind fun t316 => (some t316)) else (some false))) = some r := by first | (rw [hji3] at H; exact H) | (simp only [hji3] at H ⊢; exact H)
  (try (have hji3h : ji3 ≤ 3 := by (rw [← hji3]; unfold mn; (repeat' split) <;> omega)))
  (try (have hji3g : ji3 ≤ 64 := by omega))
  have hji3_ : (if a1_0 < 3 then a1_0 else 3) = ji3 := hji3
  obtain ⟨ji4, hji4⟩ : ∃ j_ : Int, (mn (ji3) a1_1) = j_ := ⟨_, rfl⟩
  replace H : ((impl_in.f a0_2 1 (ji4)).bind fun t315 => (if t315 = true then ((impl_in.f a0_3 1 2).bind fun t316 => (some t316)) else (some false))) = some r := by first | (rw [hji4] at H; exact H) | (simp only [hji4] at H ⊢; exact H)
  have hji4_ : (if a1_1 < (ji3) then a1_1 else (ji3)) = ji4 := hji4
  replace H := Option.bind_eq_some_iff.mp H
  obtain ⟨t315, A50, H⟩ := H
  (try dsimp only at H)
  have A5 := Aside0.mk A50
  clear A50
  by_cases c6 : t315 = true
  ·subst c6
   rw [if_pos rfl] at H
   replace H := Option.bind_eq_some_iff.mp H
   obtain ⟨t316, A70, H⟩ := H
   (try dsimp only at H)
   have A7 := Aside0.mk A70
   clear A70
   obtain rfl := Option.some.inj H
   go_enter Try.func118, Try.ntmps118
   go_wp2_with (first | ((with_reducible refine gate_dst (N := 2) rfl ?_); refine boxM 2 #[.int .i64 a0_0, .int .i64 a0_1, .int .i64 a0_2, .int .i64 a0_3, .int .i64 a0_4, .int .i64 a0_5, .int .i64 a0_6, .slice A0_7 l0_7.length c0_7, .slice A0_8 l0_8.length c0_8] 73 ?_; intro gb313 hg w8 BK313 hb; replace HB := box_at w hb hg; obtain ⟨HB, GW313, GE313⟩ := HB; clear hb hg) | ((with_reducible refine gate_dst (N := 3) rfl ?_); refine boxM 3 #[.int .i64 a1_0, .int .i64 a1_1, .int .i64 a1_2] 25 ?_; intro gb314 hg w9 BK314 hb; replace HB := box_at w hb hg; obtain ⟨HB, GW314, GE314⟩ := HB; replace BK313 := box_on gb313 hb hg; obtain ⟨BK313, NB313_314, NB314_313⟩ := BK313; clear hb hg; have hnb10 := NB313_314.out; have hnc10 := NB314_313.out; obtain ⟨hcz11_0, hcz11_1, hcz11_2, hcz11_3, hcz11_4, hcz11_5, hcz11_6, hcz11_7, hcz11_8, hfz11_0, hfz11_1, hfz11_2, hfz11_3, hfz11_4, hfz11_5, hfz11_6, hfz11_7, hfz11_8⟩ := cells9 BK313.out; obtain ⟨hcz12_0, hcz12_1, hcz12_2, hfz12_0, hfz12_1, hfz12_2⟩ := cells3 BK314.out) | ((with_reducible refine gate_callee (f := 82) rfl ?_); refine goesL_ (some 12) rfl rfl Try.func82 (by kernel_rfl) rfl #[.int .i64 a0_2, .int .i64 1, .int .i64 ji4] rfl (by (try simp only [List.map_toArray, List.map_cons, List.map_nil]); first | done | (simp only [hji4]; rfl) | rfl | (simp only [List.length_drop, List.length_take]; rfl)) ?_; (with_reducible refine (impl_in.calls a0_2 1 ji4 true _ A5.out).mono ?_); rintro e w' ⟨rfl, ⟨nd, rfl⟩⟩; refine ⟨_, rfl, ?_⟩) | (go_at_call 82; (with_reducible refine (impl_in.calls a0_3 1 2 t316 _ A7.out).mono ?_); rintro e w' ⟨rfl, ⟨nd, rfl⟩⟩))
   go_ret
   exact ⟨by first | rfl | (simp [errW_none, errW_some] <;> rfl) | (simp only [← hji3, ← hji4]; first | rfl | (simp [errW_none, errW_some] <;> rfl)) | (simp [*, errW_none, errW_some] <;> rfl), bel_now⟩
  ·replace c6 := Bool.eq_false_iff.mpr c6
   subst c6
   rw [if_neg (show ¬ (false = true) by decide)] at H
   obtain rfl := Option.some.inj H
   go_enter Try.func118, Try.ntmps118
   go_wp2_with (first | ((with_reducible refine gate_dst (N := 2) rfl ?_); refine boxM 2 #[.int .i64 a0_0, .int .i64 a0_1, .int .i64 a0_2, .int .i64 a0_3, .int .i64 a0_4, .int .i64 a0_5, .int .i64 a0_6, .slice A0_7 l0_7.length c0_7, .slice A0_8 l0_8.length c0_8] 73 ?_; intro gb313 hg w13 BK313 hb; replace HB := box_at w hb hg; obtain ⟨HB, GW313, GE313⟩ := HB; clear hb hg) | ((with_reducible refine gate_dst (N := 3) rfl ?_); refine boxM 3 #[.int .i64 a1_0, .int .i64 a1_1, .int .i64 a1_2] 25 ?_; intro gb314 hg w14 BK314 hb; replace HB := box_at w hb hg; obtain ⟨HB, GW314, GE314⟩ := HB; replace BK313 := box_on gb313 hb hg; obtain ⟨BK313, NB313_314, NB314_313⟩ := BK313; clear hb hg; have hnb15 := NB313_314.out; have hnc15 := NB314_313.out; obtain ⟨hcz16_0, hcz16_1, hcz16_2, hcz16_3, hcz16_4, hcz16_5, hcz16_6, hcz16_7, hcz16_8, hfz16_0, hfz16_1, hfz16_2, hfz16_3, hfz16_4, hfz16_5, hfz16_6, hfz16_7, hfz16_8⟩ := cells9 BK313.out; obtain ⟨hcz17_0, hcz17_1, hcz17_2, hfz17_0, hfz17_1, hfz17_2⟩ := cells3 BK314.out) | ((with_reducible refine gate_callee (f := 82) rfl ?_); refine goesL_ (some 12) rfl rfl Try.func82 (by kernel_rfl) rfl #[.int .i64 a0_2, .int .i64 1, .int .i64 ji4] rfl (by (try simp only [List.map_toArray, List.map_cons, List.map_nil]); first | done | (simp only [hji4]; rfl) | rfl | (simp only [List.length_drop, List.length_take]; rfl)) ?_; (with_reducible refine (impl_in.calls a0_2 1 ji4 false _ A5.out).mono ?_); rintro e w' ⟨rfl, ⟨nd, rfl⟩⟩; refine ⟨_, rfl, ?_⟩))
   go_ret
   exact ⟨by first | rfl | (simp [errW_none, errW_some] <;> rfl) | (simp only [← hji3, ← hji4]; first | rfl | (simp [errW_none, errW_some] <;> rfl)) | (simp [*, errW_none, errW_some] <;> rfl), bel_now⟩

/-! ### impl_Layer_windows: function 119 -/
def impl_Layer_windows.f (a0_0 : Int) (a0_1 : Int) (a0_2 : Int) (a0_3 : Int) (a0_4 : Int) (a0_5 : Int) (a0_6 : Int) (l0_7 : List Int) (l0_8 : List Int) (a1_0 : Int) (a1_1 : Int) (a1_2 : Int) (a2 : Int) : Option (Int × Int × Int) := if a0_3 = 0 then (none) else (some (wrap64 ((wrap64 (Int.tdiv (wrap64 (a1_0 - a0_2)) a0_3)) + 1), wrap64 ((wrap64 (Int.tdiv (wrap64 (a1_1 - a0_2)) a0_3)) + 1), a2))
def impl_Layer_windows.T1 : Bool × List (List Nat × List Nat) := (true, [([], []), ([0], [0]), ([], []), ([2], [2]), ([1, 3], [1, 3]), ([], []), ([5], [5]), ([4, 6], [4, 6]), ([7], [7]), ([], []), ([9], [9]), ([], []), ([11], [11]), ([10, 12], [10, 12]), ([], []), ([14], [14]), ([13, 15], [13, 15]), ([16], [16]), ([], []), ([8, 17, 18], [8, 17, 18]), ([19, 0, 1, 2, 3, 4, 5, 6, 7, 8, 9, 10, 11, 12, 13, 14, 15, 16, 17, 18, 19], [19])])
def impl_Layer_windows.B1 : List Nat := [0, 1, 0, 4, 15, 0, 32, 127, 255, 0, 512, 0, 2048, 7680, 0, 16384, 65024, 130560, 0, 524287, 1048575]
theorem impl_Layer_windows.tab1 : rtab .any (opsOf Try.f119 1) = impl_Layer_windows.T1 := by kernel_rfl
theorem impl_Layer_windows.bits1 : waitsOk impl_Layer_windows.T1.2 impl_Layer_windows.B1 = true := by kernel_rfl
set_option maxHeartbeats 8000000 in
set_option maxRecDepth 100000 in
theorem impl_Layer_windows.calls (a0_0 : Int) (a0_1 : Int) (a0_2 : Int) (a0_3 : Int) (a0_4 : Int) (a0_5 : Int) (a0_6 : Int) (A0_7 : Option Addr) (c0_7 : Nat) (l0_7 : List Int) (A0_8 : Option Addr) (c0_8 : Nat) (l0_8 : List Int) (a1_0 : Int) (a1_1 : Int) (a1_2 : Int) (a2 : Int) (r1 : Int) (r2 : Int) (r3 : Int) (w : World) (hr0_7 : Kd.C (Kd.int .i64) w A0_7 l0_7.length l0_7) (hc0_7 : l0_7.length ≤ c0_7) (hr0_8 : Kd.C (Kd.int .i64) w A0_8 l0_8.length l0_8) (hc0_8 : l0_8.length ≤ c0_8) (h : impl_Layer_windows.f a0_0 a0_1 a0_2 a0_3 a0_4 a0_5 a0_6 l0_7 l0_8 a1_0 a1_1 a1_2 a2 = some (r1, r2, r3)) :
   Calls Try.prog 119 #[.agg #[.int .i64 a0_0, .int .i64 a0_1, .int .i64 a0_2, .int .i64 a0_3, .int .i64 a0_4, .int .i64 a0_5, .int .i64 a0_6, .slice A0_7 l0_7.length c0_7, .slice A0_8 l0_8.length c0_8], .agg #[.int .i64 a1_0, .int .i64 a1_1, .int .i64 a1_2], .int .i64 a2] w fun e w' => e = .returned (.agg #[.int .i64 r1, .int .i64 r2, .int .i64 r3]) ∧ Below w.heap.size w w' := by
  have hu73 := Try.underlying73
  have hu25 := Try.underlying25
  have HR0_7 := Aside0.mk hr0_7
  have HC0_7 := Aside0.mk hc0_7
  clear hr0_7 hc0_7
  have HR0_8 := Aside0.mk hr0_8
  have HC0_8 := Aside0.mk hc0_8
  clear hr0_8 hc0_8
  have HB := Aside0.mk (Below.refl w.heap.size w)
  have H : (if a0_3 = 0 then (none) else (some (wrap64 ((wrap64 (Int.tdiv (wrap64 (a1_0 - a0_2)) a0_3)) + 1), wrap64 ((wrap64 (Int.tdiv (wrap64 (a1_1 - a0_2)) a0_3)) + 1), a2))) = some (r1, r2, r3) := h
  clear h
  by_cases c4 : a0_3 = 0
  ·rw [if_pos c4] at H
   exact absurd H (by simp)
  ·rw [if_neg c4] at H
   have c4b0 : (a0_3 == 0) = false := beq_eq_false_iff_ne.mpr c4
   have c4b1 : (a0_3 != 0) = true := bne_iff_ne.mpr c4
   simp only [Option.some.injEq, Prod.mk.injEq] at H
   obtain ⟨rfl, rfl, rfl⟩ := H
   go_enter Try.func119, Try.ntmps119
   try go_wp2_with (first | ((with_reducible refine gate_dst (N := 3) rfl ?_); refine boxM 3 #[.int .i64 a0_0, .int .i64 a0_1, .int .i64 a0_2, .int .i64 a0_3, .int .i64 a0_4, .int .i64 a0_5, .int .i64 a0_6, .slice A0_7 l0_7.length c0_7, .slice A0_8 l0_8.length c0_8] 73 ?_; intro gb317 hg w5 BK317 hb; replace HB := box_at w hb hg; obtain ⟨HB, GW317, GE317⟩ := HB; clear hb hg) | ((with_reducible refine gate_dst (N := 4) rfl ?_); refine boxM 4 #[.int .i64 a1_0, .int .i64 a1_1, .int .i64 a1_2] 25 ?_; intro gb318 hg w6 BK318 hb; replace HB := box_at w hb hg; obtain ⟨HB, GW318, GE318⟩ := HB; replace BK317 := box_on gb317 hb hg; obtain ⟨BK317, NB317_318, NB318_317⟩ := BK317; clear hb hg) | ((with_reducible refine gate_dst (N := 6) rfl ?_); refine boxM 6 #[.int .i64 0, .int .i64 0, .int .i64 0] 25 ?_; intro gb319 hg w7 BK319 hb; replace HB := box_at w hb hg; obtain ⟨HB, GW319, GE319⟩ := HB; replace BK317 := box_on gb317 hb hg; obtain ⟨BK317, NB317_319, NB319_317⟩ := BK317; replace BK318 := box_on gb318 hb hg; obtain ⟨BK318, NB318_319, NB319_318⟩ := BK318; clear hb hg))
   replace BK317 := Aside0.mk (blk_drew BK317.out)
   replace BK318 := Aside0.mk (blk_drew BK318.out)
   replace BK319 := Aside0.mk (blk_drew BK319.out)
   replace HB := Aside0.mk (below_drew1 HB.out)
   refine start_ (n := 21) (S := fun w' => w'.cell? ⟨gb318, 0, none⟩ = some (.int .i64 a1_0) ∧ w'.cell? ⟨gb318, 1, none⟩ = some (.int .i64 a1_1) ∧ w'.cell? ⟨gb318, 2, none⟩ = some (.int .i64 a1_2) ∧ w'.cell? ⟨gb317, 0, none⟩ = some (.int .i64 a0_0) ∧ w'.cell? ⟨gb317, 1, none⟩ = some (.int .i64 a0_1) ∧ w'.cell? ⟨gb317, 2, none⟩ = some (.int .i64 a0_2) ∧ w'.cell? ⟨gb317, 3, none⟩ = some (.int .i64 a0_3) ∧ w'.cell? ⟨gb317, 4, none⟩ = some (.int .i64 a0_4) ∧ w'.cell? ⟨gb317, 5, none⟩ = some (.int .i64 a0_5) ∧ w'.cell? ⟨gb317, 6, none⟩ = some (.int .i64 a0_6) ∧ w'.cell? ⟨gb317, 7, none⟩ = some (.slice A0_7 l0_7.length c0_7) ∧ w'.cell? ⟨gb317, 8, none⟩ = some (.slice A0_8 l0_8.length c0_8)) (ds := []) #[O, O, O, O, O, O, O, O, O, O, O, O, O, O, O, O, O, O, O, O, O] (by kernel_rfl) rfl rfl ⟨bc BK318 0, bc BK318 1, bc BK318 2, bc BK317 0, bc BK317 1, bc BK317 2, bc BK317 3, bc BK317 4, bc BK317 5, bc BK317 6, bc BK317 7, bc BK317 8⟩ (fun hHeld => ?_); refine with_tabW impl_Layer_windows.tab1 impl_Layer_windows.bits1 (fun HT_ HW_ => ?_)
   generalize w7.drew = w8 at BK317 BK318 BK319 HB hHeld ⊢
   refine stepP 0 (some 7) (tk 21 1) (any_of HT_.out (by kernel_rfl)) ?_
   refine stepP 2 (some 9) (tk 21 5) (any_of HT_.out (by kernel_rfl)) ?_
   refine stepP 5 (some 12) (tk 21 37) (any_of HT_.out (by kernel_rfl)) ?_
   refine stepP 9 (some 16) (tk 21 549) (any_of HT_.out (by kernel_rfl)) ?_
   refine stepP 11 (some 18) (tk 21 2597) (any_of HT_.out (by kernel_rfl)) ?_
   refine stepP 14 (some 21) (tk 21 18981) (any_of HT_.out (by kernel_rfl)) ?_
   refine stepP 18 (some 25) (tk 21 281125) (any_of HT_.out (by kernel_rfl)) ?_
   refine stepT 1 (some 8) (tk 21 281127) (take_ofW HT_.out HW_.out (by kernel_rfl)) hHeld ?_
   refine stepT 3 (some 10) (tk 21 281135) (take_ofW HT_.out HW_.out (by kernel_rfl)) hHeld ?_
   refine stepP 4 (some 11) (tk 21 281151) (any_of HT_.out (by kernel_rfl)) ?_
   refine stepT 6 (some 13) (tk 21 281215) (take_ofW HT_.out HW_.out (by kernel_rfl)) hHeld ?_
   refine stepP 7 (some 14) (tk 21 281343) (any_of HT_.out (by kernel_rfl)) ?_
   refine stepP 8 (some 15) (tk 21 281599) (any_of HT_.out (by kernel_rfl)) ?_
   refine stepT 10 (some 17) (tk 21 282623) (take_ofW HT_.out HW_.out (by kernel_rfl)) hHeld ?_
   refine stepT 12 (some 19) (tk 21 286719) (take_ofW HT_.out HW_.out (by kernel_rfl)) hHeld ?_
   refine stepP 13 (some 20) (tk 21 294911) (any_of HT_.out (by kernel_rfl)) ?_
   refine stepT 15 (some 22) (tk 21 327679) (take_ofW HT_.out HW_.out (by kernel_rfl)) hHeld ?_
   refine stepP 16 (some 23) (tk 21 393215) (any_of HT_.out (by kernel_rfl)) ?_
   refine stepP 17 (some 24) (tk 21 524287) (any_of HT_.out (by kernel_rfl)) ?_
   refine stepP 19 (some 26) (tk 21 1048575) (any_of HT_.out (by kernel_rfl)) ?_
   refine one_ (i := 20) (N := none) #[I, I, I, I, I, I, I, I, I, I, I, I, I, I, I, I, I, I, I, I, I] rfl rfl (one_of HT_.out (by kernel_rfl)) (by decide) (fun K hK => ?_)
   have hs9 : w8.cell? ⟨gb319, 0, none⟩ = some (.int .i64 0) := (blk_cell BK319.out 0).trans rfl
   have hfs9 := blk_frozen BK319.out 0
   have hns9_0 := NB317_319.out
   have hns9_1 := NB318_319.out
   have hms9_0 := NB319_317.out
   have hms9_1 := NB319_318.out
   have hs10 : w8.cell? ⟨gb319, 1, none⟩ = some (.int .i64 0) := (blk_cell BK319.out 1).trans rfl
   have hfs10 := blk_frozen BK319.out 1
   have hns10_0 := NB317_319.out
   have hns10_1 := NB318_319.out
   have hms10_0 := NB319_317.out
   have hms10_1 := NB319_318.out
   have hs11 : w8.cell? ⟨gb319, 2, none⟩ = some (.int .i64 0) := (blk_cell BK319.out 2).trans rfl
   have hfs11 := blk_frozen BK319.out 2
   have hns11_0 := NB317_319.out
   have hns11_1 := NB318_319.out
   have hms11_0 := NB319_317.out
   have hms11_1 := NB319_318.out
   refine skip_ (w1 := ?_) (by rfl) rfl ?_ ?_
   rotate_left
   ·go_simp
    rfl
   refine hK.out _ _ ⟨((cell_far (p := ⟨gb319, _, none⟩) NB318_319.out _).trans (((cell_far (p := ⟨gb319, _, none⟩) NB318_319.out _).trans (((cell_far (p := ⟨gb319, _, none⟩) NB318_319.out _).trans (hHeld.1)))))), ((cell_far (p := ⟨gb319, _, none⟩) NB318_319.out _).trans (((cell_far (p := ⟨gb319, _, none⟩) NB318_319.out _).trans (((cell_far (p := ⟨gb319, _, none⟩) NB318_319.out _).trans (hHeld.2.1)))))), ((cell_far (p := ⟨gb319, _, none⟩) NB318_319.out _).trans (((cell_far (p := ⟨gb319, _, none⟩) NB318_319.out _).trans (((cell_far (p := ⟨gb319, _, none⟩) NB318_319.out _).trans (hHeld.2.2.1)))))), ((cell_far (p := ⟨gb319, _, none⟩) NB317_319.out _).trans (((cell_far (p := ⟨gb319, _, none⟩) NB317_319.out _).trans (((cell_far (p := ⟨gb319, _, none⟩) NB317_319.out _).trans (hHeld.2.2.2.1)))))), ((cell_far (p := ⟨gb319, _, none⟩) NB317_319.out _).trans (((cell_far (p := ⟨gb319, _, none⟩) NB317_319.out _).trans (((cell_far (p := ⟨gb319, _, none⟩) NB317_319.out _).trans (hHeld.2.2.2.2.1)))))), ((cell_far (p := ⟨gb319, _, none⟩) NB317_319.out _).trans (((cell_far (p := ⟨gb319, _, none⟩) NB317_319.out _).trans (((cell_far (p := ⟨gb319, _, none⟩) NB317_319.out _).trans (hHeld.2.2.2.2.2.1)))))), ((cell_far (p := ⟨gb319, _, none⟩) NB317_319.out _).trans (((cell_far (p := ⟨gb319, _, none⟩) NB317_319.out _).trans (((cell_far (p := ⟨gb319, _, none⟩) NB317_319.out _).trans (hHeld.2.2.2.2.2.2.1)))))), ((cell_far (p := ⟨gb319, _, none⟩) NB317_319.out _).trans (((cell_far (p := ⟨gb319, _, none⟩) NB317_319.out _).trans (((cell_far (p := ⟨gb319, _, none⟩) NB317_319.out _).trans (hHeld.2.2.2.2.2.2.2.1)))))), ((cell_far (p := ⟨gb319, _, none⟩) NB317_319.out _).trans (((cell_far (p := ⟨gb319, _, none⟩) NB317_319.out _).trans (((cell_far (p := ⟨gb319, _, none⟩) NB317_319.out _).trans (hHeld.2.2.2.2.2.2.2.2.1)))))), ((cell_far (p := ⟨gb319, _, none⟩) NB317_319.out _).trans (((cell_far (p := ⟨gb319, _, none⟩) NB317_319.out _).trans (((cell_far (p := ⟨gb319, _, none⟩) NB317_319.out _).trans (hHeld.2.2.2.2.2.2.2.2.2.1)))))), ((cell_far (p := ⟨gb319, _, none⟩) NB317_319.out _).trans (((cell_far (p := ⟨gb319, _, none⟩) NB317_319.out _).trans (((cell_far (p := ⟨gb319, _, none⟩) NB317_319.out _).trans (hHeld.2.2.2.2.2.2.2.2.2.2.1)))))), ((cell_far (p := ⟨gb319, _, none⟩) NB317_319.out _).trans (((cell_far (p := ⟨gb319, _, none⟩) NB317_319.out _).trans (((cell_far (p := ⟨gb319, _, none⟩) NB317_319.out _).trans (hHeld.2.2.2.2.2.2.2.2.2.2.2))))))⟩ (fun hHeld => ?_)
   clear hK K
   refine done_ (done_of HT_.out (by kernel_rfl)) ?_
   try go_wp2
   refine bodyPost_ret (results_cell_row rfl _ _ gb319 25 #[.int .i64 (wrap64 ((wrap64 (Int.tdiv (wrap64 (a1_0 - a0_2)) a0_3)) + 1)), .int .i64 (wrap64 ((wrap64 (Int.tdiv (wrap64 (a1_1 - a0_2)) a0_3)) + 1)), .int .i64 a2] (0, 0) _ rfl (blk_fars (puts3 BK319.out)) Try.underlying25 rfl (by kernel_rfl)) rfl ?_
   exact ⟨eqN, bel_now⟩

/-! ### impl_Layer_isBare: function 120 -/
def impl_Layer_isBare.f (a0_0 : Int) (a0_1 : Int) (a0_2 : Int) (a0_3 : Int) (a0_4 : Int) (a0_5 : Int) (a0_6 : Int) (l0_7 : List Int) (l0_8 : List Int) : Option (Bool) := if a0_1 = 0 then (if a0_4 = 0 then (if a0_5 = 0 then (if (l0_7.length : Int) = 0 then (some ((l0_8.length : Int) == 0)) else (some false)) else (some false)) else (some false)) else (some false)
set_option maxHeartbeats 8000000 in
set_option maxRecDepth 100000 in
theorem impl_Layer_isBare.calls (a0_0 : Int) (a0_1 : Int) (a0_2 : Int) (a0_3 : Int) (a0_4 : Int) (a0_5 : Int) (a0_6 : Int) (A0_7 : Option Addr) (c0_7 : Nat) (l0_7 : List Int) (A0_8 : Option Addr) (c0_8 : Nat) (l0_8 : List Int) (r : Bool) (w : World) (hr0_7 : Kd.C (Kd.int .i64) w A0_7 l0_7.length l0_7) (hc0_7 : l0_7.length ≤ c0_7) (hr0_8 : Kd.C (Kd.int .i64) w A0_8 l0_8.length l0_8) (hc0_8 : l0_8.length ≤ c0_8) (h : impl_Layer_isBare.f a0_0 a0_1 a0_2 a0_3 a0_4 a0_5 a0_6 l0_7 l0_8 = some r) :
   Calls Try.prog 120 #[.agg #[.int .i64 a0_0, .int .i64 a0_1, .int .i64 a0_2, .int .i64 a0_3, .int .i64 a0_4, .int .i64 a0_5, .int .i64 a0_6, .slice A0_7 l0_7.length c0_7, .slice A0_8 l0_8.length c0_8]] w fun e w' => e = .returned (.bool r) ∧ Below w.heap.size w w' := by
  have hu73 := Try.underlying73
  have HR0_7 := Aside0.mk hr0_7
  have HC0_7 := Aside0.mk hc0_7
  clear hr0_7 hc0_7
  have HR0_8 := Aside0.mk hr0_8
  have HC0_8 := Aside0.mk hc0_8
  clear hr0_8 hc0_8
  have HB := Aside0.mk (Below.refl w.heap.size w)
  have H : (if a0_1 = 0 then (if a0_4 = 0 then (if a0_5 = 0 then (if (l0_7.length : Int) = 0 then (some ((l0_8.length : Int) == 0)) else (some false)) else (some false)) else (some false)) else (some false)) = some r := h
  clear h
  by_cases c2 : a0_1 = 0
  ·rw [if_pos c2] at H
   have c2b0 : (a0_1 == 0) = true := beq_iff_eq.mpr c2
   have c2b1 : (a0_1 != 0) = false := bne_eq_false_iff_eq.mpr c2
   clear c2
   by_cases c3 : a0_4 = 0
   ·rw [if_pos c3] at H
    have c3b0 : (a0_4 == 0) = true := beq_iff_eq.mpr c3
    have c3b1 : (a0_4 != 0) = false := bne_eq_false_iff_eq.mpr c3
    clear c3
    by_cases c4 : a0_5 = 0
    ·rw [if_pos c4] at H
     have c4b0 : (a0_5 == 0) = true := beq_iff_eq.mpr c4
     have c4b1 : (a0_5 != 0) = false := bne_eq_false_iff_eq.mpr c4
     clear c4
     by_cases c5 : (l0_7.length : Int) = 0
     ·rw [if_pos c5] at H
      have c5b0 : ((l0_7.length : Int) == 0) = true := beq_iff_eq.mpr c5
      have c5b1 : ((l0_7.length : Int) != 0) = false := bne_eq_false_iff_eq.mpr c5
      clear c5
      obtain rfl := Option.some.inj H
      go_enter Try.func120, Try.ntmps120
      go_wp2_with (first | ((with_reducible refine gate_dst (N := 1) rfl ?_); (try (refine gate_guard (by rfl) ?_; dsimp only)); refine boxM 1 #[.int .i64 a0_0, .int .i64 a0_1, .int .i64 a0_2, .int .i64 a0_3, .int .i64 a0_4, .int .i64 a0_5, .int .i64 a0_6, .slice A0_7 l0_7.length c0_7, .slice A0_8 l0_8.length c0_8] 73 ?_; intro gb320 hg w6 BK320 hb; replace HB := box_at w hb hg; obtain ⟨HB, GW320, GE320⟩ := HB; clear hb hg; obtain ⟨hcz7_0, hcz7_1, hcz7_2, hcz7_3, hcz7_4, hcz7_5, hcz7_6, hcz7_7, hcz7_8, hfz7_0, hfz7_1, hfz7_2, hfz7_3, hfz7_4, hfz7_5, hfz7_6, hfz7_7, hfz7_8⟩ := cells9 BK320.out))
      go_ret
      exact ⟨eqN, bel_now⟩
     ·rw [if_neg c5] at H
      have c5b0 : ((l0_7.length : Int) == 0) = false := beq_eq_false_iff_ne.mpr c5
      have c5b1 : ((l0_7.length : Int) != 0) = true := bne_iff_ne.mpr c5
      have c5b2 : ¬ (l0_7 = []) := fun h_ => c5 (by rw [h_]; rfl)
      obtain rfl := Option.some.inj H
      go_enter Try.func120, Try.ntmps120
      go_wp2_with (first | ((with_reducible refine gate_dst (N := 1) rfl ?_); (try (refine gate_guard (by rfl) ?_; dsimp only)); refine boxM 1 #[.int .i64 a0_0, .int .i64 a0_1, .int .i64 a0_2, .int .i64 a0_3, .int .i64 a0_4, .int .i64 a0_5, .int .i64 a0_6, .slice A0_7 l0_7.length c0_7, .slice A0_8 l0_8.length c0_8] 73 ?_; intro gb320 hg w8 BK320 hb; replace HB := box_at w hb hg; obtain ⟨HB, GW320, GE320⟩ := HB; clear hb hg; obtain ⟨hcz9_0, hcz9_1, hcz9_2, hcz9_3, hcz9_4, hcz9_5, hcz9_6, hcz9_7, hcz9_8, hfz9_0, hfz9_1, hfz9_2, hfz9_3, hfz9_4, hfz9_5, hfz9_6, hfz9_7, hfz9_8⟩ := cells9 BK320.out))
      go_ret
      exact ⟨eqN, bel_now⟩
    ·rw [if_neg c4] at H
     have c4b0 : (a0_5 == 0) = false := beq_eq_false_iff_ne.mpr c4
     have c4b1 : (a0_5 != 0) = true := bne_iff_ne.mpr c4
     obtain rfl := Option.some.inj H
     go_enter Try.func120, Try.ntmps120
     go_wp2_with (first | ((with_reducible refine gate_dst (N := 1) rfl ?_); (try (refine gate_guard (by rfl) ?_; dsimp only)); refine boxM 1 #[.int .i64 a0_0, .int .i64 a0_1, .int .i64 a0_2, .int .i64 a0_3, .int .i64 a0_4, .int .i64 a0_5, .int .i64 a0_6, .slice A0_7 l0_7.length c0_7, .slice A0_8 l0_8.length c0_8] 73 ?_; intro gb320 hg w10 BK320 hb; replace HB := box_at w hb hg; obtain ⟨HB, GW320, GE320⟩ := HB; clear hb hg; obtain ⟨hcz11_0, hcz11_1, hcz11_2, hcz11_3, hcz11_4, hcz11_5, hcz11_6, hcz11_7, hcz11_8, hfz11_0, hfz11_1, hfz11_2, hfz11_3, hfz11_4, hfz11_5, hfz11_6, hfz11_7, hfz11_8⟩ := cells9 BK320.out))
     go_ret
     exact ⟨eqN, bel_now⟩
   ·rw [if_neg c3] at H
    have c3b0 : (a0_4 == 0) = false := beq_eq_false_iff_ne.mpr c3
    have c3b1 : (a0_4 != 0) = true := bne_iff_ne.mpr c3
    obtain rfl := Option.some.inj H
    go_enter Try.func120, Try.ntmps120
    go_wp2_with (first | ((with_reducible refine gate_dst (N := 1) rfl ?_); (try (refine gate_guard (by rfl) ?_; dsimp only)); refine boxM 1 #[.int .i64 a0_0, .int .i64 a0_1, .int .i64 a0_2, .int .i64 a0_3, .int .i64 a0_4, .int .i64 a0_5, .int .i64 a0_6, .slice A0_7 l0_7.length c0_7, .slice A0_8 l0_8.length c0_8] 73 ?_; intro gb320 hg w12 BK320 hb; replace HB := box_at w hb hg; obtain ⟨HB, GW320, GE320⟩ := HB; clear hb hg; obtain ⟨hcz13_0, hcz13_1, hcz13_2, hcz13_3, hcz13_4, hcz13_5, hcz13_6, hcz13_7, hcz13_8, hfz13_0, hfz13_1, hfz13_2, hfz13_3, hfz13_4, hfz13_5, hfz13_6, hfz13_7, hfz13_8⟩ := cells9 BK320.out))
    go_ret
    exact ⟨eqN, bel_now⟩
  ·rw [if_neg c2] at H
   have c2b0 : (a0_1 == 0) = false := beq_eq_false_iff_ne.mpr c2
   have c2b1 : (a0_1 != 0) = true := bne_iff_ne.mpr c2
   obtain rfl := Option.some.inj H
   go_enter Try.func120, Try.ntmps120
   go_wp2_with (first | ((with_reducible refine gate_dst (N := 1) rfl ?_); (try (refine gate_guard (by rfl) ?_; dsimp only)); refine boxM 1 #[.int .i64 a0_0, .int .i64 a0_1, .int .i64 a0_2, .int .i64 a0_3, .int .i64 a0_4, .int .i64 a0_5, .int .i64 a0_6, .slice A0_7 l0_7.length c0_7, .slice A0_8 l0_8.length c0_8] 73 ?_; intro gb320 hg w14 BK320 hb; replace HB := box_at w hb hg; obtain ⟨HB, GW320, GE320⟩ := HB; clear hb hg; obtain ⟨hcz15_0, hcz15_1, hcz15_2, hcz15_3, hcz15_4, hcz15_5, hcz15_6, hcz15_7, hcz15_8, hfz15_0, hfz15_1, hfz15_2, hfz15_3, hfz15_4, hfz15_5, hfz15_6, hfz15_7, hfz15_8⟩ := cells9 BK320.out))
   go_ret
   exact ⟨eqN, bel_now⟩

end Go.Proofs.Ytljdcemdhmaahaa.PFnExactNextCost
