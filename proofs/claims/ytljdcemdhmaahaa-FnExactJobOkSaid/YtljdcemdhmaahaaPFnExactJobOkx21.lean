-- Printed by the session's own program (wip/myprint.py) for this claim out of the translation. Not trusted: Lean checks it.
import Derived.Test.YtljdcemdhmaahaaPFnExactJobOkx0
import Derived.Test.YtljdcemdhmaahaaPFnExactJobOkx2
import Derived.Test.YtljdcemdhmaahaaPFnExactJobOkx11
import Derived.Test.YtljdcemdhmaahaaPFnExactJobOkx19
import Derived.Test.YtljdcemdhmaahaaPFnExactJobOkx20
namespace Go.Proofs.Ytljdcemdhmaahaa.PFnExactJobOk
open Go.RowKit Go.Proofs.YtljdcemdhmaahaaW.PrintWords Go.Proofs.YtljdcemdhmaahaaW.PrintLast Go.Proofs.YtljdcemdhmaahaaW.PrintMore
attribute [local go_sem] max2_int min2_int max_two min_two max_three min_three max_four min_four   -- for this text's walks alone
set_option linter.unusedVariables false
set_option linter.unusedSimpArgs false

/-! ### laws_eqModel: function 27 -/
def laws_eqModel.f (k : Nat) (a0_0 : Int) (a0_1 : Int) (a0_2 : Int) (l0_3 : List (S73)) (a1_0 : Int) (a1_1 : Int) (a1_2 : Int) (l1_3 : List (S73)) : Option (Bool) := (laws_eqShape.f a0_0 a0_1 a0_2 a1_0 a1_1 a1_2).bind fun t413 => (if t413 = true then ((laws_eqLayerS.f k l0_3 l1_3).bind fun t414 => (if t414 = true then (some true) else (some false))) else (some false))
set_option maxHeartbeats 8000000 in
set_option maxRecDepth 100000 in
theorem laws_eqModel.calls (k : Nat) (a0_0 : Int) (a0_1 : Int) (a0_2 : Int) (A0_3 : Option Addr) (c0_3 : Nat) (l0_3 : List (S73)) (a1_0 : Int) (a1_1 : Int) (a1_2 : Int) (A1_3 : Option Addr) (c1_3 : Nat) (l1_3 : List (S73)) (r : Bool) (w : World) (hr0_3 : Kd.C k73 w A0_3 l0_3.length l0_3) (hc0_3 : l0_3.length ≤ c0_3) (hr1_3 : Kd.C k73 w A1_3 l1_3.length l1_3) (hc1_3 : l1_3.length ≤ c1_3) (h : laws_eqModel.f k a0_0 a0_1 a0_2 l0_3 a1_0 a1_1 a1_2 l1_3 = some r) :
   Calls Try.prog 27 #[.agg #[.int .i64 a0_0, .int .i64 a0_1, .int .i64 a0_2, .slice A0_3 l0_3.length c0_3], .agg #[.int .i64 a1_0, .int .i64 a1_1, .int .i64 a1_2, .slice A1_3 l1_3.length c1_3]] w fun e w' => e = .returned (.bool r) ∧ Below w.heap.size w w' := by
  have hu28 := Try.underlying28
  have hu25 := Try.underlying25
  have HR0_3 := Aside0.mk hr0_3
  have HC0_3 := Aside0.mk hc0_3
  clear hr0_3 hc0_3
  have HR1_3 := Aside0.mk hr1_3
  have HC1_3 := Aside0.mk hc1_3
  clear hr1_3 hc1_3
  have HB := Aside0.mk (Below.refl w.heap.size w)
  have H : ((laws_eqShape.f a0_0 a0_1 a0_2 a1_0 a1_1 a1_2).bind fun t413 => (if t413 = true then ((laws_eqLayerS.f k l0_3 l1_3).bind fun t414 => (if t414 = true then (some true) else (some false))) else (some false))) = some r := h
  clear h
  replace H := Option.bind_eq_some_iff.mp H
  obtain ⟨t413, A30, H⟩ := H
  (try dsimp only at H)
  have A3 := Aside0.mk A30
  clear A30
  by_cases c4 : t413 = true
  ·subst c4
   rw [if_pos rfl] at H
   replace H := Option.bind_eq_some_iff.mp H
   obtain ⟨t414, A50, H⟩ := H
   (try dsimp only at H)
   have A5 := Aside0.mk A50
   clear A50
   by_cases c6 : t414 = true
   ·subst c6
    rw [if_pos rfl] at H
    obtain rfl := Option.some.inj H
    go_enter Try.func27, Try.ntmps27
    go_wp2_with (first | ((with_reducible refine gate_dst (N := 2) rfl ?_); refine boxM 2 #[.int .i64 a0_0, .int .i64 a0_1, .int .i64 a0_2, .slice A0_3 l0_3.length c0_3] 28 ?_; intro gb411 hg w7 BK411 hb; replace HB := box_at w hb hg; obtain ⟨HB, GW411, GE411⟩ := HB; clear hb hg) | ((with_reducible refine gate_dst (N := 3) rfl ?_); refine boxM 3 #[.int .i64 a1_0, .int .i64 a1_1, .int .i64 a1_2, .slice A1_3 l1_3.length c1_3] 28 ?_; intro gb412 hg w8 BK412 hb; replace HB := box_at w hb hg; obtain ⟨HB, GW412, GE412⟩ := HB; replace BK411 := box_on gb411 hb hg; obtain ⟨BK411, NB411_412, NB412_411⟩ := BK411; clear hb hg; have hnb9 := NB411_412.out; have hnc9 := NB412_411.out; obtain ⟨hcz10_0, hcz10_1, hcz10_2, hcz10_3, hfz10_0, hfz10_1, hfz10_2, hfz10_3⟩ := cells4 BK411.out; obtain ⟨hcz11_0, hcz11_1, hcz11_2, hcz11_3, hfz11_0, hfz11_1, hfz11_2, hfz11_3⟩ := cells4 BK412.out) | ((with_reducible refine gate_callee (f := 71) rfl ?_); refine goesM (some 9) rfl rfl Try.func71 (by kernel_rfl) rfl #[.agg #[.int .i64 a0_0, .int .i64 a0_1, .int .i64 a0_2], .agg #[.int .i64 a1_0, .int .i64 a1_1, .int .i64 a1_2]] rfl ?_; (with_reducible refine (laws_eqShape.calls a0_0 a0_1 a0_2 a1_0 a1_1 a1_2 true _ A3.out).mono ?_); rintro e w12 ⟨rfl, hb⟩; refine ⟨_, rfl, ?_⟩; replace HB := bel_on w hb; replace BK411 := blk_on gb411 hb; replace BK412 := blk_on gb412 hb; (try clear hb); obtain ⟨hcz13_0, hcz13_1, hcz13_2, hcz13_3, hfz13_0, hfz13_1, hfz13_2, hfz13_3⟩ := cells4 BK411.out; obtain ⟨hcz14_0, hcz14_1, hcz14_2, hcz14_3, hfz14_0, hfz14_1, hfz14_2, hfz14_3⟩ := cells4 BK412.out) | ((with_reducible refine gate_callee (f := 72) rfl ?_); refine goesM (some 15) rfl rfl Try.func72 (by kernel_rfl) rfl #[.slice A0_3 l0_3.length c0_3, .slice A1_3 l1_3.length c1_3] rfl ?_; (with_reducible refine (laws_eqLayerS.calls k _ _ l0_3 _ _ l1_3 true _ ?side1 ?side2 ?side3 ?side4 A5.out).mono ?_); (case side1 => exact C_now HR0_3.out); (case side2 => exact HC0_3.out); (case side3 => exact C_now HR1_3.out); (case side4 => exact HC1_3.out); rintro e w15 ⟨rfl, hb⟩; refine ⟨_, rfl, ?_⟩; replace HB := bel_on w hb; replace BK411 := blk_on gb411 hb; replace BK412 := blk_on gb412 hb; (try clear hb)))
    go_ret
    exact ⟨eqN, bel_now⟩
   ·replace c6 := Bool.eq_false_iff.mpr c6
    subst c6
    rw [if_neg (show ¬ (false = true) by decide)] at H
    obtain rfl := Option.some.inj H
    go_enter Try.func27, Try.ntmps27
    go_wp2_with (first | ((with_reducible refine gate_dst (N := 2) rfl ?_); refine boxM 2 #[.int .i64 a0_0, .int .i64 a0_1, .int .i64 a0_2, .slice A0_3 l0_3.length c0_3] 28 ?_; intro gb411 hg w16 BK411 hb; replace HB := box_at w hb hg; obtain ⟨HB, GW411, GE411⟩ := HB; clear hb hg) | ((with_reducible refine gate_dst (N := 3) rfl ?_); refine boxM 3 #[.int .i64 a1_0, .int .i64 a1_1, .int .i64 a1_2, .slice A1_3 l1_3.length c1_3] 28 ?_; intro gb412 hg w17 BK412 hb; replace HB := box_at w hb hg; obtain ⟨HB, GW412, GE412⟩ := HB; replace BK411 := box_on gb411 hb hg; obtain ⟨BK411, NB411_412, NB412_411⟩ := BK411; clear hb hg; have hnb18 := NB411_412.out; have hnc18 := NB412_411.out; obtain ⟨hcz19_0, hcz19_1, hcz19_2, hcz19_3, hfz19_0, hfz19_1, hfz19_2, hfz19_3⟩ := cells4 BK411.out; obtain ⟨hcz20_0, hcz20_1, hcz20_2, hcz20_3, hfz20_0, hfz20_1, hfz20_2, hfz20_3⟩ := cells4 BK412.out) | ((with_reducible refine gate_callee (f := 71) rfl ?_); refine goesM (some 9) rfl rfl Try.func71 (by kernel_rfl) rfl #[.agg #[.int .i64 a0_0, .int .i64 a0_1, .int .i64 a0_2], .agg #[.int .i64 a1_0, .int .i64 a1_1, .int .i64 a1_2]] rfl ?_; (with_reducible refine (laws_eqShape.calls a0_0 a0_1 a0_2 a1_0 a1_1 a1_2 true _ A3.out).mono ?_); rintro e w21 ⟨rfl, hb⟩; refine ⟨_, rfl, ?_⟩; replace HB := bel_on w hb; replace BK411 := blk_on gb411 hb; replace BK412 := blk_on gb412 hb; (try clear hb); obtain ⟨hcz22_0, hcz22_1, hcz22_2, hcz22_3, hfz22_0, hfz22_1, hfz22_2, hfz22_3⟩ := cells4 BK411.out; obtain ⟨hcz23_0, hcz23_1, hcz23_2, hcz23_3, hfz23_0, hfz23_1, hfz23_2, hfz23_3⟩ := cells4 BK412.out) | ((with_reducible refine gate_callee (f := 72) rfl ?_); refine goesM (some 15) rfl rfl Try.func72 (by kernel_rfl) rfl #[.slice A0_3 l0_3.length c0_3, .slice A1_3 l1_3.length c1_3] rfl ?_; (with_reducible refine (laws_eqLayerS.calls k _ _ l0_3 _ _ l1_3 false _ ?side1 ?side2 ?side3 ?side4 A5.out).mono ?_); (case side1 => exact C_now HR0_3.out); (case side2 => exact HC0_3.out); (case side3 => exact C_now HR1_3.out); (case side4 => exact HC1_3.out); rintro e w24 ⟨rfl, hb⟩; refine ⟨_, rfl, ?_⟩; replace HB := bel_on w hb; replace BK411 := blk_on gb411 hb; replace BK412 := blk_on gb412 hb; (try clear hb)))
    go_ret
    exact ⟨eqN, bel_now⟩
  ·replace c4 := Bool.eq_false_iff.mpr c4
   subst c4
   rw [if_neg (show ¬ (false = true) by decide)] at H
   obtain rfl := Option.some.inj H
   go_enter Try.func27, Try.ntmps27
   go_wp2_with (first | ((with_reducible refine gate_dst (N := 2) rfl ?_); refine boxM 2 #[.int .i64 a0_0, .int .i64 a0_1, .int .i64 a0_2, .slice A0_3 l0_3.length c0_3] 28 ?_; intro gb411 hg w25 BK411 hb; replace HB := box_at w hb hg; obtain ⟨HB, GW411, GE411⟩ := HB; clear hb hg) | ((with_reducible refine gate_dst (N := 3) rfl ?_); refine boxM 3 #[.int .i64 a1_0, .int .i64 a1_1, .int .i64 a1_2, .slice A1_3 l1_3.length c1_3] 28 ?_; intro gb412 hg w26 BK412 hb; replace HB := box_at w hb hg; obtain ⟨HB, GW412, GE412⟩ := HB; replace BK411 := box_on gb411 hb hg; obtain ⟨BK411, NB411_412, NB412_411⟩ := BK411; clear hb hg; have hnb27 := NB411_412.out; have hnc27 := NB412_411.out; obtain ⟨hcz28_0, hcz28_1, hcz28_2, hcz28_3, hfz28_0, hfz28_1, hfz28_2, hfz28_3⟩ := cells4 BK411.out; obtain ⟨hcz29_0, hcz29_1, hcz29_2, hcz29_3, hfz29_0, hfz29_1, hfz29_2, hfz29_3⟩ := cells4 BK412.out) | ((with_reducible refine gate_callee (f := 71) rfl ?_); refine goesM (some 9) rfl rfl Try.func71 (by kernel_rfl) rfl #[.agg #[.int .i64 a0_0, .int .i64 a0_1, .int .i64 a0_2], .agg #[.int .i64 a1_0, .int .i64 a1_1, .int .i64 a1_2]] rfl ?_; (with_reducible refine (laws_eqShape.calls a0_0 a0_1 a0_2 a1_0 a1_1 a1_2 false _ A3.out).mono ?_); rintro e w30 ⟨rfl, hb⟩; refine ⟨_, rfl, ?_⟩; replace HB := bel_on w hb; replace BK411 := blk_on gb411 hb; replace BK412 := blk_on gb412 hb; (try clear hb)))
   go_ret
   exact ⟨eqN, bel_now⟩

/-! ### laws_eqTensor: function 85 -/
def laws_eqTensor.f (k : Nat) (a0_0 : Int) (a0_1 : Int) (a0_2 : Int) (l0_3 : List Int) (a1_0 : Int) (a1_1 : Int) (a1_2 : Int) (l1_3 : List Int) : Option (Bool) := (laws_eqShape.f a0_0 a0_1 a0_2 a1_0 a1_1 a1_2).bind fun t417 => (if t417 = true then ((laws_eqIntS.f k l0_3 l1_3).bind fun t418 => (if t418 = true then (some true) else (some false))) else (some false))
set_option maxHeartbeats 8000000 in
set_option maxRecDepth 100000 in
theorem laws_eqTensor.calls (k : Nat) (a0_0 : Int) (a0_1 : Int) (a0_2 : Int) (A0_3 : Option Addr) (c0_3 : Nat) (l0_3 : List Int) (a1_0 : Int) (a1_1 : Int) (a1_2 : Int) (A1_3 : Option Addr) (c1_3 : Nat) (l1_3 : List Int) (r : Bool) (w : World) (hr0_3 : Kd.C (Kd.int .i64) w A0_3 l0_3.length l0_3) (hc0_3 : l0_3.length ≤ c0_3) (hr1_3 : Kd.C (Kd.int .i64) w A1_3 l1_3.length l1_3) (hc1_3 : l1_3.length ≤ c1_3) (h : laws_eqTensor.f k a0_0 a0_1 a0_2 l0_3 a1_0 a1_1 a1_2 l1_3 = some r) :
   Calls Try.prog 85 #[.agg #[.int .i64 a0_0, .int .i64 a0_1, .int .i64 a0_2, .slice A0_3 l0_3.length c0_3], .agg #[.int .i64 a1_0, .int .i64 a1_1, .int .i64 a1_2, .slice A1_3 l1_3.length c1_3]] w fun e w' => e = .returned (.bool r) ∧ Below w.heap.size w w' := by
  have hu62 := Try.underlying62
  have hu25 := Try.underlying25
  have HR0_3 := Aside0.mk hr0_3
  have HC0_3 := Aside0.mk hc0_3
  clear hr0_3 hc0_3
  have HR1_3 := Aside0.mk hr1_3
  have HC1_3 := Aside0.mk hc1_3
  clear hr1_3 hc1_3
  have HB := Aside0.mk (Below.refl w.heap.size w)
  have H : ((laws_eqShape.f a0_0 a0_1 a0_2 a1_0 a1_1 a1_2).bind fun t417 => (if t417 = true then ((laws_eqIntS.f k l0_3 l1_3).bind fun t418 => (if t418 = true then (some true) else (some false))) else (some false))) = some r := h
  clear h
  replace H := Option.bind_eq_some_iff.mp H
  obtain ⟨t417, A30, H⟩ := H
  (try dsimp only at H)
  have A3 := Aside0.mk A30
  clear A30
  by_cases c4 : t417 = true
  ·subst c4
   rw [if_pos rfl] at H
   replace H := Option.bind_eq_some_iff.mp H
   obtain ⟨t418, A50, H⟩ := H
   (try dsimp only at H)
   have A5 := Aside0.mk A50
   clear A50
   by_cases c6 : t418 = true
   ·subst c6
    rw [if_pos rfl] at H
    obtain rfl := Option.some.inj H
    go_enter Try.func85, Try.ntmps85
    go_wp2_with (first | ((with_reducible refine gate_dst (N := 2) rfl ?_); refine boxM 2 #[.int .i64 a0_0, .int .i64 a0_1, .int .i64 a0_2, .slice A0_3 l0_3.length c0_3] 62 ?_; intro gb415 hg w7 BK415 hb; replace HB := box_at w hb hg; obtain ⟨HB, GW415, GE415⟩ := HB; clear hb hg) | ((with_reducible refine gate_dst (N := 3) rfl ?_); refine boxM 3 #[.int .i64 a1_0, .int .i64 a1_1, .int .i64 a1_2, .slice A1_3 l1_3.length c1_3] 62 ?_; intro gb416 hg w8 BK416 hb; replace HB := box_at w hb hg; obtain ⟨HB, GW416, GE416⟩ := HB; replace BK415 := box_on gb415 hb hg; obtain ⟨BK415, NB415_416, NB416_415⟩ := BK415; clear hb hg; have hnb9 := NB415_416.out; have hnc9 := NB416_415.out; obtain ⟨hcz10_0, hcz10_1, hcz10_2, hcz10_3, hfz10_0, hfz10_1, hfz10_2, hfz10_3⟩ := cells4 BK415.out; obtain ⟨hcz11_0, hcz11_1, hcz11_2, hcz11_3, hfz11_0, hfz11_1, hfz11_2, hfz11_3⟩ := cells4 BK416.out) | ((with_reducible refine gate_callee (f := 71) rfl ?_); refine goesM (some 9) rfl rfl Try.func71 (by kernel_rfl) rfl #[.agg #[.int .i64 a0_0, .int .i64 a0_1, .int .i64 a0_2], .agg #[.int .i64 a1_0, .int .i64 a1_1, .int .i64 a1_2]] rfl ?_; (with_reducible refine (laws_eqShape.calls a0_0 a0_1 a0_2 a1_0 a1_1 a1_2 true _ A3.out).mono ?_); rintro e w12 ⟨rfl, hb⟩; refine ⟨_, rfl, ?_⟩; replace HB := bel_on w hb; replace BK415 := blk_on gb415 hb; replace BK416 := blk_on gb416 hb; (try clear hb); obtain ⟨hcz13_0, hcz13_1, hcz13_2, hcz13_3, hfz13_0, hfz13_1, hfz13_2, hfz13_3⟩ := cells4 BK415.out; obtain ⟨hcz14_0, hcz14_1, hcz14_2, hcz14_3, hfz14_0, hfz14_1, hfz14_2, hfz14_3⟩ := cells4 BK416.out) | ((with_reducible refine gate_callee (f := 35) rfl ?_); refine goesM (some 15) rfl rfl Try.func35 (by kernel_rfl) rfl #[.slice A0_3 l0_3.length c0_3, .slice A1_3 l1_3.length c1_3] rfl ?_; (with_reducible refine (laws_eqIntS.calls k _ _ l0_3 _ _ l1_3 true _ ?side1 ?side2 ?side3 ?side4 A5.out).mono ?_); (case side1 => exact C_now HR0_3.out); (case side2 => exact HC0_3.out); (case side3 => exact C_now HR1_3.out); (case side4 => exact HC1_3.out); rintro e w' ⟨rfl, ⟨nd, rfl⟩⟩; refine ⟨_, rfl, ?_⟩))
    go_ret
    exact ⟨eqN, bel_now⟩
   ·replace c6 := Bool.eq_false_iff.mpr c6
    subst c6
    rw [if_neg (show ¬ (false = true) by decide)] at H
    obtain rfl := Option.some.inj H
    go_enter Try.func85, Try.ntmps85
    go_wp2_with (first | ((with_reducible refine gate_dst (N := 2) rfl ?_); refine boxM 2 #[.int .i64 a0_0, .int .i64 a0_1, .int .i64 a0_2, .slice A0_3 l0_3.length c0_3] 62 ?_; intro gb415 hg w15 BK415 hb; replace HB := box_at w hb hg; obtain ⟨HB, GW415, GE415⟩ := HB; clear hb hg) | ((with_reducible refine gate_dst (N := 3) rfl ?_); refine boxM 3 #[.int .i64 a1_0, .int .i64 a1_1, .int .i64 a1_2, .slice A1_3 l1_3.length c1_3] 62 ?_; intro gb416 hg w16 BK416 hb; replace HB := box_at w hb hg; obtain ⟨HB, GW416, GE416⟩ := HB; replace BK415 := box_on gb415 hb hg; obtain ⟨BK415, NB415_416, NB416_415⟩ := BK415; clear hb hg; have hnb17 := NB415_416.out; have hnc17 := NB416_415.out; obtain ⟨hcz18_0, hcz18_1, hcz18_2, hcz18_3, hfz18_0, hfz18_1, hfz18_2, hfz18_3⟩ := cells4 BK415.out; obtain ⟨hcz19_0, hcz19_1, hcz19_2, hcz19_3, hfz19_0, hfz19_1, hfz19_2, hfz19_3⟩ := cells4 BK416.out) | ((with_reducible refine gate_callee (f := 71) rfl ?_); refine goesM (some 9) rfl rfl Try.func71 (by kernel_rfl) rfl #[.agg #[.int .i64 a0_0, .int .i64 a0_1, .int .i64 a0_2], .agg #[.int .i64 a1_0, .int .i64 a1_1, .int .i64 a1_2]] rfl ?_; (with_reducible refine (laws_eqShape.calls a0_0 a0_1 a0_2 a1_0 a1_1 a1_2 true _ A3.out).mono ?_); rintro e w20 ⟨rfl, hb⟩; refine ⟨_, rfl, ?_⟩; replace HB := bel_on w hb; replace BK415 := blk_on gb415 hb; replace BK416 := blk_on gb416 hb; (try clear hb); obtain ⟨hcz21_0, hcz21_1, hcz21_2, hcz21_3, hfz21_0, hfz21_1, hfz21_2, hfz21_3⟩ := cells4 BK415.out; obtain ⟨hcz22_0, hcz22_1, hcz22_2, hcz22_3, hfz22_0, hfz22_1, hfz22_2, hfz22_3⟩ := cells4 BK416.out) | ((with_reducible refine gate_callee (f := 35) rfl ?_); refine goesM (some 15) rfl rfl Try.func35 (by kernel_rfl) rfl #[.slice A0_3 l0_3.length c0_3, .slice A1_3 l1_3.length c1_3] rfl ?_; (with_reducible refine (laws_eqIntS.calls k _ _ l0_3 _ _ l1_3 false _ ?side1 ?side2 ?side3 ?side4 A5.out).mono ?_); (case side1 => exact C_now HR0_3.out); (case side2 => exact HC0_3.out); (case side3 => exact C_now HR1_3.out); (case side4 => exact HC1_3.out); rintro e w' ⟨rfl, ⟨nd, rfl⟩⟩; refine ⟨_, rfl, ?_⟩))
    go_ret
    exact ⟨eqN, bel_now⟩
  ·replace c4 := Bool.eq_false_iff.mpr c4
   subst c4
   rw [if_neg (show ¬ (false = true) by decide)] at H
   obtain rfl := Option.some.inj H
   go_enter Try.func85, Try.ntmps85
   go_wp2_with (first | ((with_reducible refine gate_dst (N := 2) rfl ?_); refine boxM 2 #[.int .i64 a0_0, .int .i64 a0_1, .int .i64 a0_2, .slice A0_3 l0_3.length c0_3] 62 ?_; intro gb415 hg w23 BK415 hb; replace HB := box_at w hb hg; obtain ⟨HB, GW415, GE415⟩ := HB; clear hb hg) | ((with_reducible refine gate_dst (N := 3) rfl ?_); refine boxM 3 #[.int .i64 a1_0, .int .i64 a1_1, .int .i64 a1_2, .slice A1_3 l1_3.length c1_3] 62 ?_; intro gb416 hg w24 BK416 hb; replace HB := box_at w hb hg; obtain ⟨HB, GW416, GE416⟩ := HB; replace BK415 := box_on gb415 hb hg; obtain ⟨BK415, NB415_416, NB416_415⟩ := BK415; clear hb hg; have hnb25 := NB415_416.out; have hnc25 := NB416_415.out; obtain ⟨hcz26_0, hcz26_1, hcz26_2, hcz26_3, hfz26_0, hfz26_1, hfz26_2, hfz26_3⟩ := cells4 BK415.out; obtain ⟨hcz27_0, hcz27_1, hcz27_2, hcz27_3, hfz27_0, hfz27_1, hfz27_2, hfz27_3⟩ := cells4 BK416.out) | ((with_reducible refine gate_callee (f := 71) rfl ?_); refine goesM (some 9) rfl rfl Try.func71 (by kernel_rfl) rfl #[.agg #[.int .i64 a0_0, .int .i64 a0_1, .int .i64 a0_2], .agg #[.int .i64 a1_0, .int .i64 a1_1, .int .i64 a1_2]] rfl ?_; (with_reducible refine (laws_eqShape.calls a0_0 a0_1 a0_2 a1_0 a1_1 a1_2 false _ A3.out).mono ?_); rintro e w28 ⟨rfl, hb⟩; refine ⟨_, rfl, ?_⟩; replace HB := bel_on w hb; replace BK415 := blk_on gb415 hb; replace BK416 := blk_on gb416 hb; (try clear hb)))
   go_ret
   exact ⟨eqN, bel_now⟩

/-! ### laws_eqJob: function 42 -/
def laws_eqJob.f (k : Nat) (a0_0 : Int) (a0_1 : Int) (a0_2 : Int) (l0_3 : List (S73)) (a0_4 : Int) (a0_5 : Int) (a0_6 : Int) (a0_7 : Int) (l0_8 : List Int) (a0_9 : Int) (a1_0 : Int) (a1_1 : Int) (a1_2 : Int) (l1_3 : List (S73)) (a1_4 : Int) (a1_5 : Int) (a1_6 : Int) (a1_7 : Int) (l1_8 : List Int) (a1_9 : Int) : Option (Bool) := (laws_eqModel.f k a0_0 a0_1 a0_2 l0_3 a1_0 a1_1 a1_2 l1_3).bind fun t421 => (if t421 = true then (if a0_4 = a1_4 then ((laws_eqTensor.f k a0_5 a0_6 a0_7 l0_8 a1_5 a1_6 a1_7 l1_8).bind fun t422 => (if t422 = true then (if a0_9 = a1_9 then (some true) else (some false)) else (some false))) else (some false)) else (some false))
set_option maxHeartbeats 8000000 in
set_option maxRecDepth 100000 in
theorem laws_eqJob.calls (k : Nat) (a0_0 : Int) (a0_1 : Int) (a0_2 : Int) (A0_3 : Option Addr) (c0_3 : Nat) (l0_3 : List (S73)) (a0_4 : Int) (a0_5 : Int) (a0_6 : Int) (a0_7 : Int) (A0_8 : Option Addr) (c0_8 : Nat) (l0_8 : List Int) (a0_9 : Int) (a1_0 : Int) (a1_1 : Int) (a1_2 : Int) (A1_3 : Option Addr) (c1_3 : Nat) (l1_3 : List (S73)) (a1_4 : Int) (a1_5 : Int) (a1_6 : Int) (a1_7 : Int) (A1_8 : Option Addr) (c1_8 : Nat) (l1_8 : List Int) (a1_9 : Int) (r : Bool) (w : World) (hr0_3 : Kd.C k73 w A0_3 l0_3.length l0_3) (hc0_3 : l0_3.length ≤ c0_3) (hr0_8 : Kd.C (Kd.int .i64) w A0_8 l0_8.length l0_8) (hc0_8 : l0_8.length ≤ c0_8) (hr1_3 : Kd.C k73 w A1_3 l1_3.length l1_3) (hc1_3 : l1_3.length ≤ c1_3) (hr1_8 : Kd.C (Kd.int .i64) w A1_8 l1_8.length l1_8) (hc1_8 : l1_8.length ≤ c1_8) (h : laws_eqJob.f k a0_0 a0_1 a0_2 l0_3 a0_4 a0_5 a0_6 a0_7 l0_8 a0_9 a1_0 a1_1 a1_2 l1_3 a1_4 a1_5 a1_6 a1_7 l1_8 a1_9 = some r) :
   Calls Try.prog 42 #[.agg #[.int .i64 a0_0, .int .i64 a0_1, .int .i64 a0_2, .slice A0_3 l0_3.length c0_3, .int .i64 a0_4, .int .i64 a0_5, .int .i64 a0_6, .int .i64 a0_7, .slice A0_8 l0_8.length c0_8, .int .i64 a0_9], .agg #[.int .i64 a1_0, .int .i64 a1_1, .int .i64 a1_2, .slice A1_3 l1_3.length c1_3, .int .i64 a1_4, .int .i64 a1_5, .int .i64 a1_6, .int .i64 a1_7, .slice A1_8 l1_8.length c1_8, .int .i64 a1_9]] w fun e w' => e = .returned (.bool r) ∧ Below w.heap.size w w' := by
  have hu64 := Try.underlying64
  have hu28 := Try.underlying28
  have hu62 := Try.underlying62
  have HR0_3 := Aside0.mk hr0_3
  have HC0_3 := Aside0.mk hc0_3
  clear hr0_3 hc0_3
  have HR0_8 := Aside0.mk hr0_8
  have HC0_8 := Aside0.mk hc0_8
  clear hr0_8 hc0_8
  have HR1_3 := Aside0.mk hr1_3
  have HC1_3 := Aside0.mk hc1_3
  clear hr1_3 hc1_3
  have HR1_8 := Aside0.mk hr1_8
  have HC1_8 := Aside0.mk hc1_8
  clear hr1_8 hc1_8
  have HB := Aside0.mk (Below.refl w.heap.size w)
  have H : ((laws_eqModel.f k a0_0 a0_1 a0_2 l0_3 a1_0 a1_1 a1_2 l1_3).bind fun t421 => (if t421 = true then (if a0_4 = a1_4 then ((laws_eqTensor.f k a0_5 a0_6 a0_7 l0_8 a1_5 a1_6 a1_7 l1_8).bind fun t422 => (if t422 = true then (if a0_9 = a1_9 then (some true) else (some false)) else (some false))) else (some false)) else (some false))) = some r := h
  clear h
  replace H := Option.bind_eq_some_iff.mp H
  obtain ⟨t421, A30, H⟩ := H
  (try dsimp only at H)
  have A3 := Aside0.mk A30
  clear A30
  by_cases c4 : t421 = true
  ·subst c4
   rw [if_pos rfl] at H
   by_cases c5 : a0_4 = a1_4
   ·rw [if_pos c5] at H
    have c5b0 : (a0_4 == a1_4) = true := beq_iff_eq.mpr c5
    have c5b1 : (a0_4 != a1_4) = false := bne_eq_false_iff_eq.mpr c5
    clear c5
    replace H := Option.bind_eq_some_iff.mp H
    obtain ⟨t422, A60, H⟩ := H
    (try dsimp only at H)
    have A6 := Aside0.mk A60
    clear A60
    by_cases c7 : t422 = true
    ·subst c7
     rw [if_pos rfl] at H
     by_cases c8 : a0_9 = a1_9
     ·rw [if_pos c8] at H
      have c8b0 : (a0_9 == a1_9) = true := beq_iff_eq.mpr c8
      have c8b1 : (a0_9 != a1_9) = false := bne_eq_false_iff_eq.mpr c8
      clear c8
      obtain rfl := Option.some.inj H
      go_enter Try.func42, Try.ntmps42
      go_wp2_with (first | ((with_reducible refine gate_dst (N := 2) rfl ?_); refine boxM 2 #[.int .i64 a0_0, .int .i64 a0_1, .int .i64 a0_2, .slice A0_3 l0_3.length c0_3, .int .i64 a0_4, .int .i64 a0_5, .int .i64 a0_6, .int .i64 a0_7, .slice A0_8 l0_8.length c0_8, .int .i64 a0_9] 64 ?_; intro gb419 hg w9 BK419 hb; replace HB := box_at w hb hg; obtain ⟨HB, GW419, GE419⟩ := HB; clear hb hg) | ((with_reducible refine gate_dst (N := 3) rfl ?_); refine boxM 3 #[.int .i64 a1_0, .int .i64 a1_1, .int .i64 a1_2, .slice A1_3 l1_3.length c1_3, .int .i64 a1_4, .int .i64 a1_5, .int .i64 a1_6, .int .i64 a1_7, .slice A1_8 l1_8.length c1_8, .int .i64 a1_9] 64 ?_; intro gb420 hg w10 BK420 hb; replace HB := box_at w hb hg; obtain ⟨HB, GW420, GE420⟩ := HB; replace BK419 := box_on gb419 hb hg; obtain ⟨BK419, NB419_420, NB420_419⟩ := BK419; clear hb hg; have hnb11 := NB419_420.out; have hnc11 := NB420_419.out; obtain ⟨hcz12_0, hcz12_1, hcz12_2, hcz12_3, hcz12_4, hcz12_5, hcz12_6, hcz12_7, hcz12_8, hcz12_9, hfz12_0, hfz12_1, hfz12_2, hfz12_3, hfz12_4, hfz12_5, hfz12_6, hfz12_7, hfz12_8, hfz12_9⟩ := cells10 BK419.out; obtain ⟨hcz13_0, hcz13_1, hcz13_2, hcz13_3, hcz13_4, hcz13_5, hcz13_6, hcz13_7, hcz13_8, hcz13_9, hfz13_0, hfz13_1, hfz13_2, hfz13_3, hfz13_4, hfz13_5, hfz13_6, hfz13_7, hfz13_8, hfz13_9⟩ := cells10 BK420.out) | ((with_reducible refine gate_callee (f := 27) rfl ?_); refine goesM (some 9) rfl rfl Try.func27 (by kernel_rfl) rfl #[.agg #[.int .i64 a0_0, .int .i64 a0_1, .int .i64 a0_2, .slice A0_3 l0_3.length c0_3], .agg #[.int .i64 a1_0, .int .i64 a1_1, .int .i64 a1_2, .slice A1_3 l1_3.length c1_3]] rfl ?_; (with_reducible refine (laws_eqModel.calls k a0_0 a0_1 a0_2 _ _ l0_3 a1_0 a1_1 a1_2 _ _ l1_3 true _ ?side1 ?side2 ?side3 ?side4 A3.out).mono ?_); (case side1 => exact C_now HR0_3.out); (case side2 => exact HC0_3.out); (case side3 => exact C_now HR1_3.out); (case side4 => exact HC1_3.out); rintro e w14 ⟨rfl, hb⟩; refine ⟨_, rfl, ?_⟩; replace HB := bel_on w hb; replace BK419 := blk_on gb419 hb; replace BK420 := blk_on gb420 hb; (try clear hb); obtain ⟨hcz15_0, hcz15_1, hcz15_2, hcz15_3, hcz15_4, hcz15_5, hcz15_6, hcz15_7, hcz15_8, hcz15_9, hfz15_0, hfz15_1, hfz15_2, hfz15_3, hfz15_4, hfz15_5, hfz15_6, hfz15_7, hfz15_8, hfz15_9⟩ := cells10 BK419.out; obtain ⟨hcz16_0, hcz16_1, hcz16_2, hcz16_3, hcz16_4, hcz16_5, hcz16_6, hcz16_7, hcz16_8, hcz16_9, hfz16_0, hfz16_1, hfz16_2, hfz16_3, hfz16_4, hfz16_5, hfz16_6, hfz16_7, hfz16_8, hfz16_9⟩ := cells10 BK420.out) | ((with_reducible refine gate_callee (f := 85) rfl ?_); refine goesM (some 20) rfl rfl Try.func85 (by kernel_rfl) rfl #[.agg #[.int .i64 a0_5, .int .i64 a0_6, .int .i64 a0_7, .slice A0_8 l0_8.length c0_8], .agg #[.int .i64 a1_5, .int .i64 a1_6, .int .i64 a1_7, .slice A1_8 l1_8.length c1_8]] rfl ?_; (with_reducible refine (laws_eqTensor.calls k a0_5 a0_6 a0_7 _ _ l0_8 a1_5 a1_6 a1_7 _ _ l1_8 true _ ?side1 ?side2 ?side3 ?side4 A6.out).mono ?_); (case side1 => exact C_now HR0_8.out); (case side2 => exact HC0_8.out); (case side3 => exact C_now HR1_8.out); (case side4 => exact HC1_8.out); rintro e w17 ⟨rfl, hb⟩; refine ⟨_, rfl, ?_⟩; replace HB := bel_on w hb; replace BK419 := blk_on gb419 hb; replace BK420 := blk_on gb420 hb; (try clear hb); obtain ⟨hcz18_0, hcz18_1, hcz18_2, hcz18_3, hcz18_4, hcz18_5, hcz18_6, hcz18_7, hcz18_8, hcz18_9, hfz18_0, hfz18_1, hfz18_2, hfz18_3, hfz18_4, hfz18_5, hfz18_6, hfz18_7, hfz18_8, hfz18_9⟩ := cells10 BK419.out; obtain ⟨hcz19_0, hcz19_1, hcz19_2, hcz19_3, hcz19_4, hcz19_5, hcz19_6, hcz19_7, hcz19_8, hcz19_9, hfz19_0, hfz19_1, hfz19_2, hfz19_3, hfz19_4, hfz19_5, hfz19_6, hfz19_7, hfz19_8, hfz19_9⟩ := cells10 BK420.out))
      go_ret
      exact ⟨eqN, bel_now⟩
     ·rw [if_neg c8] at H
      have c8b0 : (a0_9 == a1_9) = false := beq_eq_false_iff_ne.mpr c8
      have c8b1 : (a0_9 != a1_9) = true := bne_iff_ne.mpr c8
      obtain rfl := Option.some.inj H
      go_enter Try.func42, Try.ntmps42
      go_wp2_with (first | ((with_reducible refine gate_dst (N := 2) rfl ?_); refine boxM 2 #[.int .i64 a0_0, .int .i64 a0_1, .int .i64 a0_2, .slice A0_3 l0_3.length c0_3, .int .i64 a0_4, .int .i64 a0_5, .int .i64 a0_6, .int .i64 a0_7, .slice A0_8 l0_8.length c0_8, .int .i64 a0_9] 64 ?_; intro gb419 hg w20 BK419 hb; replace HB := box_at w hb hg; obtain ⟨HB, GW419, GE419⟩ := HB; clear hb hg) | ((with_reducible refine gate_dst (N := 3) rfl ?_); refine boxM 3 #[.int .i64 a1_0, .int .i64 a1_1, .int .i64 a1_2, .slice A1_3 l1_3.length c1_3, .int .i64 a1_4, .int .i64 a1_5, .int .i64 a1_6, .int .i64 a1_7, .slice A1_8 l1_8.length c1_8, .int .i64 a1_9] 64 ?_; intro gb420 hg w21 BK420 hb; replace HB := box_at w hb hg; obtain ⟨HB, GW420, GE420⟩ := HB; replace BK419 := box_on gb419 hb hg; obtain ⟨BK419, NB419_420, NB420_419⟩ := BK419; clear hb hg; have hnb22 := NB419_420.out; have hnc22 := NB420_419.out; obtain ⟨hcz23_0, hcz23_1, hcz23_2, hcz23_3, hcz23_4, hcz23_5, hcz23_6, hcz23_7, hcz23_8, hcz23_9, hfz23_0, hfz23_1, hfz23_2, hfz23_3, hfz23_4, hfz23_5, hfz23_6, hfz23_7, hfz23_8, hfz23_9⟩ := cells10 BK419.out; obtain ⟨hcz24_0, hcz24_1, hcz24_2, hcz24_3, hcz24_4, hcz24_5, hcz24_6, hcz24_7, hcz24_8, hcz24_9, hfz24_0, hfz24_1, hfz24_2, hfz24_3, hfz24_4, hfz24_5, hfz24_6, hfz24_7, hfz24_8, hfz24_9⟩ := cells10 BK420.out) | ((with_reducible refine gate_callee (f := 27) rfl ?_); refine goesM (some 9) rfl rfl Try.func27 (by kernel_rfl) rfl #[.agg #[.int .i64 a0_0, .int .i64 a0_1, .int .i64 a0_2, .slice A0_3 l0_3.length c0_3], .agg #[.int .i64 a1_0, .int .i64 a1_1, .int .i64 a1_2, .slice A1_3 l1_3.length c1_3]] rfl ?_; (with_reducible refine (laws_eqModel.calls k a0_0 a0_1 a0_2 _ _ l0_3 a1_0 a1_1 a1_2 _ _ l1_3 true _ ?side1 ?side2 ?side3 ?side4 A3.out).mono ?_); (case side1 => exact C_now HR0_3.out); (case side2 => exact HC0_3.out); (case side3 => exact C_now HR1_3.out); (case side4 => exact HC1_3.out); rintro e w25 ⟨rfl, hb⟩; refine ⟨_, rfl, ?_⟩; replace HB := bel_on w hb; replace BK419 := blk_on gb419 hb; replace BK420 := blk_on gb420 hb; (try clear hb); obtain ⟨hcz26_0, hcz26_1, hcz26_2, hcz26_3, hcz26_4, hcz26_5, hcz26_6, hcz26_7, hcz26_8, hcz26_9, hfz26_0, hfz26_1, hfz26_2, hfz26_3, hfz26_4, hfz26_5, hfz26_6, hfz26_7, hfz26_8, hfz26_9⟩ := cells10 BK419.out; obtain ⟨hcz27_0, hcz27_1, hcz27_2, hcz27_3, hcz27_4, hcz27_5, hcz27_6, hcz27_7, hcz27_8, hcz27_9, hfz27_0, hfz27_1, hfz27_2, hfz27_3, hfz27_4, hfz27_5, hfz27_6, hfz27_7, hfz27_8, hfz27_9⟩ := cells10 BK420.out) | ((with_reducible refine gate_callee (f := 85) rfl ?_); refine goesM (some 20) rfl rfl Try.func85 (by kernel_rfl) rfl #[.agg #[.int .i64 a0_5, .int .i64 a0_6, .int .i64 a0_7, .slice A0_8 l0_8.length c0_8], .agg #[.int .i64 a1_5, .int .i64 a1_6, .int .i64 a1_7, .slice A1_8 l1_8.length c1_8]] rfl ?_; (with_reducible refine (laws_eqTensor.calls k a0_5 a0_6 a0_7 _ _ l0_8 a1_5 a1_6 a1_7 _ _ l1_8 true _ ?side1 ?side2 ?side3 ?side4 A6.out).mono ?_); (case side1 => exact C_now HR0_8.out); (case side2 => exact HC0_8.out); (case side3 => exact C_now HR1_8.out); (case side4 => exact HC1_8.out); rintro e w28 ⟨rfl, hb⟩; refine ⟨_, rfl, ?_⟩; replace HB := bel_on w hb; replace BK419 := blk_on gb419 hb; replace BK420 := blk_on gb420 hb; (try clear hb); obtain ⟨hcz29_0, hcz29_1, hcz29_2, hcz29_3, hcz29_4, hcz29_5, hcz29_6, hcz29_7, hcz29_8, hcz29_9, hfz29_0, hfz29_1, hfz29_2, hfz29_3, hfz29_4, hfz29_5, hfz29_6, hfz29_7, hfz29_8, hfz29_9⟩ := cells10 BK419.out; obtain ⟨hcz30_0, hcz30_1, hcz30_2, hcz30_3, hcz30_4, hcz30_5, hcz30_6, hcz30_7, hcz30_8, hcz30_9, hfz30_0, hfz30_1, hfz30_2, hfz30_3, hfz30_4, hfz30_5, hfz30_6, hfz30_7, hfz30_8, hfz30_9⟩ := cells10 BK420.out))
      go_ret
      exact ⟨eqN, bel_now⟩
    ·replace c7 := Bool.eq_false_iff.mpr c7
     subst c7
     rw [if_neg (show ¬ (false = true) by decide)] at H
     obtain rfl := Option.some.inj H
     go_enter Try.func42, Try.ntmps42
     go_wp2_with (first | ((with_reducible refine gate_dst (N := 2) rfl ?_); refine boxM 2 #[.int .i64 a0_0, .int .i64 a0_1, .int .i64 a0_2, .slice A0_3 l0_3.length c0_3, .int .i64 a0_4, .int .i64 a0_5, .int .i64 a0_6, .int .i64 a0_7, .slice A0_8 l0_8.length c0_8, .int .i64 a0_9] 64 ?_; intro gb419 hg w31 BK419 hb; replace HB := box_at w hb hg; obtain ⟨HB, GW419, GE419⟩ := HB; clear hb hg) | ((with_reducible refine gate_dst (N := 3) rfl ?_); refine boxM 3 #[.int .i64 a1_0, .int .i64 a1_1, .int .i64 a1_2, .slice A1_3 l1_3.length c1_3, .int .i64 a1_4, .int .i64 a1_5, .int .i64 a1_6, .int .i64 a1_7, .slice A1_8 l1_8.length c1_8, .int .i64 a1_9] 64 ?_; intro gb420 hg w32 BK420 hb; replace HB := box_at w hb hg; obtain ⟨HB, GW420, GE420⟩ := HB; replace BK419 := box_on gb419 hb hg; obtain ⟨BK419, NB419_420, NB420_419⟩ := BK419; clear hb hg; have hnb33 := NB419_420.out; have hnc33 := NB420_419.out; obtain ⟨hcz34_0, hcz34_1, hcz34_2, hcz34_3, hcz34_4, hcz34_5, hcz34_6, hcz34_7, hcz34_8, hcz34_9, hfz34_0, hfz34_1, hfz34_2, hfz34_3, hfz34_4, hfz34_5, hfz34_6, hfz34_7, hfz34_8, hfz34_9⟩ := cells10 BK419.out; obtain ⟨hcz35_0, hcz35_1, hcz35_2, hcz35_3, hcz35_4, hcz35_5, hcz35_6, hcz35_7, hcz35_8, hcz35_9, hfz35_0, hfz35_1, hfz35_2, hfz35_3, hfz35_4, hfz35_5, hfz35_6, hfz35_7, hfz35_8, hfz35_9⟩ := cells10 BK420.out) | ((with_reducible refine gate_callee (f := 27) rfl ?_); refine goesM (some 9) rfl rfl Try.func27 (by kernel_rfl) rfl #[.agg #[.int .i64 a0_0, .int .i64 a0_1, .int .i64 a0_2, .slice A0_3 l0_3.length c0_3], .agg #[.int .i64 a1_0, .int .i64 a1_1, .int .i64 a1_2, .slice A1_3 l1_3.length c1_3]] rfl ?_; (with_reducible refine (laws_eqModel.calls k a0_0 a0_1 a0_2 _ _ l0_3 a1_0 a1_1 a1_2 _ _ l1_3 true _ ?side1 ?side2 ?side3 ?side4 A3.out).mono ?_); (case side1 => exact C_now HR0_3.out); (case side2 => exact HC0_3.out); (case side3 => exact C_now HR1_3.out); (case side4 => exact HC1_3.out); rintro e w36 ⟨rfl, hb⟩; refine ⟨_, rfl, ?_⟩; replace HB := bel_on w hb; replace BK419 := blk_on gb419 hb; replace BK420 := blk_on gb420 hb; (try clear hb); obtain ⟨hcz37_0, hcz37_1, hcz37_2, hcz37_3, hcz37_4, hcz37_5, hcz37_6, hcz37_7, hcz37_8, hcz37_9, hfz37_0, hfz37_1, hfz37_2, hfz37_3, hfz37_4, hfz37_5, hfz37_6, hfz37_7, hfz37_8, hfz37_9⟩ := cells10 BK419.out; obtain ⟨hcz38_0, hcz38_1, hcz38_2, hcz38_3, hcz38_4, hcz38_5, hcz38_6, hcz38_7, hcz38_8, hcz38_9, hfz38_0, hfz38_1, hfz38_2, hfz38_3, hfz38_4, hfz38_5, hfz38_6, hfz38_7, hfz38_8, hfz38_9⟩ := cells10 BK420.out) | ((with_reducible refine gate_callee (f := 85) rfl ?_); refine goesM (some 20) rfl rfl Try.func85 (by kernel_rfl) rfl #[.agg #[.int .i64 a0_5, .int .i64 a0_6, .int .i64 a0_7, .slice A0_8 l0_8.length c0_8], .agg #[.int .i64 a1_5, .int .i64 a1_6, .int .i64 a1_7, .slice A1_8 l1_8.length c1_8]] rfl ?_; (with_reducible refine (laws_eqTensor.calls k a0_5 a0_6 a0_7 _ _ l0_8 a1_5 a1_6 a1_7 _ _ l1_8 false _ ?side1 ?side2 ?side3 ?side4 A6.out).mono ?_); (case side1 => exact C_now HR0_8.out); (case side2 => exact HC0_8.out); (case side3 => exact C_now HR1_8.out); (case side4 => exact HC1_8.out); rintro e w39 ⟨rfl, hb⟩; refine ⟨_, rfl, ?_⟩; replace HB := bel_on w hb; replace BK419 := blk_on gb419 hb; replace BK420 := blk_on gb420 hb; (try clear hb)))
     go_ret
     exact ⟨eqN, bel_now⟩
   ·rw [if_neg c5] at H
    have c5b0 : (a0_4 == a1_4) = false := beq_eq_false_iff_ne.mpr c5
    have c5b1 : (a0_4 != a1_4) = true := bne_iff_ne.mpr c5
    obtain rfl := Option.some.inj H
    go_enter Try.func42, Try.ntmps42
    go_wp2_with (first | ((with_reducible refine gate_dst (N := 2) rfl ?_); refine boxM 2 #[.int .i64 a0_0, .int .i64 a0_1, .int .i64 a0_2, .slice A0_3 l0_3.length c0_3, .int .i64 a0_4, .int .i64 a0_5, .int .i64 a0_6, .int .i64 a0_7, .slice A0_8 l0_8.length c0_8, .int .i64 a0_9] 64 ?_; intro gb419 hg w40 BK419 hb; replace HB := box_at w hb hg; obtain ⟨HB, GW419, GE419⟩ := HB; clear hb hg) | ((with_reducible refine gate_dst (N := 3) rfl ?_); refine boxM 3 #[.int .i64 a1_0, .int .i64 a1_1, .int .i64 a1_2, .slice A1_3 l1_3.length c1_3, .int .i64 a1_4, .int .i64 a1_5, .int .i64 a1_6, .int .i64 a1_7, .slice A1_8 l1_8.length c1_8, .int .i64 a1_9] 64 ?_; intro gb420 hg w41 BK420 hb; replace HB := box_at w hb hg; obtain ⟨HB, GW420, GE420⟩ := HB; replace BK419 := box_on gb419 hb hg; obtain ⟨BK419, NB419_420, NB420_419⟩ := BK419; clear hb hg; have hnb42 := NB419_420.out; have hnc42 := NB420_419.out; obtain ⟨hcz43_0, hcz43_1, hcz43_2, hcz43_3, hcz43_4, hcz43_5, hcz43_6, hcz43_7, hcz43_8, hcz43_9, hfz43_0, hfz43_1, hfz43_2, hfz43_3, hfz43_4, hfz43_5, hfz43_6, hfz43_7, hfz43_8, hfz43_9⟩ := cells10 BK419.out; obtain ⟨hcz44_0, hcz44_1, hcz44_2, hcz44_3, hcz44_4, hcz44_5, hcz44_6, hcz44_7, hcz44_8, hcz44_9, hfz44_0, hfz44_1, hfz44_2, hfz44_3, hfz44_4, hfz44_5, hfz44_6, hfz44_7, hfz44_8, hfz44_9⟩ := cells10 BK420.out) | ((with_reducible refine gate_callee (f := 27) rfl ?_); refine goesM (some 9) rfl rfl Try.func27 (by kernel_rfl) rfl #[.agg #[.int .i64 a0_0, .int .i64 a0_1, .int .i64 a0_2, .slice A0_3 l0_3.length c0_3], .agg #[.int .i64 a1_0, .int .i64 a1_1, .int .i64 a1_2, .slice A1_3 l1_3.length c1_3]] rfl ?_; (with_reducible refine (laws_eqModel.calls k a0_0 a0_1 a0_2 _ _ l0_3 a1_0 a1_1 a1_2 _ _ l1_3 true _ ?side1 ?side2 ?side3 ?side4 A3.out).mono ?_); (case side1 => exact C_now HR0_3.out); (case side2 => exact HC0_3.out); (case side3 => exact C_now HR1_3.out); (case side4 => exact HC1_3.out); rintro e w45 ⟨rfl, hb⟩; refine ⟨_, rfl, ?_⟩; replace HB := bel_on w hb; replace BK419 := blk_on gb419 hb; replace BK420 := blk_on gb420 hb; (try clear hb); obtain ⟨hcz46_0, hcz46_1, hcz46_2, hcz46_3, hcz46_4, hcz46_5, hcz46_6, hcz46_7, hcz46_8, hcz46_9, hfz46_0, hfz46_1, hfz46_2, hfz46_3, hfz46_4, hfz46_5, hfz46_6, hfz46_7, hfz46_8, hfz46_9⟩ := cells10 BK419.out; obtain ⟨hcz47_0, hcz47_1, hcz47_2, hcz47_3, hcz47_4, hcz47_5, hcz47_6, hcz47_7, hcz47_8, hcz47_9, hfz47_0, hfz47_1, hfz47_2, hfz47_3, hfz47_4, hfz47_5, hfz47_6, hfz47_7, hfz47_8, hfz47_9⟩ := cells10 BK420.out))
    go_ret
    exact ⟨eqN, bel_now⟩
  ·replace c4 := Bool.eq_false_iff.mpr c4
   subst c4
   rw [if_neg (show ¬ (false = true) by decide)] at H
   obtain rfl := Option.some.inj H
   go_enter Try.func42, Try.ntmps42
   go_wp2_with (first | ((with_reducible refine gate_dst (N := 2) rfl ?_); refine boxM 2 #[.int .i64 a0_0, .int .i64 a0_1, .int .i64 a0_2, .slice A0_3 l0_3.length c0_3, .int .i64 a0_4, .int .i64 a0_5, .int .i64 a0_6, .int .i64 a0_7, .slice A0_8 l0_8.length c0_8, .int .i64 a0_9] 64 ?_; intro gb419 hg w48 BK419 hb; replace HB := box_at w hb hg; obtain ⟨HB, GW419, GE419⟩ := HB; clear hb hg) | ((with_reducible refine gate_dst (N := 3) rfl ?_); refine boxM 3 #[.int .i64 a1_0, .int .i64 a1_1, .int .i64 a1_2, .slice A1_3 l1_3.length c1_3, .int .i64 a1_4, .int .i64 a1_5, .int .i64 a1_6, .int .i64 a1_7, .slice A1_8 l1_8.length c1_8, .int .i64 a1_9] 64 ?_; intro gb420 hg w49 BK420 hb; replace HB := box_at w hb hg; obtain ⟨HB, GW420, GE420⟩ := HB; replace BK419 := box_on gb419 hb hg; obtain ⟨BK419, NB419_420, NB420_419⟩ := BK419; clear hb hg; have hnb50 := NB419_420.out; have hnc50 := NB420_419.out; obtain ⟨hcz51_0, hcz51_1, hcz51_2, hcz51_3, hcz51_4, hcz51_5, hcz51_6, hcz51_7, hcz51_8, hcz51_9, hfz51_0, hfz51_1, hfz51_2, hfz51_3, hfz51_4, hfz51_5, hfz51_6, hfz51_7, hfz51_8, hfz51_9⟩ := cells10 BK419.out; obtain ⟨hcz52_0, hcz52_1, hcz52_2, hcz52_3, hcz52_4, hcz52_5, hcz52_6, hcz52_7, hcz52_8, hcz52_9, hfz52_0, hfz52_1, hfz52_2, hfz52_3, hfz52_4, hfz52_5, hfz52_6, hfz52_7, hfz52_8, hfz52_9⟩ := cells10 BK420.out) | ((with_reducible refine gate_callee (f := 27) rfl ?_); refine goesM (some 9) rfl rfl Try.func27 (by kernel_rfl) rfl #[.agg #[.int .i64 a0_0, .int .i64 a0_1, .int .i64 a0_2, .slice A0_3 l0_3.length c0_3], .agg #[.int .i64 a1_0, .int .i64 a1_1, .int .i64 a1_2, .slice A1_3 l1_3.length c1_3]] rfl ?_; (with_reducible refine (laws_eqModel.calls k a0_0 a0_1 a0_2 _ _ l0_3 a1_0 a1_1 a1_2 _ _ l1_3 false _ ?side1 ?side2 ?side3 ?side4 A3.out).mono ?_); (case side1 => exact C_now HR0_3.out); (case side2 => exact HC0_3.out); (case side3 => exact C_now HR1_3.out); (case side4 => exact HC1_3.out); rintro e w53 ⟨rfl, hb⟩; refine ⟨_, rfl, ?_⟩; replace HB := bel_on w hb; replace BK419 := blk_on gb419 hb; replace BK420 := blk_on gb420 hb; (try clear hb)))
   go_ret
   exact ⟨eqN, bel_now⟩

/-! ### laws_FnExactJobOk: function 8 -/
def laws_FnExactJobOk.f (k : Nat) (a0_0 : Int) (a0_1 : Int) (a0_2 : Int) (l0_3 : List (S117)) (a0_4 : Int) (a0_5 : Int) (a0_6 : Int) (a0_7 : Int) (l0_8 : List Int) (a0_9 : Int) : Option (Bool) := (laws_szJob.f k a0_0 a0_1 a0_2 l0_3 a0_4 a0_5 a0_6 a0_7 l0_8 a0_9 1048576).bind fun t424 => (if t424 < 0 then (some true) else ((laws_toJob.f k a0_0 a0_1 a0_2 l0_3 a0_4 a0_5 a0_6 a0_7 l0_8 a0_9).bind fun bt425 => ((spec_JobOk.f k bt425.1 bt425.2.1 bt425.2.2.1 bt425.2.2.2.1 bt425.2.2.2.2.1 bt425.2.2.2.2.2.1 bt425.2.2.2.2.2.2.1 bt425.2.2.2.2.2.2.2.1 bt425.2.2.2.2.2.2.2.2.1 bt425.2.2.2.2.2.2.2.2.2).bind fun t439 => ((laws_toJob.f k a0_0 a0_1 a0_2 l0_3 a0_4 a0_5 a0_6 a0_7 l0_8 a0_9).bind fun bt440 => ((impl_JobOk.f k bt440.1 bt440.2.1 bt440.2.2.1 bt440.2.2.2.1 bt440.2.2.2.2.1 bt440.2.2.2.2.2.1 bt440.2.2.2.2.2.2.1 bt440.2.2.2.2.2.2.2.1 bt440.2.2.2.2.2.2.2.2.1 bt440.2.2.2.2.2.2.2.2.2).bind fun t455 => (if (t455 != t439) = true then (some false) else ((laws_toJob.f k a0_0 a0_1 a0_2 l0_3 a0_4 a0_5 a0_6 a0_7 l0_8 a0_9).bind fun bt456 => ((laws_eqJob.f k bt440.1 bt440.2.1 bt440.2.2.1 bt440.2.2.2.1 bt440.2.2.2.2.1 bt440.2.2.2.2.2.1 bt440.2.2.2.2.2.2.1 bt440.2.2.2.2.2.2.2.1 bt440.2.2.2.2.2.2.2.2.1 bt440.2.2.2.2.2.2.2.2.2 bt456.1 bt456.2.1 bt456.2.2.1 bt456.2.2.2.1 bt456.2.2.2.2.1 bt456.2.2.2.2.2.1 bt456.2.2.2.2.2.2.1 bt456.2.2.2.2.2.2.2.1 bt456.2.2.2.2.2.2.2.2.1 bt456.2.2.2.2.2.2.2.2.2).bind fun t470 => (if t470 = true then (some true) else (some false))))))))))
set_option maxHeartbeats 8000000 in
set_option maxRecDepth 100000 in
theorem laws_FnExactJobOk.calls (k : Nat) (a0_0 : Int) (a0_1 : Int) (a0_2 : Int) (A0_3 : Option Addr) (c0_3 : Nat) (l0_3 : List (S117)) (a0_4 : Int) (a0_5 : Int) (a0_6 : Int) (a0_7 : Int) (A0_8 : Option Addr) (c0_8 : Nat) (l0_8 : List Int) (a0_9 : Int) (w : World) (hr0_3 : Kd.C k117 w A0_3 l0_3.length l0_3) (hc0_3 : l0_3.length ≤ c0_3) (hr0_8 : Kd.C (Kd.int .i64) w A0_8 l0_8.length l0_8) (hc0_8 : l0_8.length ≤ c0_8) (h : laws_FnExactJobOk.f k a0_0 a0_1 a0_2 l0_3 a0_4 a0_5 a0_6 a0_7 l0_8 a0_9 = some true) :
   Calls Try.prog 8 #[.agg #[.int .i64 a0_0, .int .i64 a0_1, .int .i64 a0_2, .slice A0_3 l0_3.length c0_3, .int .i64 a0_4, .int .i64 a0_5, .int .i64 a0_6, .int .i64 a0_7, .slice A0_8 l0_8.length c0_8, .int .i64 a0_9]] w fun e w' => e = .returned (.bool true) ∧ Below w.heap.size w w' := by
  have hu58 := Try.underlying58
  have hu64 := Try.underlying64
  have HR0_3 := Aside0.mk hr0_3
  have HC0_3 := Aside0.mk hc0_3
  clear hr0_3 hc0_3
  have HR0_8 := Aside0.mk hr0_8
  have HC0_8 := Aside0.mk hc0_8
  clear hr0_8 hc0_8
  have HB := Aside0.mk (Below.refl w.heap.size w)
  have H : ((laws_szJob.f k a0_0 a0_1 a0_2 l0_3 a0_4 a0_5 a0_6 a0_7 l0_8 a0_9 1048576).bind fun t424 => (if t424 < 0 then (some true) else ((laws_toJob.f k a0_0 a0_1 a0_2 l0_3 a0_4 a0_5 a0_6 a0_7 l0_8 a0_9).bind fun bt425 => ((spec_JobOk.f k bt425.1 bt425.2.1 bt425.2.2.1 bt425.2.2.2.1 bt425.2.2.2.2.1 bt425.2.2.2.2.2.1 bt425.2.2.2.2.2.2.1 bt425.2.2.2.2.2.2.2.1 bt425.2.2.2.2.2.2.2.2.1 bt425.2.2.2.2.2.2.2.2.2).bind fun t439 => ((laws_toJob.f k a0_0 a0_1 a0_2 l0_3 a0_4 a0_5 a0_6 a0_7 l0_8 a0_9).bind fun bt440 => ((impl_JobOk.f k bt440.1 bt440.2.1 bt440.2.2.1 bt440.2.2.2.1 bt440.2.2.2.2.1 bt440.2.2.2.2.2.1 bt440.2.2.2.2.2.2.1 bt440.2.2.2.2.2.2.2.1 bt440.2.2.2.2.2.2.2.2.1 bt440.2.2.2.2.2.2.2.2.2).bind fun t455 => (if (t455 != t439) = true then (some false) else ((laws_toJob.f k a0_0 a0_1 a0_2 l0_3 a0_4 a0_5 a0_6 a0_7 l0_8 a0_9).bind fun bt456 => ((laws_eqJob.f k bt440.1 bt440.2.1 bt440.2.2.1 bt440.2.2.2.1 bt440.2.2.2.2.1 bt440.2.2.2.2.2.1 bt440.2.2.2.2.2.2.1 bt440.2.2.2.2.2.2.2.1 bt440.2.2.2.2.2.2.2.2.1 bt440.2.2.2.2.2.2.2.2.2 bt456.1 bt456.2.1 bt456.2.2.1 bt456.2.2.2.1 bt456.2.2.2.2.1 bt456.2.2.2.2.2.1 bt456.2.2.2.2.2.2.1 bt456.2.2.2.2.2.2.2.1 bt456.2.2.2.2.2.2.2.2.1 bt456.2.2.2.2.2.2.2.2.2).bind fun t470 => (if t470 = true then (some true) else (some false))))))))))) = some true := h
  clear h
  replace H := Option.bind_eq_some_iff.mp H
  obtain ⟨t424, A20, H⟩ := H
  (try dsimp only at H)
  have A2 := Aside0.mk A20
  clear A20
  by_cases c3 : t424 < 0
  ·rw [if_pos c3] at H
   have c3b0 : decide (t424 < 0) = true := decide_eq_true c3
   clear c3
   clear H
   go_enter Try.func8, Try.ntmps8
   go_wp2_with (first | ((with_reducible refine gate_dst (N := 1) rfl ?_); refine boxM 1 #[.int .i64 a0_0, .int .i64 a0_1, .int .i64 a0_2, .slice A0_3 l0_3.length c0_3, .int .i64 a0_4, .int .i64 a0_5, .int .i64 a0_6, .int .i64 a0_7, .slice A0_8 l0_8.length c0_8, .int .i64 a0_9] 58 ?_; intro gb423 hg w4 BK423 hb; replace HB := box_at w hb hg; obtain ⟨HB, GW423, GE423⟩ := HB; clear hb hg; obtain ⟨hcz5_0, hcz5_1, hcz5_2, hcz5_3, hcz5_4, hcz5_5, hcz5_6, hcz5_7, hcz5_8, hcz5_9, hfz5_0, hfz5_1, hfz5_2, hfz5_3, hfz5_4, hfz5_5, hfz5_6, hfz5_7, hfz5_8, hfz5_9⟩ := cells10 BK423.out) | ((with_reducible refine gate_callee (f := 38) rfl ?_); refine goesM (some 9) rfl rfl Try.func38 (by kernel_rfl) rfl #[.agg #[.int .i64 a0_0, .int .i64 a0_1, .int .i64 a0_2, .slice A0_3 l0_3.length c0_3, .int .i64 a0_4, .int .i64 a0_5, .int .i64 a0_6, .int .i64 a0_7, .slice A0_8 l0_8.length c0_8, .int .i64 a0_9], .int .i64 1048576] rfl ?_; (with_reducible refine (laws_szJob.calls k a0_0 a0_1 a0_2 _ _ l0_3 a0_4 a0_5 a0_6 a0_7 _ _ l0_8 a0_9 1048576 t424 _ ?side1 ?side2 ?side3 ?side4 A2.out).mono ?_); (case side1 => exact C_now HR0_3.out); (case side2 => exact HC0_3.out); (case side3 => exact C_now HR0_8.out); (case side4 => exact HC0_8.out); rintro e w6 ⟨rfl, hb⟩; refine ⟨_, rfl, ?_⟩; replace HB := bel_on w hb; replace BK423 := blk_on gb423 hb; (try clear hb)))
   go_ret
   exact ⟨eqN, bel_now⟩
  ·rw [if_neg c3] at H
   have c3b0 : decide (t424 < 0) = false := decide_eq_false c3
   clear c3
   replace H := Option.bind_eq_some_iff.mp H
   obtain ⟨⟨t425, t426, t427, t428, t431, t432, t433, t434, t435, t438⟩, A70, H⟩ := H
   (try dsimp only at H)
   have A7 := Aside0.mk A70
   clear A70
   replace H := Option.bind_eq_some_iff.mp H
   obtain ⟨t439, A80, H⟩ := H
   (try dsimp only at H)
   have A8 := Aside0.mk A80
   clear A80
   replace H := Option.bind_eq_some_iff.mp H
   obtain ⟨⟨t440, t441, t442, t443, t446, t447, t448, t449, t450, t453⟩, A90, H⟩ := H
   (try dsimp only at H)
   have A9 := Aside0.mk A90
   clear A90
   replace H := Option.bind_eq_some_iff.mp H
   obtain ⟨t455, A100, H⟩ := H
   (try dsimp only at H)
   have A10 := Aside0.mk A100
   clear A100
   by_cases c11 : (t455 != t439) = true
   ·rw [if_pos c11] at H
    have c11b0 : (t455 != t439) = true := c11
    (try (have c11b1 : decide (t455 = t439) = false := by simpa using c11))
    (try (have c11b2 : (t455 == t439) = false := by simpa using c11))
    (try (have c11b3 : ¬ (t455 = t439) := by simpa using c11))
    clear c11
    exact absurd H (by decide)
   ·rw [if_neg c11] at H
    have c11b0 : (t455 != t439) = false := by simpa using c11
    (try (have c11b1 : decide (t455 = t439) = true := by simpa using c11))
    (try (have c11b2 : (t455 == t439) = true := by simpa using c11))
    clear c11
    replace H := Option.bind_eq_some_iff.mp H
    obtain ⟨⟨t456, t457, t458, t459, t462, t463, t464, t465, t466, t469⟩, A120, H⟩ := H
    (try dsimp only at H)
    have A12 := Aside0.mk A120
    clear A120
    replace H := Option.bind_eq_some_iff.mp H
    obtain ⟨t470, A130, H⟩ := H
    (try dsimp only at H)
    have A13 := Aside0.mk A130
    clear A130
    by_cases c14 : t470 = true
    ·subst c14
     have H1 : (some true) = some true := rfl
     clear H
     have H := H1
     clear H1
     clear H
     go_enter Try.func8, Try.ntmps8
     try go_wp2_with (first | ((with_reducible refine gate_dst (N := 1) rfl ?_); refine boxM 1 #[.int .i64 a0_0, .int .i64 a0_1, .int .i64 a0_2, .slice A0_3 l0_3.length c0_3, .int .i64 a0_4, .int .i64 a0_5, .int .i64 a0_6, .int .i64 a0_7, .slice A0_8 l0_8.length c0_8, .int .i64 a0_9] 58 ?_; intro gb423 hg w15 BK423 hb; replace HB := box_at w hb hg; obtain ⟨HB, GW423, GE423⟩ := HB; clear hb hg; obtain ⟨hcz16_0, hcz16_1, hcz16_2, hcz16_3, hcz16_4, hcz16_5, hcz16_6, hcz16_7, hcz16_8, hcz16_9, hfz16_0, hfz16_1, hfz16_2, hfz16_3, hfz16_4, hfz16_5, hfz16_6, hfz16_7, hfz16_8, hfz16_9⟩ := cells10 BK423.out) | ((with_reducible refine gate_callee (f := 38) rfl ?_); refine goesM (some 9) rfl rfl Try.func38 (by kernel_rfl) rfl #[.agg #[.int .i64 a0_0, .int .i64 a0_1, .int .i64 a0_2, .slice A0_3 l0_3.length c0_3, .int .i64 a0_4, .int .i64 a0_5, .int .i64 a0_6, .int .i64 a0_7, .slice A0_8 l0_8.length c0_8, .int .i64 a0_9], .int .i64 1048576] rfl ?_; (with_reducible refine (laws_szJob.calls k a0_0 a0_1 a0_2 _ _ l0_3 a0_4 a0_5 a0_6 a0_7 _ _ l0_8 a0_9 1048576 t424 _ ?side1 ?side2 ?side3 ?side4 A2.out).mono ?_); (case side1 => exact C_now HR0_3.out); (case side2 => exact HC0_3.out); (case side3 => exact C_now HR0_8.out); (case side4 => exact HC0_8.out); rintro e w17 ⟨rfl, hb⟩; refine ⟨_, rfl, ?_⟩; replace HB := bel_on w hb; replace BK423 := blk_on gb423 hb; (try clear hb); obtain ⟨hcz18_0, hcz18_1, hcz18_2, hcz18_3, hcz18_4, hcz18_5, hcz18_6, hcz18_7, hcz18_8, hcz18_9, hfz18_0, hfz18_1, hfz18_2, hfz18_3, hfz18_4, hfz18_5, hfz18_6, hfz18_7, hfz18_8, hfz18_9⟩ := cells10 BK423.out) | ((with_reducible refine gate_callee (f := 40) rfl ?_); refine goesM (some 13) rfl rfl Try.func40 (by kernel_rfl) rfl #[.agg #[.int .i64 a0_0, .int .i64 a0_1, .int .i64 a0_2, .slice A0_3 l0_3.length c0_3, .int .i64 a0_4, .int .i64 a0_5, .int .i64 a0_6, .int .i64 a0_7, .slice A0_8 l0_8.length c0_8, .int .i64 a0_9]] rfl ?_; (with_reducible refine (laws_toJob.calls k a0_0 a0_1 a0_2 _ _ l0_3 a0_4 a0_5 a0_6 a0_7 _ _ l0_8 a0_9 t425 t426 t427 t428 t431 t432 t433 t434 t435 t438 _ ?side1 ?side2 ?side3 ?side4 A7.out).mono ?_); (case side1 => exact C_now HR0_3.out); (case side2 => exact HC0_3.out); (case side3 => exact C_now HR0_8.out); (case side4 => exact HC0_8.out); rintro e w19 ⟨v429, v436, rfl, ho0, ho1, hb⟩; refine ⟨_, rfl, ?_⟩; have n0_ := Aside0.mk (Kd.S_lower ho0 (below_size bel_now)); have n1_ := Aside0.mk (Kd.R_lower ho1 (below_size bel_now)); replace HB := bel_on w hb; replace BK423 := blk_on gb423 hb; have HO430 := n0_; have HO437 := n1_; clear n0_ n1_; (try clear hb); (try clear ho0); (try clear ho1); obtain ⟨Ao20, co20, eo20⟩ := Kd.S_slice HO430.out; subst eo20; obtain ⟨Ao21, co21, eo21⟩ := Kd.R_slice HO437.out; subst eo21) | ((with_reducible refine gate_callee (f := 39) rfl ?_); refine goesM (some 14) rfl rfl Try.func39 (by kernel_rfl) rfl #[.agg #[.int .i64 t425, .int .i64 t426, .int .i64 t427, .slice Ao20 t428.length co20, .int .i64 t431, .int .i64 t432, .int .i64 t433, .int .i64 t434, .slice Ao21 t435.length co21, .int .i64 t438]] rfl ?_; (with_reducible refine (spec_JobOk.calls k t425 t426 t427 _ _ t428 t431 t432 t433 t434 _ _ t435 t438 t439 _ ?side1 ?side2 ?side3 ?side4 A8.out).mono ?_); (case side1 => repeat (first | exact (Kd.S_reads' HO430.out).2.2 | (with_reducible refine Kd.C_alloc ?_ _) | (with_reducible refine Kd.C_drewN ?_ _) | (with_reducible refine Kd.C_drew ?_))); (case side2 => exact (Kd.S_reads' HO430.out).2.1); (case side3 => exact (Kd.R_reads' (R_at HO437.out)).2.2); (case side4 => exact (Kd.R_reads' HO437.out).2.1); rintro e w22 ⟨rfl, hb⟩; refine ⟨_, rfl, ?_⟩; replace HO430 := Aside0.mk (Kd.S_below (by (with_reducible repeat (first | apply Kd.S_alloc | apply Kd.S_drewN | apply Kd.S_drew)); exact HO430.out) hb); replace HO437 := Aside0.mk (Kd.R_below (R_at HO437.out) hb); replace HB := bel_on w hb; replace BK423 := blk_on gb423 hb; (try clear hb); obtain ⟨hcz23_0, hcz23_1, hcz23_2, hcz23_3, hcz23_4, hcz23_5, hcz23_6, hcz23_7, hcz23_8, hcz23_9, hfz23_0, hfz23_1, hfz23_2, hfz23_3, hfz23_4, hfz23_5, hfz23_6, hfz23_7, hfz23_8, hfz23_9⟩ := cells10 BK423.out) | ((with_reducible refine gate_callee (f := 40) rfl ?_); refine goesM (some 16) rfl rfl Try.func40 (by kernel_rfl) rfl #[.agg #[.int .i64 a0_0, .int .i64 a0_1, .int .i64 a0_2, .slice A0_3 l0_3.length c0_3, .int .i64 a0_4, .int .i64 a0_5, .int .i64 a0_6, .int .i64 a0_7, .slice A0_8 l0_8.length c0_8, .int .i64 a0_9]] rfl ?_; (with_reducible refine (laws_toJob.calls k a0_0 a0_1 a0_2 _ _ l0_3 a0_4 a0_5 a0_6 a0_7 _ _ l0_8 a0_9 t440 t441 t442 t443 t446 t447 t448 t449 t450 t453 _ ?side1 ?side2 ?side3 ?side4 A9.out).mono ?_); (case side1 => exact C_now HR0_3.out); (case side2 => exact HC0_3.out); (case side3 => exact C_now HR0_8.out); (case side4 => exact HC0_8.out); rintro e w24 ⟨v444, v451, rfl, ho0, ho1, hb⟩; refine ⟨_, rfl, ?_⟩; have n2_ := Aside0.mk (Kd.S_lower (Kd.S_new' (Kd.S_new' ho0 (Kd.S_lt (by (with_reducible repeat (first | apply Kd.S_alloc | apply Kd.S_drewN | apply Kd.S_drew)); exact HO430.out))) (Kd.R_lt (R_at HO437.out))) (below_size bel_now)); have n3_ := Aside0.mk (Kd.R_lower (Kd.R_new' ho1 (Kd.R_lt (R_at HO437.out))) (below_size bel_now)); replace HO430 := Aside0.mk (Kd.S_mono (Kd.S_told (Kd.S_told (Kd.S_old (by (with_reducible repeat (first | apply Kd.S_alloc | apply Kd.S_drewN | apply Kd.S_drew)); exact HO430.out) hb) (Kd.S_base ho0)) (Kd.R_base ho1)) (fun _ h_ => h_.1)); replace HO437 := Aside0.mk (Kd.R_elder' (R_at HO437.out) (Kd.R_base ho1) hb); replace HB := bel_on w hb; replace BK423 := blk_on gb423 hb; have HO445 := n2_; have HO452 := n3_; clear n2_ n3_; (try clear hb); (try clear ho0); (try clear ho1)) | ((with_reducible refine gate_dst (N := 5) rfl ?_); refine boxM 5 #[.int .i64 0, .int .i64 0, .int .i64 0, .slice none 0 0, .int .i64 0, .int .i64 0, .int .i64 0, .int .i64 0, .slice none 0 0, .int .i64 0] 64 ?_; intro gb454 hg w25 BK454 hb; replace HB := box_at w hb hg; obtain ⟨HB, GW454, GE454⟩ := HB; replace BK423 := box_on gb423 hb hg; obtain ⟨BK423, NB423_454, NB454_423⟩ := BK423; replace HO430 := Aside0.mk (Kd.S_below (by (with_reducible repeat (first | apply Kd.S_alloc | apply Kd.S_drewN | apply Kd.S_drew)); exact HO430.out) hb); replace HO437 := Aside0.mk (Kd.R_below (R_at HO437.out) hb); replace HO445 := Aside0.mk (Kd.S_below (by (with_reducible repeat (first | apply Kd.S_alloc | apply Kd.S_drewN | apply Kd.S_drew)); exact HO445.out) hb); replace HO452 := Aside0.mk (Kd.R_below (R_at HO452.out) hb); clear hb hg; have hnb26 := NB454_423.out; have hnc26 := NB423_454.out; obtain ⟨hcz27_0, hcz27_1, hcz27_2, hcz27_3, hcz27_4, hcz27_5, hcz27_6, hcz27_7, hcz27_8, hcz27_9, hfz27_0, hfz27_1, hfz27_2, hfz27_3, hfz27_4, hfz27_5, hfz27_6, hfz27_7, hfz27_8, hfz27_9⟩ := cells10 BK454.out; obtain ⟨Ao28, co28, eo28⟩ := Kd.S_slice HO445.out; subst eo28; obtain ⟨Ao29, co29, eo29⟩ := Kd.R_slice HO452.out; subst eo29) | ((with_reducible refine gate_callee (f := 41) rfl ?_); refine goesM (some 18) rfl rfl Try.func41 (by kernel_rfl) rfl #[.agg #[.int .i64 t440, .int .i64 t441, .int .i64 t442, .slice Ao28 t443.length co28, .int .i64 t446, .int .i64 t447, .int .i64 t448, .int .i64 t449, .slice Ao29 t450.length co29, .int .i64 t453]] rfl ?_; (with_reducible refine (impl_JobOk.calls k t440 t441 t442 _ _ t443 t446 t447 t448 t449 _ _ t450 t453 t455 _ ?side1 ?side2 ?side3 ?side4 A10.out).mono ?_); (case side1 => refine (Kd.S_reads' (e := 73) (base := w.heap.size) (ok := fun k_ => ((nb k_ Ao29 t450.length co29 ∧ nb k_ Ao20 t428.length co20) ∧ nb k_ Ao21 t435.length co21)) (n := t443.length) (c := co28) ?_).2.2; exact (by (with_reducible repeat (first | apply Kd.S_alloc | apply Kd.S_drewN | apply Kd.S_drew)); exact (Kd.S_mono (Kd.S_far (p := ⟨gb454, 9, none⟩) (Kd.S_far (p := ⟨gb454, 8, none⟩) (Kd.S_far (p := ⟨gb454, 7, none⟩) (Kd.S_far (p := ⟨gb454, 6, none⟩) (Kd.S_far (p := ⟨gb454, 5, none⟩) (Kd.S_far (p := ⟨gb454, 4, none⟩) (Kd.S_far (p := ⟨gb454, 3, none⟩) (Kd.S_far (p := ⟨gb454, 2, none⟩) (Kd.S_far (p := ⟨gb454, 1, none⟩) (Kd.S_far (p := ⟨gb454, 0, none⟩) (Kd.S_types HO445.out BK454.out (by decide)) (fun _ hk => hk.2) (.int .i64 t440)) (fun _ hk => hk.2) (.int .i64 t441)) (fun _ hk => hk.2) (.int .i64 t442)) (fun _ hk => hk.2) (.slice Ao28 t443.length co28)) (fun _ hk => hk.2) (.int .i64 t446)) (fun _ hk => hk.2) (.int .i64 t447)) (fun _ hk => hk.2) (.int .i64 t448)) (fun _ hk => hk.2) (.int .i64 t449)) (fun _ hk => hk.2) (.slice Ao29 t450.length co29)) (fun _ hk => hk.2) (.int .i64 t453)) (fun _ h_ => h_.1)))); (case side2 => exact (Kd.S_reads' HO445.out).2.1); (case side3 => refine (Kd.R_reads' (e := 3) (base := w.heap.size) (ok := fun k_ => (True ∧ nb k_ Ao21 t435.length co21)) (n := t450.length) (c := co29) ?_).2.2; exact (R_at (R_far10 HO452.out BK454.out (by decide)))); (case side4 => exact (Kd.R_reads' HO452.out).2.1); rintro e w30 ⟨rfl, hb⟩; refine ⟨_, rfl, ?_⟩; have n0_ := Aside0.mk (Kd.S_below (by (with_reducible repeat (first | apply Kd.S_alloc | apply Kd.S_drewN | apply Kd.S_drew)); exact (Kd.S_mono (Kd.S_far (p := ⟨gb454, 9, none⟩) (Kd.S_far (p := ⟨gb454, 8, none⟩) (Kd.S_far (p := ⟨gb454, 7, none⟩) (Kd.S_far (p := ⟨gb454, 6, none⟩) (Kd.S_far (p := ⟨gb454, 5, none⟩) (Kd.S_far (p := ⟨gb454, 4, none⟩) (Kd.S_far (p := ⟨gb454, 3, none⟩) (Kd.S_far (p := ⟨gb454, 2, none⟩) (Kd.S_far (p := ⟨gb454, 1, none⟩) (Kd.S_far (p := ⟨gb454, 0, none⟩) (Kd.S_types HO430.out BK454.out (by decide)) (fun _ hk => hk.2) (.int .i64 t440)) (fun _ hk => hk.2) (.int .i64 t441)) (fun _ hk => hk.2) (.int .i64 t442)) (fun _ hk => hk.2) (.slice Ao28 t443.length co28)) (fun _ hk => hk.2) (.int .i64 t446)) (fun _ hk => hk.2) (.int .i64 t447)) (fun _ hk => hk.2) (.int .i64 t448)) (fun _ hk => hk.2) (.int .i64 t449)) (fun _ hk => hk.2) (.slice Ao29 t450.length co29)) (fun _ hk => hk.2) (.int .i64 t453)) (fun _ h_ => h_.1))) hb); have n1_ := Aside0.mk (Kd.R_below (R_at (R_far10 HO437.out BK454.out (by decide))) hb); have n2_ := Aside0.mk (Kd.S_below (by (with_reducible repeat (first | apply Kd.S_alloc | apply Kd.S_drewN | apply Kd.S_drew)); exact (Kd.S_mono (Kd.S_far (p := ⟨gb454, 9, none⟩) (Kd.S_far (p := ⟨gb454, 8, none⟩) (Kd.S_far (p := ⟨gb454, 7, none⟩) (Kd.S_far (p := ⟨gb454, 6, none⟩) (Kd.S_far (p := ⟨gb454, 5, none⟩) (Kd.S_far (p := ⟨gb454, 4, none⟩) (Kd.S_far (p := ⟨gb454, 3, none⟩) (Kd.S_far (p := ⟨gb454, 2, none⟩) (Kd.S_far (p := ⟨gb454, 1, none⟩) (Kd.S_far (p := ⟨gb454, 0, none⟩) (Kd.S_types HO445.out BK454.out (by decide)) (fun _ hk => hk.2) (.int .i64 t440)) (fun _ hk => hk.2) (.int .i64 t441)) (fun _ hk => hk.2) (.int .i64 t442)) (fun _ hk => hk.2) (.slice Ao28 t443.length co28)) (fun _ hk => hk.2) (.int .i64 t446)) (fun _ hk => hk.2) (.int .i64 t447)) (fun _ hk => hk.2) (.int .i64 t448)) (fun _ hk => hk.2) (.int .i64 t449)) (fun _ hk => hk.2) (.slice Ao29 t450.length co29)) (fun _ hk => hk.2) (.int .i64 t453)) (fun _ h_ => h_.1))) hb); have n3_ := Aside0.mk (Kd.R_below (R_at (R_far10 HO452.out BK454.out (by decide))) hb); replace HB := bel_on w hb; replace BK423 := Aside0.mk (blk_below (g := gb423) (o := .cells #[.int .i64 a0_0, .int .i64 a0_1, .int .i64 a0_2, .slice A0_3 l0_3.length c0_3, .int .i64 a0_4, .int .i64 a0_5, .int .i64 a0_6, .int .i64 a0_7, .slice A0_8 l0_8.length c0_8, .int .i64 a0_9] 58 (0, 0)) (blk_fars BK423.out) hb); replace BK454 := Aside0.mk (blk_below (g := gb454) (o := .cells #[.int .i64 t440, .int .i64 t441, .int .i64 t442, .slice Ao28 t443.length co28, .int .i64 t446, .int .i64 t447, .int .i64 t448, .int .i64 t449, .slice Ao29 t450.length co29, .int .i64 t453] 64 (0, 0)) (by (with_reducible repeat (first | refine blk_drewN ?_ _ | refine blk_drew ?_ | refine blk_alloc ?_ _)); first | exact putl10 BK454.out | exact blk_fars (putl10 BK454.out)) hb); clear HO430 HO437 HO445 HO452; have HO430 := n0_; have HO437 := n1_; have HO445 := n2_; have HO452 := n3_; clear n0_ n1_ n2_ n3_; (try clear hb); (try clear hk)))
     replace HO430 := Aside0.mk (Kd.S_drew HO430.out)
     replace HO437 := Aside0.mk (Kd.R_drew HO437.out)
     replace HO445 := Aside0.mk (Kd.S_drew HO445.out)
     replace HO452 := Aside0.mk (Kd.R_drew HO452.out)
     replace BK423 := Aside0.mk (blk_drew BK423.out)
     replace BK454 := Aside0.mk (blk_drew BK454.out)
     replace HB := Aside0.mk (below_drew1 HB.out)
     refine start_ (n := 5) (S := fun w' => w'.cell? ⟨gb454, 0, none⟩ = some (.int .i64 t440) ∧ w'.cell? ⟨gb454, 1, none⟩ = some (.int .i64 t441) ∧ w'.cell? ⟨gb454, 2, none⟩ = some (.int .i64 t442) ∧ w'.cell? ⟨gb454, 3, none⟩ = some (.slice Ao28 t443.length co28) ∧ w'.cell? ⟨gb454, 4, none⟩ = some (.int .i64 t446) ∧ w'.cell? ⟨gb454, 5, none⟩ = some (.int .i64 t447) ∧ w'.cell? ⟨gb454, 6, none⟩ = some (.int .i64 t448) ∧ w'.cell? ⟨gb454, 7, none⟩ = some (.int .i64 t449) ∧ w'.cell? ⟨gb454, 8, none⟩ = some (.slice Ao29 t450.length co29) ∧ w'.cell? ⟨gb454, 9, none⟩ = some (.int .i64 t453) ∧ w'.cell? ⟨gb423, 0, none⟩ = some (.int .i64 a0_0) ∧ w'.cell? ⟨gb423, 1, none⟩ = some (.int .i64 a0_1) ∧ w'.cell? ⟨gb423, 2, none⟩ = some (.int .i64 a0_2) ∧ w'.cell? ⟨gb423, 3, none⟩ = some (.slice A0_3 l0_3.length c0_3) ∧ w'.cell? ⟨gb423, 4, none⟩ = some (.int .i64 a0_4) ∧ w'.cell? ⟨gb423, 5, none⟩ = some (.int .i64 a0_5) ∧ w'.cell? ⟨gb423, 6, none⟩ = some (.int .i64 a0_6) ∧ w'.cell? ⟨gb423, 7, none⟩ = some (.int .i64 a0_7) ∧ w'.cell? ⟨gb423, 8, none⟩ = some (.slice A0_8 l0_8.length c0_8) ∧ w'.cell? ⟨gb423, 9, none⟩ = some (.int .i64 a0_9)) (ds := []) #[false, false, false, false, false] (by kernel_rfl) rfl rfl ⟨bc BK454 0, bc BK454 1, bc BK454 2, bc BK454 3, bc BK454 4, bc BK454 5, bc BK454 6, bc BK454 7, bc BK454 8, bc BK454 9, bc BK423 0, bc BK423 1, bc BK423 2, bc BK423 3, bc BK423 4, bc BK423 5, bc BK423 6, bc BK423 7, bc BK423 8, bc BK423 9⟩ (fun hHeld => ?_)
     generalize w30.drew = w31 at HO430 HO437 HO445 HO452 BK423 BK454 HB hHeld ⊢
     refine stepT 0 (some 22) (tk 5 1) (by kernel_rfl) hHeld ?_
     refine stepT 1 (some 23) (tk 5 3) (by kernel_rfl) hHeld ?_
     refine one_ (i := 2) (N := some 24) #[true, true, true, false, false] rfl rfl (by kernel_rfl) (by decide) (fun K hK => ?_)
     refine goes_ Try.func40 (by kernel_rfl) rfl #[.agg #[.int .i64 a0_0, .int .i64 a0_1, .int .i64 a0_2, .slice A0_3 l0_3.length c0_3, .int .i64 a0_4, .int .i64 a0_5, .int .i64 a0_6, .int .i64 a0_7, .slice A0_8 l0_8.length c0_8, .int .i64 a0_9]] (by rfl) rfl rfl (by (try simp only [List.map_toArray, List.map_cons, List.map_nil]); first | done | rfl | (simp only [List.length_drop, List.length_take]; rfl)) ?_
     with_reducible refine (laws_toJob.calls k a0_0 a0_1 a0_2 _ _ l0_3 a0_4 a0_5 a0_6 a0_7 _ _ l0_8 a0_9 t456 t457 t458 t459 t462 t463 t464 t465 t466 t469 _ ?side1 ?side2 ?side3 ?side4 A12.out).mono ?_
     (case side1 => exact C_now HR0_3.out)
     (case side2 => exact HC0_3.out)
     (case side3 => exact C_now HR0_8.out)
     (case side4 => exact HC0_8.out)
     rintro e w32 ⟨v460, v467, rfl, ho0, ho1, hb⟩
     refine ⟨_, rfl, ?_⟩
     have n4_ := Aside0.mk (Kd.S_lower (Kd.S_new' (Kd.S_new' (Kd.S_new' (Kd.S_new' ho0 (Kd.S_lt (by (with_reducible repeat (first | apply Kd.S_alloc | apply Kd.S_drewN | apply Kd.S_drew)); exact HO430.out))) (Kd.R_lt (R_at HO437.out))) (Kd.S_lt (by (with_reducible repeat (first | apply Kd.S_alloc | apply Kd.S_drewN | apply Kd.S_drew)); exact HO445.out))) (Kd.R_lt (R_at HO452.out))) (below_size bel_now))
     have n5_ := Aside0.mk (Kd.R_lower (Kd.R_new' (Kd.R_new' ho1 (Kd.R_lt (R_at HO437.out))) (Kd.R_lt (R_at HO452.out))) (below_size bel_now))
     replace HO430 := Aside0.mk (Kd.S_mono (Kd.S_told (Kd.S_told (Kd.S_old (by (with_reducible repeat (first | apply Kd.S_alloc | apply Kd.S_drewN | apply Kd.S_drew)); exact HO430.out) hb) (Kd.S_base ho0)) (Kd.R_base ho1)) (fun _ h_ => h_.1))
     replace HO437 := Aside0.mk (Kd.R_elder' (R_at HO437.out) (Kd.R_base ho1) hb)
     replace HO445 := Aside0.mk (Kd.S_mono (Kd.S_told (Kd.S_told (Kd.S_old (by (with_reducible repeat (first | apply Kd.S_alloc | apply Kd.S_drewN | apply Kd.S_drew)); exact HO445.out) hb) (Kd.S_base ho0)) (Kd.R_base ho1)) (fun _ h_ => h_.1))
     replace HO452 := Aside0.mk (Kd.R_elder' (R_at HO452.out) (Kd.R_base ho1) hb)
     replace BK423 := blk_on gb423 hb
     replace BK454 := blk_on gb454 hb
     replace HB := bel_on w hb
     have HO461 := n4_
     have HO468 := n5_
     clear n4_ n5_
     (try clear hb)
     (try clear hb2)
     (try clear hk)
     (try clear hi)
     (try clear ho0)
     (try clear ho1)
     obtain ⟨Ao33, co33, eo33⟩ := Kd.S_slice HO461.out
     (first | subst eo33 | (injection eo33 with f1_ f2_ f3_; have f4_ := f1_.symm; have f5_ := f3_.symm; clear f1_ f2_ f3_; subst f4_; subst f5_))
     obtain ⟨Ao34, co34, eo34⟩ := Kd.R_slice HO468.out
     (first | subst eo34 | (injection eo34 with f1_ f2_ f3_; have f4_ := f1_.symm; have f5_ := f3_.symm; clear f1_ f2_ f3_; subst f4_; subst f5_))
     refine hK.out _ _ ⟨bc BK454 0, bc BK454 1, bc BK454 2, bc BK454 3, bc BK454 4, bc BK454 5, bc BK454 6, bc BK454 7, bc BK454 8, bc BK454 9, bc BK423 0, bc BK423 1, bc BK423 2, bc BK423 3, bc BK423 4, bc BK423 5, bc BK423 6, bc BK423 7, bc BK423 8, bc BK423 9⟩ (fun hHeld => ?_)
     clear hK K
     refine norm_ (a' := ?_) ?_ ?_
     rotate_left
     ·show Act.put _ (some 24) _ = _
      simp only [Act.put, zA, zB, zC, i64_w, i32_w]
      rfl
     refine one_ (i := 3) (N := some 25) #[true, true, true, true, false] rfl rfl (by kernel_rfl) (by decide) (fun K hK => ?_)
     refine goes_ Try.func42 (by kernel_rfl) rfl #[.agg #[.int .i64 t440, .int .i64 t441, .int .i64 t442, .slice Ao28 t443.length co28, .int .i64 t446, .int .i64 t447, .int .i64 t448, .int .i64 t449, .slice Ao29 t450.length co29, .int .i64 t453], .agg #[.int .i64 t456, .int .i64 t457, .int .i64 t458, .slice Ao33 t459.length co33, .int .i64 t462, .int .i64 t463, .int .i64 t464, .int .i64 t465, .slice Ao34 t466.length co34, .int .i64 t469]] (by rfl) rfl rfl (by (try simp only [List.map_toArray, List.map_cons, List.map_nil]); first | done | rfl | (simp only [List.length_drop, List.length_take]; rfl)) ?_
     with_reducible refine (laws_eqJob.calls k t440 t441 t442 _ _ t443 t446 t447 t448 t449 _ _ t450 t453 t456 t457 t458 _ _ t459 t462 t463 t464 t465 _ _ t466 t469 true _ ?side1 ?side2 ?side3 ?side4 ?side5 ?side6 ?side7 ?side8 A13.out).mono ?_
     (case side1 => repeat (first | exact (Kd.S_reads' HO445.out).2.2 | (with_reducible refine Kd.C_alloc ?_ _) | (with_reducible refine Kd.C_drewN ?_ _) | (with_reducible refine Kd.C_drew ?_)))
     (case side2 => exact (Kd.S_reads' HO445.out).2.1)
     (case side3 => exact (Kd.R_reads' (R_at HO452.out)).2.2)
     (case side4 => exact (Kd.R_reads' HO452.out).2.1)
     (case side5 => repeat (first | exact (Kd.S_reads' HO461.out).2.2 | (with_reducible refine Kd.C_alloc ?_ _) | (with_reducible refine Kd.C_drewN ?_ _) | (with_reducible refine Kd.C_drew ?_)))
     (case side6 => exact (Kd.S_reads' HO461.out).2.1)
     (case side7 => exact (Kd.R_reads' (R_at HO468.out)).2.2)
     (case side8 => exact (Kd.R_reads' HO468.out).2.1)
     rintro e w35 ⟨rfl, hb⟩
     refine ⟨_, rfl, ?_⟩
     replace HO430 := Aside0.mk (Kd.S_below (by (with_reducible repeat (first | apply Kd.S_alloc | apply Kd.S_drewN | apply Kd.S_drew)); exact HO430.out) hb)
     replace HO437 := Aside0.mk (Kd.R_below (R_at HO437.out) hb)
     replace HO445 := Aside0.mk (Kd.S_below (by (with_reducible repeat (first | apply Kd.S_alloc | apply Kd.S_drewN | apply Kd.S_drew)); exact HO445.out) hb)
     replace HO452 := Aside0.mk (Kd.R_below (R_at HO452.out) hb)
     replace HO461 := Aside0.mk (Kd.S_below (by (with_reducible repeat (first | apply Kd.S_alloc | apply Kd.S_drewN | apply Kd.S_drew)); exact HO461.out) hb)
     replace HO468 := Aside0.mk (Kd.R_below (R_at HO468.out) hb)
     replace BK423 := blk_on gb423 hb
     replace BK454 := blk_on gb454 hb
     replace HB := bel_on w hb
     (try clear hb)
     (try clear hb2)
     (try clear hk)
     (try clear hi)
     refine hK.out _ _ ⟨bc BK454 0, bc BK454 1, bc BK454 2, bc BK454 3, bc BK454 4, bc BK454 5, bc BK454 6, bc BK454 7, bc BK454 8, bc BK454 9, bc BK423 0, bc BK423 1, bc BK423 2, bc BK423 3, bc BK423 4, bc BK423 5, bc BK423 6, bc BK423 7, bc BK423 8, bc BK423 9⟩ (fun hHeld => ?_)
     clear hK K
     refine norm_ (a' := ?_) ?_ ?_
     rotate_left
     ·show Act.put _ (some 25) _ = _
      simp only [Act.put, zA, zB, zC, i64_w, i32_w]
      rfl
     refine stepP 4 (some 26) (tk 5 31) (by kernel_rfl) ?_
     refine done_ (by kernel_rfl) ?_
     try go_wp2
     go_ret
     exact ⟨eqN, bel_now⟩
    ·replace c14 := Bool.eq_false_iff.mpr c14
     subst c14
     rw [if_neg (show ¬ (false = true) by decide)] at H
     exact absurd H (by decide)

end Go.Proofs.Ytljdcemdhmaahaa.PFnExactJobOk
