-- Printed by the session's own program (wip/myprint.py) for this claim out of the translation. Not trusted: Lean checks it.
import Derived.Test.YtljdcemdhmaahaaPFnExactCostsOfx0
import Derived.Test.YtljdcemdhmaahaaPFnExactCostsOfx1
import Derived.Test.YtljdcemdhmaahaaPFnExactCostsOfx7
import Derived.Test.YtljdcemdhmaahaaPFnExactCostsOfx11
import Derived.Test.YtljdcemdhmaahaaPFnExactCostsOfx12
import Derived.Test.YtljdcemdhmaahaaPFnExactCostsOfx13
namespace Go.Proofs.Ytljdcemdhmaahaa.PFnExactCostsOf
open Go.RowKit Go.Proofs.YtljdcemdhmaahaaW.PrintWords Go.Proofs.YtljdcemdhmaahaaW.PrintLast Go.Proofs.YtljdcemdhmaahaaW.PrintMore
attribute [local go_sem] max2_int min2_int max_two min_two max_three min_three max_four min_four   -- for this text's walks alone
set_option linter.unusedVariables false
set_option linter.unusedSimpArgs false

/-! ### laws_FnExactCostsOf: function 6 -/
def laws_FnExactCostsOf.j0 : Nat → List Int → List Int → Bool → Int → Int → Int → List (S117) → Option (Bool)
  | 0, _, _, _, _, _, _, _ => none
  | k + 1, x4, x6, x42, x351000, x351001, x351002, x351003 => if x42 = true then (some false) else ((laws_markIntS.f k x6 1).bind fun bt381 => ((laws_heldIntS.f k bt381.2 1).bind fun t383 => (if t383 < 0 then (some false) else (if t383 = bt381.1 then ((laws_toModel.f k x351000 x351001 x351002 x351003).bind fun bt384 => ((impl_CostsOf.f k bt384.1 bt384.2.1 bt384.2.2.1 bt384.2.2.2).bind fun t390 => ((laws_eqIntS.f k t390 x4).bind fun t393 => (if t393 = true then ((laws_heldIntS.f k bt381.2 1).bind fun t394 => (if t394 < 0 then (some false) else (if t394 = bt381.1 then (some true) else (some false)))) else (some false))))) else (some false)))))
def laws_FnExactCostsOf.f (k : Nat) (a0_0 : Int) (a0_1 : Int) (a0_2 : Int) (l0_3 : List (S117)) : Option (Bool) := (laws_szModel.f k a0_0 a0_1 a0_2 l0_3 1048576).bind fun t351 => (if t351 < 0 then (some true) else ((laws_toModel.f k a0_0 a0_1 a0_2 l0_3).bind fun bt352 => ((spec_CostsOf.f k bt352.1 bt352.2.1 bt352.2.2.1 bt352.2.2.2).bind fun t358 => ((laws_toModel.f k a0_0 a0_1 a0_2 l0_3).bind fun bt361 => ((impl_CostsOf.f k bt361.1 bt361.2.1 bt361.2.2.1 bt361.2.2.2).bind fun t368 => ((laws_eqIntS.f k t368 t358).bind fun t371 => (if t371 = true then ((laws_toModel.f k a0_0 a0_1 a0_2 l0_3).bind fun bt372 => ((laws_eqModel.f k bt361.1 bt361.2.1 bt361.2.2.1 bt361.2.2.2 bt372.1 bt372.2.1 bt372.2.2.1 bt372.2.2.2).bind fun t378 => (if t378 = true then ((laws_markModel.f bt361.1 bt361.2.1 bt361.2.2.1 bt361.2.2.2 1).bind fun t379 => (if t379 < 0 then (laws_FnExactCostsOf.j0 k t358 t368 true a0_0 a0_1 a0_2 l0_3) else ((laws_eqIntS.f k t368 t358).bind fun t380 => (laws_FnExactCostsOf.j0 k t358 t368 (!t380) a0_0 a0_1 a0_2 l0_3)))) else (some false)))) else (some false))))))))
set_option maxHeartbeats 8000000 in
set_option maxRecDepth 100000 in
theorem laws_FnExactCostsOf.calls (k : Nat) (a0_0 : Int) (a0_1 : Int) (a0_2 : Int) (A0_3 : Option Addr) (c0_3 : Nat) (l0_3 : List (S117)) (w : World) (hr0_3 : Kd.C k117 w A0_3 l0_3.length l0_3) (hc0_3 : l0_3.length ≤ c0_3) (h : laws_FnExactCostsOf.f k a0_0 a0_1 a0_2 l0_3 = some true) :
   Calls Try.prog 6 #[.agg #[.int .i64 a0_0, .int .i64 a0_1, .int .i64 a0_2, .slice A0_3 l0_3.length c0_3]] w fun e w' => e = .returned (.bool true) ∧ Below w.heap.size w w' := by
  have hu42 := Try.underlying42
  have hu28 := Try.underlying28
  have HR0_3 := Aside0.mk hr0_3
  have HC0_3 := Aside0.mk hc0_3
  clear hr0_3 hc0_3
  have HB := Aside0.mk (Below.refl w.heap.size w)
  have H : ((laws_szModel.f k a0_0 a0_1 a0_2 l0_3 1048576).bind fun t351 => (if t351 < 0 then (some true) else ((laws_toModel.f k a0_0 a0_1 a0_2 l0_3).bind fun bt352 => ((spec_CostsOf.f k bt352.1 bt352.2.1 bt352.2.2.1 bt352.2.2.2).bind fun t358 => ((laws_toModel.f k a0_0 a0_1 a0_2 l0_3).bind fun bt361 => ((impl_CostsOf.f k bt361.1 bt361.2.1 bt361.2.2.1 bt361.2.2.2).bind fun t368 => ((laws_eqIntS.f k t368 t358).bind fun t371 => (if t371 = true then ((laws_toModel.f k a0_0 a0_1 a0_2 l0_3).bind fun bt372 => ((laws_eqModel.f k bt361.1 bt361.2.1 bt361.2.2.1 bt361.2.2.2 bt372.1 bt372.2.1 bt372.2.2.1 bt372.2.2.2).bind fun t378 => (if t378 = true then ((laws_markModel.f bt361.1 bt361.2.1 bt361.2.2.1 bt361.2.2.2 1).bind fun t379 => (if t379 < 0 then (laws_FnExactCostsOf.j0 k t358 t368 true a0_0 a0_1 a0_2 l0_3) else ((laws_eqIntS.f k t368 t358).bind fun t380 => (laws_FnExactCostsOf.j0 k t358 t368 (!t380) a0_0 a0_1 a0_2 l0_3)))) else (some false)))) else (some false))))))))) = some true := h
  clear h
  replace H := Option.bind_eq_some_iff.mp H
  obtain ⟨t351, A20, H⟩ := H
  (try dsimp only at H)
  have A2 := Aside0.mk A20
  clear A20
  by_cases c3 : t351 < 0
  ·rw [if_pos c3] at H
   have c3b0 : decide (t351 < 0) = true := decide_eq_true c3
   clear c3
   clear H
   go_enter Try.func6, Try.ntmps6
   go_wp2_with (first | ((with_reducible refine gate_dst (N := 1) rfl ?_); refine boxM 1 #[.int .i64 a0_0, .int .i64 a0_1, .int .i64 a0_2, .slice A0_3 l0_3.length c0_3] 42 ?_; intro gb350 hg w4 BK350 hb; replace HB := box_at w hb hg; obtain ⟨HB, GW350, GE350⟩ := HB; clear hb hg; have hcz5 := cells4 BK350.out) | ((with_reducible refine gate_callee (f := 22) rfl ?_); refine goesM (some 13) rfl rfl Try.func22 (by kernel_rfl) rfl #[.agg #[.int .i64 a0_0, .int .i64 a0_1, .int .i64 a0_2, .slice A0_3 l0_3.length c0_3], .int .i64 1048576] rfl ?_; (with_reducible refine (laws_szModel.calls k a0_0 a0_1 a0_2 _ _ l0_3 1048576 t351 _ ?side1 ?side2 A2.out).mono ?_); (case side1 => exact C_now HR0_3.out); (case side2 => exact HC0_3.out); rintro e w6 ⟨rfl, hb⟩; refine ⟨_, rfl, ?_⟩; replace HB := bel_on w hb; replace BK350 := blk_on gb350 hb; (try clear hb)))
   go_ret
   exact ⟨eqN, bel_now⟩
  rw [if_neg c3] at H
  have c3b0 : decide (t351 < 0) = false := decide_eq_false c3
  clear c3
  replace H := Option.bind_eq_some_iff.mp H
  obtain ⟨⟨t352, t353, t354, t355⟩, A70, H⟩ := H
  (try dsimp only at H)
  have A7 := Aside0.mk A70
  clear A70
  replace H := Option.bind_eq_some_iff.mp H
  obtain ⟨t358, A80, H⟩ := H
  (try dsimp only at H)
  have A8 := Aside0.mk A80
  clear A80
  replace H := Option.bind_eq_some_iff.mp H
  obtain ⟨⟨t361, t362, t363, t364⟩, A90, H⟩ := H
  (try dsimp only at H)
  have A9 := Aside0.mk A90
  clear A90
  replace H := Option.bind_eq_some_iff.mp H
  obtain ⟨t368, A100, H⟩ := H
  (try dsimp only at H)
  have A10 := Aside0.mk A100
  clear A100
  replace H := Option.bind_eq_some_iff.mp H
  obtain ⟨t371, A110, H⟩ := H
  (try dsimp only at H)
  have A11 := Aside0.mk A110
  clear A110
  by_cases c12 : t371 = true
  rotate_left
  ·replace c12 := Bool.eq_false_iff.mpr c12
   subst c12
   rw [if_neg (show ¬ (false = true) by decide)] at H
   exact absurd H (by decide)
  subst c12
  rw [if_pos rfl] at H
  replace H := Option.bind_eq_some_iff.mp H
  obtain ⟨⟨t372, t373, t374, t375⟩, A130, H⟩ := H
  (try dsimp only at H)
  have A13 := Aside0.mk A130
  clear A130
  replace H := Option.bind_eq_some_iff.mp H
  obtain ⟨t378, A140, H⟩ := H
  (try dsimp only at H)
  have A14 := Aside0.mk A140
  clear A140
  by_cases c15 : t378 = true
  rotate_left
  ·replace c15 := Bool.eq_false_iff.mpr c15
   subst c15
   rw [if_neg (show ¬ (false = true) by decide)] at H
   exact absurd H (by decide)
  subst c15
  rw [if_pos rfl] at H
  replace H := Option.bind_eq_some_iff.mp H
  obtain ⟨t379, A160, H⟩ := H
  (try dsimp only at H)
  have A16 := Aside0.mk A160
  clear A160
  have HC17 := Aside0.mk H
  clear H
  go_enter Try.func6, Try.ntmps6
  try go_wp2_with (first | ((with_reducible refine gate_dst (N := 1) rfl ?_); refine boxM 1 #[.int .i64 a0_0, .int .i64 a0_1, .int .i64 a0_2, .slice A0_3 l0_3.length c0_3] 42 ?_; intro gb350 hg w18 BK350 hb; replace HB := box_at w hb hg; obtain ⟨HB, GW350, GE350⟩ := HB; clear hb hg; have hcz19 := cells4 BK350.out) | ((with_reducible refine gate_callee (f := 22) rfl ?_); refine goesM (some 13) rfl rfl Try.func22 (by kernel_rfl) rfl #[.agg #[.int .i64 a0_0, .int .i64 a0_1, .int .i64 a0_2, .slice A0_3 l0_3.length c0_3], .int .i64 1048576] rfl ?_; (with_reducible refine (laws_szModel.calls k a0_0 a0_1 a0_2 _ _ l0_3 1048576 t351 _ ?side1 ?side2 A2.out).mono ?_); (case side1 => exact C_now HR0_3.out); (case side2 => exact HC0_3.out); rintro e w20 ⟨rfl, hb⟩; refine ⟨_, rfl, ?_⟩; replace HB := bel_on w hb; replace BK350 := blk_on gb350 hb; (try clear hb); have hcz21 := cells4 BK350.out) | ((with_reducible refine gate_callee (f := 24) rfl ?_); refine goesM (some 17) rfl rfl Try.func24 (by kernel_rfl) rfl #[.agg #[.int .i64 a0_0, .int .i64 a0_1, .int .i64 a0_2, .slice A0_3 l0_3.length c0_3]] rfl ?_; (with_reducible refine (laws_toModel.calls k a0_0 a0_1 a0_2 _ _ l0_3 t352 t353 t354 t355 _ ?side1 ?side2 A7.out).mono ?_); (case side1 => exact C_now HR0_3.out); (case side2 => exact HC0_3.out); rintro e w22 ⟨v356, rfl, ho0, hb⟩; refine ⟨_, rfl, ?_⟩; have n0_ := Aside0.mk (Kd.S_lower ho0 (below_size bel_now)); replace HB := bel_on w hb; replace BK350 := blk_on gb350 hb; have HO357 := n0_; clear n0_; (try clear hb); (try clear ho0); obtain ⟨Ao23, co23, eo23⟩ := Kd.S_slice HO357.out; subst eo23) | ((with_reducible refine gate_callee (f := 33) rfl ?_); refine goesM (some 18) rfl rfl Try.func33 (by kernel_rfl) rfl #[.agg #[.int .i64 t352, .int .i64 t353, .int .i64 t354, .slice Ao23 t355.length co23]] rfl ?_; (with_reducible refine (spec_CostsOf.calls k t352 t353 t354 _ _ t355 t358 _ ?side1 ?side2 A8.out).mono ?_); (case side1 => repeat (first | exact (Kd.S_reads' HO357.out).2.2 | (with_reducible refine Kd.C_alloc ?_ _) | (with_reducible refine Kd.C_drewN ?_ _) | (with_reducible refine Kd.C_drew ?_))); (case side2 => exact (Kd.S_reads' HO357.out).2.1); rintro e w24 ⟨v359, rfl, ho0, hb⟩; refine ⟨_, rfl, ?_⟩; have n1_ := Aside0.mk (Kd.R_lower ho0 (below_size bel_now)); replace HO357 := Aside0.mk (Kd.S_elder' (by (with_reducible repeat (first | apply Kd.S_alloc | apply Kd.S_drewN | apply Kd.S_drew)); exact HO357.out) (Kd.R_base ho0) hb); replace HB := bel_on w hb; replace BK350 := blk_on gb350 hb; have HO360 := n1_; clear n1_; (try clear hb); (try clear ho0); have hcz25 := cells4 BK350.out) | ((with_reducible refine gate_callee (f := 24) rfl ?_); refine goesM (some 20) rfl rfl Try.func24 (by kernel_rfl) rfl #[.agg #[.int .i64 a0_0, .int .i64 a0_1, .int .i64 a0_2, .slice A0_3 l0_3.length c0_3]] rfl ?_; (with_reducible refine (laws_toModel.calls k a0_0 a0_1 a0_2 _ _ l0_3 t361 t362 t363 t364 _ ?side1 ?side2 A9.out).mono ?_); (case side1 => exact C_now HR0_3.out); (case side2 => exact HC0_3.out); rintro e w26 ⟨v365, rfl, ho0, hb⟩; refine ⟨_, rfl, ?_⟩; have n2_ := Aside0.mk (Kd.S_lower (Kd.S_new' (Kd.S_new' ho0 (Kd.S_lt (by (with_reducible repeat (first | apply Kd.S_alloc | apply Kd.S_drewN | apply Kd.S_drew)); exact HO357.out))) (Kd.R_lt (R_at HO360.out))) (below_size bel_now)); replace HO357 := Aside0.mk (Kd.S_elder' (by (with_reducible repeat (first | apply Kd.S_alloc | apply Kd.S_drewN | apply Kd.S_drew)); exact HO357.out) (Kd.S_base ho0) hb); replace HO360 := Aside0.mk (Kd.R_below (R_at HO360.out) hb); replace HB := bel_on w hb; replace BK350 := blk_on gb350 hb; have HO366 := n2_; clear n2_; (try clear hb); (try clear ho0)) | ((with_reducible refine gate_dst (N := 5) rfl ?_); refine boxM 5 #[.int .i64 0, .int .i64 0, .int .i64 0, .slice none 0 0] 28 ?_; intro gb367 hg w27 BK367 hb; replace HB := box_at w hb hg; obtain ⟨HB, GW367, GE367⟩ := HB; replace BK350 := box_on gb350 hb hg; obtain ⟨BK350, NB350_367, NB367_350⟩ := BK350; replace HO357 := Aside0.mk (Kd.S_below (by (with_reducible repeat (first | apply Kd.S_alloc | apply Kd.S_drewN | apply Kd.S_drew)); exact HO357.out) hb); replace HO360 := Aside0.mk (Kd.R_below (R_at HO360.out) hb); replace HO366 := Aside0.mk (Kd.S_below (by (with_reducible repeat (first | apply Kd.S_alloc | apply Kd.S_drewN | apply Kd.S_drew)); exact HO366.out) hb); clear hb hg; have hn28 := ne2 NB367_350; have hcz29 := cells4 BK367.out; obtain ⟨Ao30, co30, eo30⟩ := Kd.S_slice HO366.out; subst eo30) | ((with_reducible refine gate_callee (f := 34) rfl ?_); refine goesM (some 22) rfl rfl Try.func34 (by kernel_rfl) rfl #[.agg #[.int .i64 t361, .int .i64 t362, .int .i64 t363, .slice Ao30 t364.length co30]] rfl ?_; (with_reducible refine (impl_CostsOf.calls k t361 t362 t363 _ _ t364 t368 _ ?side1 ?side2 A10.out).mono ?_); (case side1 => refine (Kd.S_reads' (e := 73) (base := w.heap.size) (ok := fun k_ => ((True ∧ nb k_ Ao23 t355.length co23) ∧ some k_ ≠ (v359 : Value).ownBlock)) (n := t364.length) (c := co30) ?_).2.2; exact (by (with_reducible repeat (first | apply Kd.S_alloc | apply Kd.S_drewN | apply Kd.S_drew)); exact (Kd.S_mono (Kd.S_far (p := ⟨gb367, 3, none⟩) (Kd.S_far (p := ⟨gb367, 2, none⟩) (Kd.S_far (p := ⟨gb367, 1, none⟩) (Kd.S_far (p := ⟨gb367, 0, none⟩) (Kd.S_types HO366.out BK367.out (by decide)) (fun _ hk => hk.2) (.int .i64 t361)) (fun _ hk => hk.2) (.int .i64 t362)) (fun _ hk => hk.2) (.int .i64 t363)) (fun _ hk => hk.2) (.slice Ao30 t364.length co30)) (fun _ h_ => h_.1)))); (case side2 => exact (Kd.S_reads' HO366.out).2.1); rintro e w31 ⟨v369, rfl, ho0, hb⟩; refine ⟨_, rfl, ?_⟩; have n0_ := Aside0.mk (Kd.S_elder' (by (with_reducible repeat (first | apply Kd.S_alloc | apply Kd.S_drewN | apply Kd.S_drew)); exact (Kd.S_mono (Kd.S_far (p := ⟨gb367, 3, none⟩) (Kd.S_far (p := ⟨gb367, 2, none⟩) (Kd.S_far (p := ⟨gb367, 1, none⟩) (Kd.S_far (p := ⟨gb367, 0, none⟩) (Kd.S_types HO357.out BK367.out (by decide)) (fun _ hk => hk.2) (.int .i64 t361)) (fun _ hk => hk.2) (.int .i64 t362)) (fun _ hk => hk.2) (.int .i64 t363)) (fun _ hk => hk.2) (.slice Ao30 t364.length co30)) (fun _ h_ => h_.1))) (Kd.R_base ho0) hb); have n1_ := Aside0.mk (Kd.R_elder' (R_at (R_far4 HO360.out BK367.out (by decide))) (Kd.R_base ho0) hb); have n2_ := Aside0.mk (Kd.S_elder' (by (with_reducible repeat (first | apply Kd.S_alloc | apply Kd.S_drewN | apply Kd.S_drew)); exact (Kd.S_mono (Kd.S_far (p := ⟨gb367, 3, none⟩) (Kd.S_far (p := ⟨gb367, 2, none⟩) (Kd.S_far (p := ⟨gb367, 1, none⟩) (Kd.S_far (p := ⟨gb367, 0, none⟩) (Kd.S_types HO366.out BK367.out (by decide)) (fun _ hk => hk.2) (.int .i64 t361)) (fun _ hk => hk.2) (.int .i64 t362)) (fun _ hk => hk.2) (.int .i64 t363)) (fun _ hk => hk.2) (.slice Ao30 t364.length co30)) (fun _ h_ => h_.1))) (Kd.R_base ho0) hb); have n3_ := Aside0.mk (Kd.R_lower (Kd.R_new' ho0 (Kd.R_lt (R_at (R_far4 HO360.out BK367.out (by decide))))) (below_size bel_now)); replace HB := bel_on w hb; replace BK350 := Aside0.mk (blk_below (g := gb350) (o := .cells #[.int .i64 a0_0, .int .i64 a0_1, .int .i64 a0_2, .slice A0_3 l0_3.length c0_3] 42 (0, 0)) (blk_fars BK350.out) hb); replace BK367 := Aside0.mk (blk_below (g := gb367) (o := .cells #[.int .i64 t361, .int .i64 t362, .int .i64 t363, .slice Ao30 t364.length co30] 28 (0, 0)) (blk_fars (puts4 BK367.out)) hb); clear HO357 HO360 HO366; have HO357 := n0_; have HO360 := n1_; have HO366 := n2_; have HO370 := n3_; clear n0_ n1_ n2_ n3_; (try clear hb); (try clear hk); (try clear ho0); obtain ⟨Ao32, co32, eo32⟩ := Kd.R_slice HO370.out; subst eo32; obtain ⟨Ao33, co33, eo33⟩ := Kd.R_slice HO360.out; subst eo33) | ((with_reducible refine gate_callee (f := 35) rfl ?_); refine goesM (some 25) rfl rfl Try.func35 (by kernel_rfl) rfl #[.slice Ao32 t368.length co32, .slice Ao33 t358.length co33] rfl ?_; (with_reducible refine (laws_eqIntS.calls k _ _ t368 _ _ t358 true _ ?side1 ?side2 ?side3 ?side4 A11.out).mono ?_); (case side1 => exact (Kd.R_reads' (R_at HO370.out)).2.2); (case side2 => exact (Kd.R_reads' HO370.out).2.1); (case side3 => exact (Kd.R_reads' (R_at HO360.out)).2.2); (case side4 => exact (Kd.R_reads' HO360.out).2.1); rintro e w' ⟨rfl, ⟨nd, rfl⟩⟩; refine ⟨_, rfl, ?_⟩))
  (try (rw [drewN_self w31]; generalize hq_ : World.drewN w31 _ = w31; have n0_ : Aside0 (Kd.S k73 73 w31 w.heap.size (fun k_ => nb k_ Ao33 t358.length co33 ∧ nb k_ Ao30 t364.length co30 ∧ nb k_ Ao32 t368.length co32) (.slice Ao23 t355.length co23) t355) := ⟨by rw [← hq_]; exact (by (with_reducible repeat (first | apply Kd.S_alloc | apply Kd.S_drewN | apply Kd.S_drew)); exact Kd.S_mono HO357.out (fun _ hk => ⟨hk.1.1.2, ⟨hk.1.2, hk.2⟩⟩))⟩; have n1_ : Aside0 (Kd.R (Kd.int .i64) 3 w31 w.heap.size (fun k_ => nb k_ Ao32 t368.length co32) (.slice Ao33 t358.length co33) t358) := ⟨by rw [← hq_]; exact (R_at (Kd.R_mono HO360.out (fun _ hk => by first | exact hk.2 | exact trivial)))⟩; have n2_ : Aside0 (Kd.S k73 73 w31 w.heap.size (fun k_ => nb k_ Ao23 t355.length co23 ∧ nb k_ Ao33 t358.length co33 ∧ nb k_ Ao32 t368.length co32) (.slice Ao30 t364.length co30) t364) := ⟨by rw [← hq_]; exact (by (with_reducible repeat (first | apply Kd.S_alloc | apply Kd.S_drewN | apply Kd.S_drew)); exact Kd.S_mono HO366.out (fun _ hk => ⟨hk.1.1.2, ⟨hk.1.2, hk.2⟩⟩))⟩; have n3_ : Aside0 (Kd.R (Kd.int .i64) 3 w31 w.heap.size (fun k_ => nb k_ Ao33 t358.length co33) (.slice Ao32 t368.length co32) t368) := ⟨by rw [← hq_]; exact (R_at (Kd.R_mono HO370.out (fun _ hk => by first | exact hk.2 | exact trivial)))⟩; have n4_ : Aside0 (w31.heap[gb350]? = some (.cells #[.int .i64 a0_0, .int .i64 a0_1, .int .i64 a0_2, .slice A0_3 l0_3.length c0_3] 42 (0, 0))) := ⟨by rw [← hq_]; exact blk_now⟩; have n5_ : Aside0 (w31.heap[gb367]? = some (.cells #[.int .i64 t361, .int .i64 t362, .int .i64 t363, .slice Ao30 t364.length co30] 28 (0, 0))) := ⟨by rw [← hq_]; exact blk_now⟩; have n6_ : Aside0 (Below w.heap.size w w31) := ⟨by rw [← hq_]; exact bel_now⟩; clear HO357 HO360 HO366 HO370 BK350 BK367 HB hq_; have HO357 := n0_; have HO360 := n1_; have HO366 := n2_; have HO370 := n3_; have BK350 := n4_; have BK367 := n5_; have HB := n6_; clear n0_ n1_ n2_ n3_ n4_ n5_ n6_))
  replace HO357 := Aside0.mk (Kd.S_drew HO357.out)
  replace HO360 := Aside0.mk (Kd.R_drew HO360.out)
  replace HO366 := Aside0.mk (Kd.S_drew HO366.out)
  replace HO370 := Aside0.mk (Kd.R_drew HO370.out)
  replace BK350 := Aside0.mk (blk_drew BK350.out)
  replace BK367 := Aside0.mk (blk_drew BK367.out)
  replace HB := Aside0.mk (below_drew1 HB.out)
  refine start_ (n := 5) (S := fun w' => w'.cell? ⟨gb367, 0, none⟩ = some (.int .i64 t361) ∧ w'.cell? ⟨gb367, 1, none⟩ = some (.int .i64 t362) ∧ w'.cell? ⟨gb367, 2, none⟩ = some (.int .i64 t363) ∧ w'.cell? ⟨gb367, 3, none⟩ = some (.slice Ao30 t364.length co30) ∧ w'.cell? ⟨gb350, 0, none⟩ = some (.int .i64 a0_0) ∧ w'.cell? ⟨gb350, 1, none⟩ = some (.int .i64 a0_1) ∧ w'.cell? ⟨gb350, 2, none⟩ = some (.int .i64 a0_2) ∧ w'.cell? ⟨gb350, 3, none⟩ = some (.slice A0_3 l0_3.length c0_3)) (ds := []) #[false, false, false, false, false] (by kernel_rfl) rfl rfl ⟨bc BK367 0, bc BK367 1, bc BK367 2, bc BK367 3, bc BK350 0, bc BK350 1, bc BK350 2, bc BK350 3⟩ (fun hHeld => ?_)
  generalize w31.drew = w34 at HO357 HO360 HO366 HO370 BK350 BK367 HB hHeld ⊢
  refine stepT 0 (some 27) (tk 5 1) (by kernel_rfl) hHeld ?_
  refine stepT 1 (some 28) (tk 5 3) (by kernel_rfl) hHeld ?_
  refine one_ (i := 2) (N := some 29) #[true, true, true, false, false] rfl rfl (by kernel_rfl) (by decide) (fun K hK => ?_)
  refine goes_ Try.func24 (by kernel_rfl) rfl #[.agg #[.int .i64 a0_0, .int .i64 a0_1, .int .i64 a0_2, .slice A0_3 l0_3.length c0_3]] (by rfl) rfl rfl (by (try simp only [List.map_toArray, List.map_cons, List.map_nil]); first | done | rfl | (simp only [List.length_drop, List.length_take]; rfl)) ?_
  with_reducible refine (laws_toModel.calls k a0_0 a0_1 a0_2 _ _ l0_3 t372 t373 t374 t375 _ ?side1 ?side2 A13.out).mono ?_
  (case side1 => exact C_now HR0_3.out)
  (case side2 => exact HC0_3.out)
  rintro e w35 ⟨v376, rfl, ho0, hb⟩
  refine ⟨_, rfl, ?_⟩
  have n4_ := Aside0.mk (Kd.S_lower (Kd.S_new' (Kd.S_new' (Kd.S_new' (Kd.S_new' ho0 (Kd.S_lt (by (with_reducible repeat (first | apply Kd.S_alloc | apply Kd.S_drewN | apply Kd.S_drew)); exact HO357.out))) (Kd.R_lt (R_at HO360.out))) (Kd.S_lt (by (with_reducible repeat (first | apply Kd.S_alloc | apply Kd.S_drewN | apply Kd.S_drew)); exact HO366.out))) (Kd.R_lt (R_at HO370.out))) (below_size bel_now))
  replace HO357 := Aside0.mk (Kd.S_elder' (by (with_reducible repeat (first | apply Kd.S_alloc | apply Kd.S_drewN | apply Kd.S_drew)); exact HO357.out) (Kd.S_base ho0) hb)
  replace HO360 := Aside0.mk (Kd.R_below (R_at HO360.out) hb)
  replace HO366 := Aside0.mk (Kd.S_elder' (by (with_reducible repeat (first | apply Kd.S_alloc | apply Kd.S_drewN | apply Kd.S_drew)); exact HO366.out) (Kd.S_base ho0) hb)
  replace HO370 := Aside0.mk (Kd.R_below (R_at HO370.out) hb)
  replace BK350 := blk_on gb350 hb
  replace BK367 := blk_on gb367 hb
  replace HB := bel_on w hb
  have HO377 := n4_
  clear n4_
  (try clear hb)
  (try clear ho0)
  obtain ⟨Ao36, co36, eo36⟩ := Kd.S_slice HO377.out
  (first | subst eo36 | (injection eo36 with f1_ f2_ f3_; have f4_ := f1_.symm; have f5_ := f3_.symm; clear f1_ f2_ f3_; subst f4_; subst f5_))
  refine hK.out _ _ ⟨bc BK367 0, bc BK367 1, bc BK367 2, bc BK367 3, bc BK350 0, bc BK350 1, bc BK350 2, bc BK350 3⟩ (fun hHeld => ?_)
  clear hK K
  refine normP 29 ?_
  refine one_ (i := 3) (N := some 30) #[true, true, true, true, false] rfl rfl (by kernel_rfl) (by decide) (fun K hK => ?_)
  refine goes_ Try.func27 (by kernel_rfl) rfl #[.agg #[.int .i64 t361, .int .i64 t362, .int .i64 t363, .slice Ao30 t364.length co30], .agg #[.int .i64 t372, .int .i64 t373, .int .i64 t374, .slice Ao36 t375.length co36]] (by rfl) rfl rfl (by (try simp only [List.map_toArray, List.map_cons, List.map_nil]); first | done | rfl | (simp only [List.length_drop, List.length_take]; rfl)) ?_
  with_reducible refine (laws_eqModel.calls k t361 t362 t363 _ _ t364 t372 t373 t374 _ _ t375 true _ ?side1 ?side2 ?side3 ?side4 A14.out).mono ?_
  (case side1 => repeat (first | exact (Kd.S_reads' HO366.out).2.2 | (with_reducible refine Kd.C_alloc ?_ _) | (with_reducible refine Kd.C_drewN ?_ _) | (with_reducible refine Kd.C_drew ?_)))
  (case side2 => exact (Kd.S_reads' HO366.out).2.1)
  (case side3 => repeat (first | exact (Kd.S_reads' HO377.out).2.2 | (with_reducible refine Kd.C_alloc ?_ _) | (with_reducible refine Kd.C_drewN ?_ _) | (with_reducible refine Kd.C_drew ?_)))
  (case side4 => exact (Kd.S_reads' HO377.out).2.1)
  rintro e w37 ⟨rfl, hb⟩
  refine ⟨_, rfl, ?_⟩
  replace HO357 := Aside0.mk (Kd.S_below (by (with_reducible repeat (first | apply Kd.S_alloc | apply Kd.S_drewN | apply Kd.S_drew)); exact HO357.out) hb)
  replace HO360 := Aside0.mk (Kd.R_below (R_at HO360.out) hb)
  replace HO366 := Aside0.mk (Kd.S_below (by (with_reducible repeat (first | apply Kd.S_alloc | apply Kd.S_drewN | apply Kd.S_drew)); exact HO366.out) hb)
  replace HO370 := Aside0.mk (Kd.R_below (R_at HO370.out) hb)
  replace HO377 := Aside0.mk (Kd.S_below (by (with_reducible repeat (first | apply Kd.S_alloc | apply Kd.S_drewN | apply Kd.S_drew)); exact HO377.out) hb)
  replace BK350 := blk_on gb350 hb
  replace BK367 := blk_on gb367 hb
  replace HB := bel_on w hb
  (try clear hb)
  refine hK.out _ _ ⟨bc BK367 0, bc BK367 1, bc BK367 2, bc BK367 3, bc BK350 0, bc BK350 1, bc BK350 2, bc BK350 3⟩ (fun hHeld => ?_)
  clear hK K
  refine normP 30 ?_
  refine stepP 4 (some 31) (tk 5 31) (by kernel_rfl) ?_
  refine done_ (by kernel_rfl) ?_
  have hcz38 := cells4 BK367.out
  go_upto_region 14 with (first | ((with_reducible refine gate_callee (f := 28) rfl ?_); refine goesM (some 34) rfl rfl Try.func28 (by kernel_rfl) rfl #[.agg #[.int .i64 t361, .int .i64 t362, .int .i64 t363, .slice Ao30 t364.length co30], .int .i64 1] rfl ?_; (with_reducible refine (laws_markModel.calls t361 t362 t363 (fun k_ => ((((((True ∧ nb k_ Ao23 t355.length co23) ∧ nb k_ Ao33 t358.length co33) ∧ nb k_ Ao32 t368.length co32) ∧ nb k_ Ao36 t375.length co36) ∧ k_ ≠ gb350) ∧ k_ ≠ gb367)) (.slice Ao30 t364.length co30) t364 1 t379 w _ ?side1 ?side2 A16.out).mono ?_); (case side1 => exact bel_now); (case side2 => exact Kd.S_mono (Kd.S_types (Kd.S_types (HO366.out) BK350.out (by decide)) BK367.out (by decide)) (fun k_ hk_ => by first | exact hk_ | (simp only [and_assoc, true_and] at hk_ ⊢; exact hk_))); rintro e w39 ⟨rfl, hb, hkp⟩; refine ⟨_, rfl, ?_⟩; have n0_ := Aside0.mk (blk_kept blk_now hkp (fun hs_ => (fun e_ => (e_.1.2) rfl) hs_)); have n1_ := Aside0.mk (Kd.R_mono (ok' := fun k_ => nb k_ Ao32 t368.length co32) (Kd.R_keptB ((Kd.R_mono (ok' := fun k_ => (True ∧ nb k_ Ao32 t368.length co32) ∧ ¬ ((((((True ∧ nb k_ Ao23 t355.length co23) ∧ nb k_ Ao33 t358.length co33) ∧ nb k_ Ao32 t368.length co32) ∧ nb k_ Ao36 t375.length co36) ∧ k_ ≠ gb350) ∧ k_ ≠ gb367)) (Kd.R_tight2 rfl HO360.out) (fun k_ hk => ⟨by first | exact hk.2 | (have h_ := hk.2; simp only [and_assoc, true_and] at h_ ⊢; exact h_), fun hp_ => (hp_.1.1.1.1.2) hk.1⟩))) hkp (fun k_ hk_ hs_ => (fun e_ => (hk_.2) e_) hs_)) (fun k_ hk_ => hk_.1.1.2)); have n2_ := Aside0.mk (blk_kept blk_now hkp (fun hs_ => (fun e_ => (e_.2) rfl) hs_)); have n3_ := Aside0.mk (Kd.R_mono (ok' := fun k_ => nb k_ Ao33 t358.length co33) (Kd.R_keptB ((Kd.R_mono (ok' := fun k_ => (True ∧ nb k_ Ao33 t358.length co33) ∧ ¬ ((((((True ∧ nb k_ Ao23 t355.length co23) ∧ nb k_ Ao33 t358.length co33) ∧ nb k_ Ao32 t368.length co32) ∧ nb k_ Ao36 t375.length co36) ∧ k_ ≠ gb350) ∧ k_ ≠ gb367)) (Kd.R_tight2 rfl HO370.out) (fun k_ hk => ⟨by first | exact hk.2 | (have h_ := hk.2; simp only [and_assoc, true_and] at h_ ⊢; exact h_), fun hp_ => (hp_.1.1.1.2) hk.1⟩))) hkp (fun k_ hk_ hs_ => (fun e_ => (hk_.2) e_) hs_)) (fun k_ hk_ => hk_.1.1.2)); have n4_ := Aside0.mk (hb); clear BK350; clear HO360; clear BK367; clear HO370; clear HB; clear HO357; clear HO366; clear HO377; have BK350 := n0_; have HO360 := n1_; have BK367 := n2_; have HO370 := n3_; have HB := n4_; clear n0_ n1_ n2_ n3_ n4_; (try clear hb); (try clear hkp)))
  (try simp only [Act.put, zA, zB, zC])
  go_cut [42] (fun v42 wc => ∃ (kq : Nat) (x42_16 : Bool), v42 = .bool x42_16 ∧ Aside0 (laws_FnExactCostsOf.j0 kq t358 t368 x42_16 a0_0 a0_1 a0_2 l0_3 = some true) ∧ Aside0 (kq ≤ k) ∧ Aside0 (Kd.R (Kd.int .i64) 3 wc w.heap.size (fun k_ => some k_ ≠ ((.slice Ao32 t368.length co32) : Value).ownBlock) (.slice Ao33 t358.length co33) t358) ∧ Aside0 (Kd.R (Kd.int .i64) 3 wc w.heap.size (fun k_ => some k_ ≠ ((.slice Ao33 t358.length co33) : Value).ownBlock) (.slice Ao32 t368.length co32) t368) ∧ Aside0 (wc.heap[gb350]? = some (.cells #[.int .i64 a0_0, .int .i64 a0_1, .int .i64 a0_2, (.slice A0_3 l0_3.length c0_3)] 42 (0, 0))) ∧ Aside0 (Below w.heap.size w wc))
  case first =>
   have H := HC17.out
   clear HC17
   by_cases c40 : t379 < 0
   ·rw [if_pos c40] at H
    have c40b0 : decide (t379 < 0) = true := decide_eq_true c40
    clear c40
    (first | rw [c40b0] | (simp only [i64_w, i32_w]; rw [c40b0]) | skip)
    have H' := Aside0.mk H
    clear H
    go_wp2
    go_meet
    case rel => exact ⟨_, (true), (by first | rfl | (simp; done) | (simp [*]; done)), H', ⟨by first | omega | exact Nat.le_refl _⟩, ⟨by (with_reducible repeat (first | apply Kd.R_alloc | apply Kd.R_drewN | apply Kd.R_drew)); exact HO360.out⟩, ⟨by (with_reducible repeat (first | apply Kd.R_alloc | apply Kd.R_drewN | apply Kd.R_drew)); exact HO370.out⟩, ⟨bks BK350⟩, ⟨bel_now⟩⟩
   rw [if_neg c40] at H
   have c40b0 : decide (t379 < 0) = false := decide_eq_false c40
   clear c40
   (first | rw [c40b0] | (simp only [i64_w, i32_w]; rw [c40b0]) | skip)
   replace H := Option.bind_eq_some_iff.mp H
   obtain ⟨t380, A410, H⟩ := H
   (try dsimp only at H)
   have A41 := Aside0.mk A410
   clear A410
   have H' := Aside0.mk H
   clear H
   go_wp2_with (first | (go_at_call 35; (with_reducible refine (laws_eqIntS.calls k _ _ t368 _ _ t358 t380 _ ?side1 ?side2 ?side3 ?side4 A41.out).mono ?_); (case side1 => exact (Kd.R_reads' (R_at HO370.out)).2.2); (case side2 => exact (Kd.R_reads' HO370.out).2.1); (case side3 => exact (Kd.R_reads' (R_at HO360.out)).2.2); (case side4 => exact (Kd.R_reads' HO360.out).2.1); rintro e w' ⟨rfl, ⟨nd, rfl⟩⟩))
   go_meet
   case rel => exact ⟨_, (!t380), (by first | rfl | (simp; done) | (simp [*]; done)), H', ⟨by first | omega | exact Nat.le_refl _⟩, ⟨by (with_reducible repeat (first | apply Kd.R_alloc | apply Kd.R_drewN | apply Kd.R_drew)); exact HO360.out⟩, ⟨by (with_reducible repeat (first | apply Kd.R_alloc | apply Kd.R_drewN | apply Kd.R_drew)); exact HO370.out⟩, ⟨bks BK350⟩, ⟨bel_now⟩⟩
  case rest =>
   clear HC17
   try clear c1
   try clear c2
   try clear p2
   try clear c3
   try clear c3b0
   try clear c4
   try clear c6
   try clear c12
   try clear c15
   try clear c22
   try clear c24
   try clear c27
   try clear c28
   try clear c33
   try clear c34
   try clear c35
   try clear c40
   try clear c40b0
   try clear hcz19
   try clear hcz21
   try clear hcz25
   try clear hcz29
   try clear hcz38
   try clear hcz5
   obtain ⟨kq, x42_16, rfl, HA, HJ16, HO_4, HO_6, BK350, HB⟩ := hcut
   cases kq with
   | zero => exact absurd HA.out (by simp [laws_FnExactCostsOf.j0])
   | succ kj16 =>
    have H := HA.out
    clear HA
    simp only [laws_FnExactCostsOf.j0] at H
    by_cases c42 : x42_16 = true
    ·subst c42
     rw [if_pos rfl] at H
     exact absurd H (by decide)
    replace c42 := Bool.eq_false_iff.mpr c42
    subst c42
    rw [if_neg (show ¬ (false = true) by decide)] at H
    replace H := Option.bind_eq_some_iff.mp H
    obtain ⟨⟨t381, t382⟩, A430, H⟩ := H
    (try dsimp only at H)
    have A43 := Aside0.mk A430
    clear A430
    replace H := Option.bind_eq_some_iff.mp H
    obtain ⟨t383, A440, H⟩ := H
    (try dsimp only at H)
    have A44 := Aside0.mk A440
    clear A440
    by_cases c45 : t383 < 0
    ·rw [if_pos c45] at H
     have c45b0 : decide (t383 < 0) = true := decide_eq_true c45
     clear c45
     exact absurd H (by decide)
    rw [if_neg c45] at H
    have c45b0 : decide (t383 < 0) = false := decide_eq_false c45
    clear c45
    by_cases c46 : t383 = t381
    rotate_left
    ·rw [if_neg c46] at H
     have c46b0 : (t383 == t381) = false := beq_eq_false_iff_ne.mpr c46
     have c46b1 : (t383 != t381) = true := bne_iff_ne.mpr c46
     exact absurd H (by decide)
    rw [if_pos c46] at H
    have c46b0 : (t383 == t381) = true := beq_iff_eq.mpr c46
    have c46b1 : (t383 != t381) = false := bne_eq_false_iff_eq.mpr c46
    clear c46
    replace H := Option.bind_eq_some_iff.mp H
    obtain ⟨⟨t384, t385, t386, t387⟩, A470, H⟩ := H
    (try dsimp only at H)
    have A47 := Aside0.mk A470
    clear A470
    replace H := Option.bind_eq_some_iff.mp H
    obtain ⟨t390, A480, H⟩ := H
    (try dsimp only at H)
    have A48 := Aside0.mk A480
    clear A480
    replace H := Option.bind_eq_some_iff.mp H
    obtain ⟨t393, A490, H⟩ := H
    (try dsimp only at H)
    have A49 := Aside0.mk A490
    clear A490
    by_cases c50 : t393 = true
    rotate_left
    ·replace c50 := Bool.eq_false_iff.mpr c50
     subst c50
     rw [if_neg (show ¬ (false = true) by decide)] at H
     exact absurd H (by decide)
    subst c50
    rw [if_pos rfl] at H
    replace H := Option.bind_eq_some_iff.mp H
    obtain ⟨t394, A510, H⟩ := H
    (try dsimp only at H)
    have A51 := Aside0.mk A510
    clear A510
    by_cases c52 : t394 < 0
    ·rw [if_pos c52] at H
     have c52b0 : decide (t394 < 0) = true := decide_eq_true c52
     clear c52
     exact absurd H (by decide)
    rw [if_neg c52] at H
    have c52b0 : decide (t394 < 0) = false := decide_eq_false c52
    clear c52
    by_cases c53 : t394 = t381
    rotate_left
    ·rw [if_neg c53] at H
     have c53b0 : (t394 == t381) = false := beq_eq_false_iff_ne.mpr c53
     have c53b1 : (t394 != t381) = true := bne_iff_ne.mpr c53
     exact absurd H (by decide)
    rw [if_pos c53] at H
    have c53b0 : (t394 == t381) = true := beq_iff_eq.mpr c53
    have c53b1 : (t394 != t381) = false := bne_eq_false_iff_eq.mpr c53
    clear c53
    clear H
    go_wp2_with (first | ((with_reducible refine gate_callee (f := 36) rfl ?_); refine goesM (some 45) rfl rfl Try.func36 (by kernel_rfl) rfl #[.slice Ao32 t368.length co32, .int .i64 1] rfl ?_; (with_reducible refine (laws_markIntS.calls kj16 (fun k_ => some k_ = (.slice Ao32 t368.length co32 : Value).ownBlock) (.slice Ao32 t368.length co32) t368 1 t381 t382 w _ ?side1 ?side2 A43.out).mono ?_); (case side1 => exact bel_now); (case side2 => exact Kd.R_tight rfl HO_6.out); rintro e w54 ⟨rfl, hy0, hb, hkp⟩; refine ⟨_, rfl, ?_⟩; have n0_ := Aside0.mk (Kd.R_mono (ok' := fun k_ => nb k_ Ao32 t368.length co32) (Kd.R_keptB (HO_4.out) hkp (fun k_ hk_ hs_ => (hk_) hs_)) (fun k_ hk_ => hk_.1)); have n1_ := Aside0.mk (Kd.R_reok rfl hy0 (fun k_ e_ => HO_6.out.1 k_ e_)); have n2_ := Aside0.mk (blk_kept blk_now hkp (fun hs_ => (fun e_ => (Kd.R_ne HO_6.out BK350.out (by decide)) e_) hs_)); have n3_ := Aside0.mk (hb); clear HO_4; clear HO_6; clear BK350; clear HB; have HO_4 := n0_; have HO_6 := n1_; have BK350 := n2_; have HB := n3_; clear n0_ n1_ n2_ n3_; (try clear hb); (try clear hkp); (try clear hy0)) | ((with_reducible refine gate_callee (f := 37) rfl ?_); refine goesL_ (some 48) rfl rfl Try.func37 (by kernel_rfl) rfl #[.slice Ao32 t382.length co32, .int .i64 1] rfl (by (try simp only [List.map_toArray, List.map_cons, List.map_nil]); first | done | (rw [show t382.length = t368.length from (Kd.R_reads' HO_6.out).1.symm] <;> rfl) | rfl | (simp only [List.length_drop, List.length_take]; rfl)) ?_; (with_reducible refine (laws_heldIntS.calls kj16 _ _ t382 1 t383 _ ?side1 ?side2 A44.out).mono ?_); (case side1 => exact (Kd.R_reads' (R_at HO_6.out)).2.2); (case side2 => rw [show t382.length = t368.length from (Kd.R_reads' HO_6.out).1.symm]; exact (Kd.R_reads' HO_6.out).2.1); rintro e w' ⟨rfl, ⟨nd, rfl⟩⟩; refine ⟨_, rfl, ?_⟩; have hcz55 := cells4 BK350.out) | ((with_reducible refine gate_callee (f := 24) rfl ?_); refine goesM (some 55) rfl rfl Try.func24 (by kernel_rfl) rfl #[.agg #[.int .i64 a0_0, .int .i64 a0_1, .int .i64 a0_2, .slice A0_3 l0_3.length c0_3]] rfl ?_; (with_reducible refine (laws_toModel.calls kj16 a0_0 a0_1 a0_2 _ _ l0_3 t384 t385 t386 t387 _ ?side1 ?side2 A47.out).mono ?_); (case side1 => exact C_now HR0_3.out); (case side2 => exact HC0_3.out); rintro e w56 ⟨v388, rfl, ho0, hb⟩; refine ⟨_, rfl, ?_⟩; have n2_ := Aside0.mk (Kd.S_lower (Kd.S_new' (Kd.S_new' ho0 (Kd.R_lt (R_at HO_4.out))) (Kd.R_lt (R_at HO_6.out))) (below_size bel_now)); replace HO_4 := Aside0.mk (Kd.R_below (R_at HO_4.out) hb); replace HO_6 := Aside0.mk (Kd.R_below (R_at HO_6.out) hb); replace HB := bel_on w hb; replace BK350 := blk_on gb350 hb; have HO389 := n2_; clear n2_; (try clear hb); (try clear ho0); obtain ⟨Ao57, co57, eo57⟩ := Kd.S_slice HO389.out; subst eo57) | ((with_reducible refine gate_callee (f := 34) rfl ?_); refine goesM (some 56) rfl rfl Try.func34 (by kernel_rfl) rfl #[.agg #[.int .i64 t384, .int .i64 t385, .int .i64 t386, .slice Ao57 t387.length co57]] rfl ?_; (with_reducible refine (impl_CostsOf.calls kj16 t384 t385 t386 _ _ t387 t390 _ ?side1 ?side2 A48.out).mono ?_); (case side1 => repeat (first | exact (Kd.S_reads' HO389.out).2.2 | (with_reducible refine Kd.C_alloc ?_ _) | (with_reducible refine Kd.C_drewN ?_ _) | (with_reducible refine Kd.C_drew ?_))); (case side2 => exact (Kd.S_reads' HO389.out).2.1); rintro e w58 ⟨v391, rfl, ho0, hb⟩; refine ⟨_, rfl, ?_⟩; have n3_ := Aside0.mk (Kd.R_lower (Kd.R_new' (Kd.R_new' ho0 (Kd.R_lt (R_at HO_4.out))) (Kd.R_lt (R_at HO_6.out))) (below_size bel_now)); replace HO_4 := Aside0.mk (Kd.R_elder' (R_at HO_4.out) (Kd.R_base ho0) hb); replace HO_6 := Aside0.mk (Kd.R_elder' (R_at HO_6.out) (Kd.R_base ho0) hb); replace HO389 := Aside0.mk (Kd.S_elder' (by (with_reducible repeat (first | apply Kd.S_alloc | apply Kd.S_drewN | apply Kd.S_drew)); exact HO389.out) (Kd.R_base ho0) hb); replace HB := bel_on w hb; replace BK350 := blk_on gb350 hb; have HO392 := n3_; clear n3_; (try clear hb); (try clear ho0); obtain ⟨Ao59, co59, eo59⟩ := Kd.R_slice HO392.out; subst eo59) | ((with_reducible refine gate_callee (f := 35) rfl ?_); refine goesM (some 59) rfl rfl Try.func35 (by kernel_rfl) rfl #[.slice Ao59 t390.length co59, .slice Ao33 t358.length co33] rfl ?_; (with_reducible refine (laws_eqIntS.calls kj16 _ _ t390 _ _ t358 true _ ?side1 ?side2 ?side3 ?side4 A49.out).mono ?_); (case side1 => exact (Kd.R_reads' (R_at HO392.out)).2.2); (case side2 => exact (Kd.R_reads' HO392.out).2.1); (case side3 => exact (Kd.R_reads' (R_at HO_4.out)).2.2); (case side4 => exact (Kd.R_reads' HO_4.out).2.1); rintro e w' ⟨rfl, ⟨nd, rfl⟩⟩; refine ⟨_, rfl, ?_⟩) | ((with_reducible refine gate_callee (f := 37) rfl ?_); refine goesL_ (some 63) rfl rfl Try.func37 (by kernel_rfl) rfl #[.slice Ao32 t382.length co32, .int .i64 1] rfl (by (try simp only [List.map_toArray, List.map_cons, List.map_nil]); first | done | (rw [show t382.length = t368.length from (Kd.R_reads' HO_6.out).1.symm] <;> rfl) | rfl | (simp only [List.length_drop, List.length_take]; rfl)) ?_; (with_reducible refine (laws_heldIntS.calls kj16 _ _ t382 1 t394 _ ?side1 ?side2 A51.out).mono ?_); (case side1 => exact (Kd.R_reads' (R_at HO_6.out)).2.2); (case side2 => rw [show t382.length = t368.length from (Kd.R_reads' HO_6.out).1.symm]; exact (Kd.R_reads' HO_6.out).2.1); rintro e w' ⟨rfl, ⟨nd, rfl⟩⟩; refine ⟨_, rfl, ?_⟩))
    go_ret
    exact ⟨eqN, bel_now⟩

end Go.Proofs.Ytljdcemdhmaahaa.PFnExactCostsOf
