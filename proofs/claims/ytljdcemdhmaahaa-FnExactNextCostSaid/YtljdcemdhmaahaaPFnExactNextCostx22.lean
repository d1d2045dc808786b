-- Printed by the session's own program (wip/myprint.py) for this claim out of the translation. Not trusted: Lean checks it.
import Derived.Test.YtljdcemdhmaahaaPFnExactNextCostx0
import Derived.Test.YtljdcemdhmaahaaPFnExactNextCostx2
import Derived.Test.YtljdcemdhmaahaaPFnExactNextCostx12
import Derived.Test.YtljdcemdhmaahaaPFnExactNextCostx20
import Derived.Test.YtljdcemdhmaahaaPFnExactNextCostx21
namespace Go.Proofs.Ytljdcemdhmaahaa.PFnExactNextCost
open Go.RowKit Go.Proofs.YtljdcemdhmaahaaW.PrintWords Go.Proofs.YtljdcemdhmaahaaW.PrintLast Go.Proofs.YtljdcemdhmaahaaW.PrintMore
attribute [local go_sem] max2_int min2_int max_two min_two max_three min_three max_four min_four   -- for this text's walks alone
set_option linter.unusedVariables false
set_option linter.unusedSimpArgs false

/-! ### laws_FnExactNextCost: function 11 -/
def laws_FnExactNextCost.f (k : Nat) (a0_0 : Int) (a0_1 : Int) (a0_2 : Int) (l0_3 : List (S117)) (a0_4 : Int) (a0_5 : Int) (a0_6 : Int) (a0_7 : Int) (l0_8 : List Int) (a0_9 : Int) : Option (Bool) := (laws_szJob.f k a0_0 a0_1 a0_2 l0_3 a0_4 a0_5 a0_6 a0_7 l0_8 a0_9 1048576).bind fun t454 => (if t454 < 0 then (some true) else ((laws_toJob.f k a0_0 a0_1 a0_2 l0_3 a0_4 a0_5 a0_6 a0_7 l0_8 a0_9).bind fun bt455 => ((spec_NextCost.f k bt455.1 bt455.2.1 bt455.2.2.1 bt455.2.2.2.1 bt455.2.2.2.2.1 bt455.2.2.2.2.2.1 bt455.2.2.2.2.2.2.1 bt455.2.2.2.2.2.2.2.1 bt455.2.2.2.2.2.2.2.2.1 bt455.2.2.2.2.2.2.2.2.2).bind fun t469 => ((laws_toJob.f k a0_0 a0_1 a0_2 l0_3 a0_4 a0_5 a0_6 a0_7 l0_8 a0_9).bind fun bt470 => ((impl_NextCost.f k bt470.1 bt470.2.1 bt470.2.2.1 bt470.2.2.2.1 bt470.2.2.2.2.1 bt470.2.2.2.2.2.1 bt470.2.2.2.2.2.2.1 bt470.2.2.2.2.2.2.2.1 bt470.2.2.2.2.2.2.2.2.1 bt470.2.2.2.2.2.2.2.2.2).bind fun t485 => (if t485 = t469 then ((laws_toJob.f k a0_0 a0_1 a0_2 l0_3 a0_4 a0_5 a0_6 a0_7 l0_8 a0_9).bind fun bt486 => ((laws_eqJob.f k bt470.1 bt470.2.1 bt470.2.2.1 bt470.2.2.2.1 bt470.2.2.2.2.1 bt470.2.2.2.2.2.1 bt470.2.2.2.2.2.2.1 bt470.2.2.2.2.2.2.2.1 bt470.2.2.2.2.2.2.2.2.1 bt470.2.2.2.2.2.2.2.2.2 bt486.1 bt486.2.1 bt486.2.2.1 bt486.2.2.2.1 bt486.2.2.2.2.1 bt486.2.2.2.2.2.1 bt486.2.2.2.2.2.2.1 bt486.2.2.2.2.2.2.2.1 bt486.2.2.2.2.2.2.2.2.1 bt486.2.2.2.2.2.2.2.2.2).bind fun t500 => (if t500 = true then (some true) else (some false)))) else (some false)))))))
set_option maxHeartbeats 8000000 in
set_option maxRecDepth 100000 in
theorem laws_FnExactNextCost.calls (k : Nat) (a0_0 : Int) (a0_1 : Int) (a0_2 : Int) (A0_3 : Option Addr) (c0_3 : Nat) (l0_3 : List (S117)) (a0_4 : Int) (a0_5 : Int) (a0_6 : Int) (a0_7 : Int) (A0_8 : Option Addr) (c0_8 : Nat) (l0_8 : List Int) (a0_9 : Int) (w : World) (hr0_3 : Kd.C k117 w A0_3 l0_3.length l0_3) (hc0_3 : l0_3.length ≤ c0_3) (hr0_8 : Kd.C (Kd.int .i64) w A0_8 l0_8.length l0_8) (hc0_8 : l0_8.length ≤ c0_8) (h : laws_FnExactNextCost.f k a0_0 a0_1 a0_2 l0_3 a0_4 a0_5 a0_6 a0_7 l0_8 a0_9 = some true) :
   Calls Try.prog 11 #[.agg #[.int .i64 a0_0, .int .i64 a0_1, .int .i64 a0_2, .slice A0_3 l0_3.length c0_3, .int .i64 a0_4, .int .i64 a0_5, .int .i64 a0_6, .int .i64 a0_7, .slice A0_8 l0_8.length c0_8, .int .i64 a0_9]] w fun e w' => e = .returned (.bool true) ∧ Below w.heap.size w w' := by
  have hu58 := Try.underlying58
  have hu64 := Try.underlying64
  have HR0_3 := Aside0.mk hr0_3
  have HC0_3 := Aside0.mk hc0_3
  clear hr0_3 hc0_3
  have HR0_8 := Aside0.mk hr0_8
  have HC0_8 := Aside0.mk hc0_8
  clear hr0_8 hc0_8
  have HB := Aside0.mk (Below.refl w.heap.size w)
  have H : ((laws_szJob.f k a0_0 a0_1 a0_2 l0_3 a0_4 a0_5 a0_6 a0_7 l0_8 a0_9 1048576).bind fun t454 => (if t454 < 0 then (some true) else ((laws_toJob.f k a0_0 a0_1 a0_2 l0_3 a0_4 a0_5 a0_6 a0_7 l0_8 a0_9).bind fun bt455 => ((spec_NextCost.f k bt455.1 bt455.2.1 bt455.2.2.1 bt455.2.2.2.1 bt455.2.2.2.2.1 bt455.2.2.2.2.2.1 bt455.2.2.2.2.2.2.1 bt455.2.2.2.2.2.2.2.1 bt455.2.2.2.2.2.2.2.2.1 bt455.2.2.2.2.2.2.2.2.2).bind fun t469 => ((laws_toJob.f k a0_0 a0_1 a0_2 l0_3 a0_4 a0_5 a0_6 a0_7 l0_8 a0_9).bind fun bt470 => ((impl_NextCost.f k bt470.1 bt470.2.1 bt470.2.2.1 bt470.2.2.2.1 bt470.2.2.2.2.1 bt470.2.2.2.2.2.1 bt470.2.2.2.2.2.2.1 bt470.2.2.2.2.2.2.2.1 bt470.2.2.2.2.2.2.2.2.1 bt470.2.2.2.2.2.2.2.2.2).bind fun t485 => (if t485 = t469 then ((laws_toJob.f k a0_0 a0_1 a0_2 l0_3 a0_4 a0_5 a0_6 a0_7 l0_8 a0_9).bind fun bt486 => ((laws_eqJob.f k bt470.1 bt470.2.1 bt470.2.2.1 bt470.2.2.2.1 bt470.2.2.2.2.1 bt470.2.2.2.2.2.1 bt470.2.2.2.2.2.2.1 bt470.2.2.2.2.2.2.2.1 bt470.2.2.2.2.2.2.2.2.1 bt470.2.2.2.2.2.2.2.2.2 bt486.1 bt486.2.1 bt486.2.2.1 bt486.2.2.2.1 bt486.2.2.2.2.1 bt486.2.2.2.2.2.1 bt486.2.2.2.2.2.2.1 bt486.2.2.2.2.2.2.2.1 bt486.2.2.2.2.2.2.2.2.1 bt486.2.2.2.2.2.2.2.2.2).bind fun t500 => (if t500 = true then (some true) else (some false)))) else (some false)))))))) = some true := h
  clear h
  replace H := Option.bind_eq_some_iff.mp H
  obtain ⟨t454, A20, H⟩ := H
  (try dsimp only at H)
  have A2 := Aside0.mk A20
  clear A20
  by_cases c3 : t454 < 0
  ·rw [if_pos c3] at H
   have c3b0 : decide (t454 < 0) = true := decide_eq_true c3
   clear c3
   clear H
   go_enter Try.func11, Try.ntmps11
   go_wp2_with (first | ((with_reducible refine gate_dst (N := 1) rfl ?_); refine boxM 1 #[.int .i64 a0_0, .int .i64 a0_1, .int .i64 a0_2, .slice A0_3 l0_3.length c0_3, .int .i64 a0_4, .int .i64 a0_5, .int .i64 a0_6, .int .i64 a0_7, .slice A0_8 l0_8.length c0_8, .int .i64 a0_9] 58 ?_; intro gb453 hg w4 BK453 hb; replace HB := box_at w hb hg; obtain ⟨HB, GW453, GE453⟩ := HB; clear hb hg; obtain ⟨hcz5_0, hcz5_1, hcz5_2, hcz5_3, hcz5_4, hcz5_5, hcz5_6, hcz5_7, hcz5_8, hcz5_9, hfz5_0, hfz5_1, hfz5_2, hfz5_3, hfz5_4, hfz5_5, hfz5_6, hfz5_7, hfz5_8, hfz5_9⟩ := cells10 BK453.out) | ((with_reducible refine gate_callee (f := 38) rfl ?_); refine goesM (some 9) rfl rfl Try.func38 (by kernel_rfl) rfl #[.agg #[.int .i64 a0_0, .int .i64 a0_1, .int .i64 a0_2, .slice A0_3 l0_3.length c0_3, .int .i64 a0_4, .int .i64 a0_5, .int .i64 a0_6, .int .i64 a0_7, .slice A0_8 l0_8.length c0_8, .int .i64 a0_9], .int .i64 1048576] rfl ?_; (with_reducible refine (laws_szJob.calls k a0_0 a0_1 a0_2 _ _ l0_3 a0_4 a0_5 a0_6 a0_7 _ _ l0_8 a0_9 1048576 t454 _ ?side1 ?side2 ?side3 ?side4 A2.out).mono ?_); (case side1 => exact C_now HR0_3.out); (case side2 => exact HC0_3.out); (case side3 => exact C_now HR0_8.out); (case side4 => exact HC0_8.out); rintro e w6 ⟨rfl, hb⟩; refine ⟨_, rfl, ?_⟩; replace HB := bel_on w hb; replace BK453 := blk_on gb453 hb; (try clear hb)))
   go_ret
   exact ⟨eqN, bel_now⟩
  ·rw [if_neg c3] at H
   have c3b0 : decide (t454 < 0) = false := decide_eq_false c3
   clear c3
   replace H := Option.bind_eq_some_iff.mp H
   obtain ⟨⟨t455, t456, t457, t458, t461, t462, t463, t464, t465, t468⟩, A70, H⟩ := H
   (try dsimp only at H)
   have A7 := Aside0.mk A70
   clear A70
   replace H := Option.bind_eq_some_iff.mp H
   obtain ⟨t469, A80, H⟩ := H
   (try dsimp only at H)
   have A8 := Aside0.mk A80
   clear A80
   replace H := Option.bind_eq_some_iff.mp H
   obtain ⟨⟨t470, t471, t472, t473, t476, t477, t478, t479, t480, t483⟩, A90, H⟩ := H
   (try dsimp only at H)
   have A9 := Aside0.mk A90
   clear A90
   replace H := Option.bind_eq_some_iff.mp H
   obtain ⟨t485, A100, H⟩ := H
   (try dsimp only at H)
   have A10 := Aside0.mk A100
   clear A100
   by_cases c11 : t485 = t469
   ·rw [if_pos c11] at H
    have c11b0 : (t485 == t469) = true := beq_iff_eq.mpr c11
    have c11b1 : (t485 != t469) = false := bne_eq_false_iff_eq.mpr c11
    clear c11
    replace H := Option.bind_eq_some_iff.mp H
    obtain ⟨⟨t486, t487, t488, t489, t492, t493, t494, t495, t496, t499⟩, A120, H⟩ := H
    (try dsimp only at H)
    have A12 := Aside0.mk A120
    clear A120
    replace H := Option.bind_eq_some_iff.mp H
    obtain ⟨t500, A130, H⟩ := H
    (try dsimp only at H)
    have A13 := Aside0.mk A130
    clear A130
    by_cases c14 : t500 = true
    ·subst c14
     have H1 : (some true) = some true := rfl
     clear H
     have H := H1
     clear H1
     clear H
     go_enter Try.func11, Try.ntmps11
     try go_wp2_with (first | ((with_reducible refine gate_dst (N := 1) rfl ?_); refine boxM 1 #[.int .i64 a0_0, .int .i64 a0_1, .int .i64 a0_2, .slice A0_3 l0_3.length c0_3, .int .i64 a0_4, .int .i64 a0_5, .int .i64 a0_6, .int .i64 a0_7, .slice A0_8 l0_8.length c0_8, .int .i64 a0_9] 58 ?_; intro gb453 hg w15 BK453 hb; replace HB := box_at w hb hg; obtain ⟨HB, GW453, GE453⟩ := HB; clear hb hg; obtain ⟨hcz16_0, hcz16_1, hcz16_2, hcz16_3, hcz16_4, hcz16_5, hcz16_6, hcz16_7, hcz16_8, hcz16_9, hfz16_0, hfz16_1, hfz16_2, hfz16_3, hfz16_4, hfz16_5, hfz16_6, hfz16_7, hfz16_8, hfz16_9⟩ := cells10 BK453.out) | ((with_reducible refine gate_callee (f := 38) rfl ?_); refine goesM (some 9) rfl rfl Try.func38 (by kernel_rfl) rfl #[.agg #[.int .i64 a0_0, .int .i64 a0_1, .int .i64 a0_2, .slice A0_3 l0_3.length c0_3, .int .i64 a0_4, .int .i64 a0_5, .int .i64 a0_6, .int .i64 a0_7, .slice A0_8 l0_8.length c0_8, .int .i64 a0_9], .int .i64 1048576] rfl ?_; (with_reducible refine (laws_szJob.calls k a0_0 a0_1 a0_2 _ _ l0_3 a0_4 a0_5 a0_6 a0_7 _ _ l0_8 a0_9 1048576 t454 _ ?side1 ?side2 ?side3 ?side4 A2.out).mono ?_); (case side1 => exact C_now HR0_3.out); (case side2 => exact HC0_3.out); (case side3 => exact C_now HR0_8.out); (case side4 => exact HC0_8.out); rintro e w17 ⟨rfl, hb⟩; refine ⟨_, rfl, ?_⟩; replace HB := bel_on w hb; replace BK453 := blk_on gb453 hb; (try clear hb); obtain ⟨hcz18_0, hcz18_1, hcz18_2, hcz18_3, hcz18_4, hcz18_5, hcz18_6, hcz18_7, hcz18_8, hcz18_9, hfz18_0, hfz18_1, hfz18_2, hfz18_3, hfz18_4, hfz18_5, hfz18_6, hfz18_7, hfz18_8, hfz18_9⟩ := cells10 BK453.out) | ((with_reducible refine gate_callee (f := 40) rfl ?_); refine goesM (some 13) rfl rfl Try.func40 (by kernel_rfl) rfl #[.agg #[.int .i64 a0_0, .int .i64 a0_1, .int .i64 a0_2, .slice A0_3 l0_3.length c0_3, .int .i64 a0_4, .int .i64 a0_5, .int .i64 a0_6, .int .i64 a0_7, .slice A0_8 l0_8.length c0_8, .int .i64 a0_9]] rfl ?_; (with_reducible refine (laws_toJob.calls k a0_0 a0_1 a0_2 _ _ l0_3 a0_4 a0_5 a0_6 a0_7 _ _ l0_8 a0_9 t455 t456 t457 t458 t461 t462 t463 t464 t465 t468 _ ?side1 ?side2 ?side3 ?side4 A7.out).mono ?_); (case side1 => exact C_now HR0_3.out); (case side2 => exact HC0_3.out); (case side3 => exact C_now HR0_8.out); (case side4 => exact HC0_8.out); rintro e w19 ⟨v459, v466, rfl, ho0, ho1, hb⟩; refine ⟨_, rfl, ?_⟩; have n0_ := Aside0.mk (Kd.S_lower ho0 (below_size bel_now)); have n1_ := Aside0.mk (Kd.R_lower ho1 (below_size bel_now)); replace HB := bel_on w hb; replace BK453 := blk_on gb453 hb; have HO460 := n0_; have HO467 := n1_; clear n0_ n1_; (try clear hb); (try clear ho0); (try clear ho1); obtain ⟨Ao20, co20, eo20⟩ := Kd.S_slice HO460.out; subst eo20; obtain ⟨Ao21, co21, eo21⟩ := Kd.R_slice HO467.out; subst eo21) | ((with_reducible refine gate_callee (f := 48) rfl ?_); refine goesM (some 14) rfl rfl Try.func48 (by kernel_rfl) rfl #[.agg #[.int .i64 t455, .int .i64 t456, .int .i64 t457, .slice Ao20 t458.length co20, .int .i64 t461, .int .i64 t462, .int .i64 t463, .int .i64 t464, .slice Ao21 t465.length co21, .int .i64 t468]] rfl ?_; (with_reducible refine (spec_NextCost.calls k t455 t456 t457 _ _ t458 t461 t462 t463 t464 _ _ t465 t468 t469 _ ?side1 ?side2 ?side3 ?side4 A8.out).mono ?_); (case side1 => repeat (first | exact (Kd.S_reads' HO460.out).2.2 | (with_reducible refine Kd.C_alloc ?_ _) | (with_reducible refine Kd.C_drewN ?_ _) | (with_reducible refine Kd.C_drew ?_))); (case side2 => exact (Kd.S_reads' HO460.out).2.1); (case side3 => exact (Kd.R_reads' (R_at HO467.out)).2.2); (case side4 => exact (Kd.R_reads' HO467.out).2.1); rintro e w22 ⟨rfl, hb⟩; refine ⟨_, rfl, ?_⟩; replace HO460 := Aside0.mk (Kd.S_below (by (with_reducible repeat (first | apply Kd.S_alloc | apply Kd.S_drewN | apply Kd.S_drew)); exact HO460.out) hb); replace HO467 := Aside0.mk (Kd.R_below (R_at HO467.out) hb); replace HB := bel_on w hb; replace BK453 := blk_on gb453 hb; (try clear hb); obtain ⟨hcz23_0, hcz23_1, hcz23_2, hcz23_3, hcz23_4, hcz23_5, hcz23_6, hcz23_7, hcz23_8, hcz23_9, hfz23_0, hfz23_1, hfz23_2, hfz23_3, hfz23_4, hfz23_5, hfz23_6, hfz23_7, hfz23_8, hfz23_9⟩ := cells10 BK453.out) | ((with_reducible refine gate_callee (f := 40) rfl ?_); refine goesM (some 16) rfl rfl Try.func40 (by kernel_rfl) rfl #[.agg #[.int .i64 a0_0, .int .i64 a0_1, .int .i64 a0_2, .slice A0_3 l0_3.length c0_3, .int .i64 a0_4, .int .i64 a0_5, .int .i64 a0_6, .int .i64 a0_7, .slice A0_8 l0_8.length c0_8, .int .i64 a0_9]] rfl ?_; (with_reducible refine (laws_toJob.calls k a0_0 a0_1 a0_2 _ _ l0_3 a0_4 a0_5 a0_6 a0_7 _ _ l0_8 a0_9 t470 t471 t472 t473 t476 t477 t478 t479 t480 t483 _ ?side1 ?side2 ?side3 ?side4 A9.out).mono ?_); (case side1 => exact C_now HR0_3.out); (case side2 => exact HC0_3.out); (case side3 => exact C_now HR0_8.out); (case side4 => exact HC0_8.out); rintro e w24 ⟨v474, v481, rfl, ho0, ho1, hb⟩; refine ⟨_, rfl, ?_⟩; have n2_ := Aside0.mk (Kd.S_lower (Kd.S_new' (Kd.S_new' ho0 (Kd.S_lt (by (with_reducible repeat (first | apply Kd.S_alloc | apply Kd.S_drewN | apply Kd.S_drew)); exact HO460.out))) (Kd.R_lt (R_at HO467.out))) (below_size bel_now)); have n3_ := Aside0.mk (Kd.R_lower (Kd.R_new' ho1 (Kd.R_lt (R_at HO467.out))) (below_size bel_now)); replace HO460 := Aside0.mk (Kd.S_mono (Kd.S_told (Kd.S_told (Kd.S_old (by (with_reducible repeat (first | apply Kd.S_alloc | apply Kd.S_drewN | apply Kd.S_drew)); exact HO460.out) hb) (Kd.S_base ho0)) (Kd.R_base ho1)) (fun _ h_ => h_.1)); replace HO467 := Aside0.mk (Kd.R_elder' (R_at HO467.out) (Kd.R_base ho1) hb); replace HB := bel_on w hb; replace BK453 := blk_on gb453 hb; have HO475 := n2_; have HO482 := n3_; clear n2_ n3_; (try clear hb); (try clear ho0); (try clear ho1)) | ((with_reducible refine gate_dst (N := 5) rfl ?_); refine boxM 5 #[.int .i64 0, .int .i64 0, .int .i64 0, .slice none 0 0, .int .i64 0, .int .i64 0, .int .i64 0, .int .i64 0, .slice none 0 0, .int .i64 0] 64 ?_; intro gb484 hg w25 BK484 hb; replace HB := box_at w hb hg; obtain ⟨HB, GW484, GE484⟩ := HB; replace BK453 := box_on gb453 hb hg; obtain ⟨BK453, NB453_484, NB484_453⟩ := BK453; replace HO460 := Aside0.mk (Kd.S_below (by (with_reducible repeat (first | apply Kd.S_alloc | apply Kd.S_drewN | apply Kd.S_drew)); exact HO460.out) hb); replace HO467 := Aside0.mk (Kd.R_below (R_at HO467.out) hb); replace HO475 := Aside0.mk (Kd.S_below (by (with_reducible repeat (first | apply Kd.S_alloc | apply Kd.S_drewN | apply Kd.S_drew)); exact HO475.out) hb); replace HO482 := Aside0.mk (Kd.R_below (R_at HO482.out) hb); clear hb hg; have hnb26 := NB484_453.out; have hnc26 := NB453_484.out; obtain ⟨hcz27_0, hcz27_1, hcz27_2, hcz27_3, hcz27_4, hcz27_5, hcz27_6, hcz27_7, hcz27_8, hcz27_9, hfz27_0, hfz27_1, hfz27_2, hfz27_3, hfz27_4, hfz27_5, hfz27_6, hfz27_7, hfz27_8, hfz27_9⟩ := cells10 BK484.out; obtain ⟨Ao28, co28, eo28⟩ := Kd.S_slice HO475.out; subst eo28; obtain ⟨Ao29, co29, eo29⟩ := Kd.R_slice HO482.out; subst eo29) | ((with_reducible refine gate_callee (f := 49) rfl ?_); refine goesM (some 18) rfl rfl Try.func49 (by kernel_rfl) rfl #[.agg #[.int .i64 t470, .int .i64 t471, .int .i64 t472, .slice Ao28 t473.length co28, .int .i64 t476, .int .i64 t477, .int .i64 t478, .int .i64 t479, .slice Ao29 t480.length co29, .int .i64 t483]] rfl ?_; (with_reducible refine (impl_NextCost.calls k t470 t471 t472 _ _ t473 t476 t477 t478 t479 _ _ t480 t483 t485 _ ?side1 ?side2 ?side3 ?side4 A10.out).mono ?_); (case side1 => refine (Kd.S_reads' (e := 73) (base := w.heap.size) (ok := fun k_ => ((nb k_ Ao29 t480.length co29 ∧ nb k_ Ao20 t458.length co20) ∧ nb k_ Ao21 t465.length co21)) (n := t473.length) (c := co28) ?_).2.2; exact (by (with_reducible repeat (first | apply Kd.S_alloc | apply Kd.S_drewN | apply Kd.S_drew)); exact (Kd.S_mono (Kd.S_far (p := ⟨gb484, 9, none⟩) (Kd.S_far (p := ⟨gb484, 8, none⟩) (Kd.S_far (p := ⟨gb484, 7, none⟩) (Kd.S_far (p := ⟨gb484, 6, none⟩) (Kd.S_far (p := ⟨gb484, 5, none⟩) (Kd.S_far (p := ⟨gb484, 4, none⟩) (Kd.S_far (p := ⟨gb484, 3, none⟩) (Kd.S_far (p := ⟨gb484, 2, none⟩) (Kd.S_far (p := ⟨gb484, 1, none⟩) (Kd.S_far (p := ⟨gb484, 0, none⟩) (Kd.S_types HO475.out BK484.out (by decide)) (fun _ hk => hk.2) (.int .i64 t470)) (fun _ hk => hk.2) (.int .i64 t471)) (fun _ hk => hk.2) (.int .i64 t472)) (fun _ hk => hk.2) (.slice Ao28 t473.length co28)) (fun _ hk => hk.2) (.int .i64 t476)) (fun _ hk => hk.2) (.int .i64 t477)) (fun _ hk => hk.2) (.int .i64 t478)) (fun _ hk => hk.2) (.int .i64 t479)) (fun _ hk => hk.2) (.slice Ao29 t480.length co29)) (fun _ hk => hk.2) (.int .i64 t483)) (fun _ h_ => h_.1)))); (case side2 => exact (Kd.S_reads' HO475.out).2.1); (case side3 => refine (Kd.R_reads' (e := 3) (base := w.heap.size) (ok := fun k_ => (True ∧ nb k_ Ao21 t465.length co21)) (n := t480.length) (c := co29) ?_).2.2; exact (R_at (R_far10 HO482.out BK484.out (by decide)))); (case side4 => exact (Kd.R_reads' HO482.out).2.1); rintro e w30 ⟨rfl, hb⟩; refine ⟨_, rfl, ?_⟩; have n0_ := Aside0.mk (Kd.S_below (by (with_reducible repeat (first | apply Kd.S_alloc | apply Kd.S_drewN | apply Kd.S_drew)); exact (Kd.S_mono (Kd.S_far (p := ⟨gb484, 9, none⟩) (Kd.S_far (p := ⟨gb484, 8, none⟩) (Kd.S_far (p := ⟨gb484, 7, none⟩) (Kd.S_far (p := ⟨gb484, 6, none⟩) (Kd.S_far (p := ⟨gb484, 5, none⟩) (Kd.S_far (p := ⟨gb484, 4, none⟩) (Kd.S_far (p := ⟨gb484, 3, none⟩) (Kd.S_far (p := ⟨gb484, 2, none⟩) (Kd.S_far (p := ⟨gb484, 1, none⟩) (Kd.S_far (p := ⟨gb484, 0, none⟩) (Kd.S_types HO460.out BK484.out (by decide)) (fun _ hk => hk.2) (.int .i64 t470)) (fun _ hk => hk.2) (.int .i64 t471)) (fun _ hk => hk.2) (.int .i64 t472)) (fun _ hk => hk.2) (.slice Ao28 t473.length co28)) (fun _ hk => hk.2) (.int .i64 t476)) (fun _ hk => hk.2) (.int .i64 t477)) (fun _ hk => hk.2) (.int .i64 t478)) (fun _ hk => hk.2) (.int .i64 t479)) (fun _ hk => hk.2) (.slice Ao29 t480.length co29)) (fun _ hk => hk.2) (.int .i64 t483)) (fun _ h_ => h_.1))) hb); have n1_ := Aside0.mk (Kd.R_below (R_at (R_far10 HO467.out BK484.out (by decide))) hb); have n2_ := Aside0.mk (Kd.S_below (by (with_reducible repeat (first | apply Kd.S_alloc | apply Kd.S_drewN | apply Kd.S_drew)); exact (Kd.S_mono (Kd.S_far (p := ⟨gb484, 9, none⟩) (Kd.S_far (p := ⟨gb484, 8, none⟩) (Kd.S_far (p := ⟨gb484, 7, none⟩) (Kd.S_far (p := ⟨gb484, 6, none⟩) (Kd.S_far (p := ⟨gb484, 5, none⟩) (Kd.S_far (p := ⟨gb484, 4, none⟩) (Kd.S_far (p := ⟨gb484, 3, none⟩) (Kd.S_far (p := ⟨gb484, 2, none⟩) (Kd.S_far (p := ⟨gb484, 1, none⟩) (Kd.S_far (p := ⟨gb484, 0, none⟩) (Kd.S_types HO475.out BK484.out (by decide)) (fun _ hk => hk.2) (.int .i64 t470)) (fun _ hk => hk.2) (.int .i64 t471)) (fun _ hk => hk.2) (.int .i64 t472)) (fun _ hk => hk.2) (.slice Ao28 t473.length co28)) (fun _ hk => hk.2) (.int .i64 t476)) (fun _ hk => hk.2) (.int .i64 t477)) (fun _ hk => hk.2) (.int .i64 t478)) (fun _ hk => hk.2) (.int .i64 t479)) (fun _ hk => hk.2) (.slice Ao29 t480.length co29)) (fun _ hk => hk.2) (.int .i64 t483)) (fun _ h_ => h_.1))) hb); have n3_ := Aside0.mk (Kd.R_below (R_at (R_far10 HO482.out BK484.out (by decide))) hb); replace HB := bel_on w hb; replace BK453 := Aside0.mk (blk_below (g := gb453) (o := .cells #[.int .i64 a0_0, .int .i64 a0_1, .int .i64 a0_2, .slice A0_3 l0_3.length c0_3, .int .i64 a0_4, .int .i64 a0_5, .int .i64 a0_6, .int .i64 a0_7, .slice A0_8 l0_8.length c0_8, .int .i64 a0_9] 58 (0, 0)) (blk_fars BK453.out) hb); replace BK484 := Aside0.mk (blk_below (g := gb484) (o := .cells #[.int .i64 t470, .int .i64 t471, .int .i64 t472, .slice Ao28 t473.length co28, .int .i64 t476, .int .i64 t477, .int .i64 t478, .int .i64 t479, .slice Ao29 t480.length co29, .int .i64 t483] 64 (0, 0)) (by (with_reducible repeat (first | refine blk_drewN ?_ _ | refine blk_drew ?_ | refine blk_alloc ?_ _)); first | exact putl10 BK484.out | exact blk_fars (putl10 BK484.out)) hb); clear HO460 HO467 HO475 HO482; have HO460 := n0_; have HO467 := n1_; have HO475 := n2_; have HO482 := n3_; clear n0_ n1_ n2_ n3_; (try clear hb); (try clear hk)))
     replace HO460 := Aside0.mk (Kd.S_drew HO460.out)
     replace HO467 := Aside0.mk (Kd.R_drew HO467.out)
     replace HO475 := Aside0.mk (Kd.S_drew HO475.out)
     replace HO482 := Aside0.mk (Kd.R_drew HO482.out)
     replace BK453 := Aside0.mk (blk_drew BK453.out)
     replace BK484 := Aside0.mk (blk_drew BK484.out)
     replace HB := Aside0.mk (below_drew1 HB.out)
     refine start_ (n := 5) (S := fun w' => w'.cell? ⟨gb484, 0, none⟩ = some (.int .i64 t470) ∧ w'.cell? ⟨gb484, 1, none⟩ = some (.int .i64 t471) ∧ w'.cell? ⟨gb484, 2, none⟩ = some (.int .i64 t472) ∧ w'.cell? ⟨gb484, 3, none⟩ = some (.slice Ao28 t473.length co28) ∧ w'.cell? ⟨gb484, 4, none⟩ = some (.int .i64 t476) ∧ w'.cell? ⟨gb484, 5, none⟩ = some (.int .i64 t477) ∧ w'.cell? ⟨gb484, 6, none⟩ = some (.int .i64 t478) ∧ w'.cell? ⟨gb484, 7, none⟩ = some (.int .i64 t479) ∧ w'.cell? ⟨gb484, 8, none⟩ = some (.slice Ao29 t480.length co29) ∧ w'.cell? ⟨gb484, 9, none⟩ = some (.int .i64 t483) ∧ w'.cell? ⟨gb453, 0, none⟩ = some (.int .i64 a0_0) ∧ w'.cell? ⟨gb453, 1, none⟩ = some (.int .i64 a0_1) ∧ w'.cell? ⟨gb453, 2, none⟩ = some (.int .i64 a0_2) ∧ w'.cell? ⟨gb453, 3, none⟩ = some (.slice A0_3 l0_3.length c0_3) ∧ w'.cell? ⟨gb453, 4, none⟩ = some (.int .i64 a0_4) ∧ w'.cell? ⟨gb453, 5, none⟩ = some (.int .i64 a0_5) ∧ w'.cell? ⟨gb453, 6, none⟩ = some (.int .i64 a0_6) ∧ w'.cell? ⟨gb453, 7, none⟩ = some (.int .i64 a0_7) ∧ w'.cell? ⟨gb453, 8, none⟩ = some (.slice A0_8 l0_8.length c0_8) ∧ w'.cell? ⟨gb453, 9, none⟩ = some (.int .i64 a0_9)) (ds := []) #[false, false, false, false, false] (by kernel_rfl) rfl rfl ⟨bc BK484 0, bc BK484 1, bc BK484 2, bc BK484 3, bc BK484 4, bc BK484 5, bc BK484 6, bc BK484 7, bc BK484 8, bc BK484 9, bc BK453 0, bc BK453 1, bc BK453 2, bc BK453 3, bc BK453 4, bc BK453 5, bc BK453 6, bc BK453 7, bc BK453 8, bc BK453 9⟩ (fun hHeld => ?_)
     generalize w30.drew = w31 at HO460 HO467 HO475 HO482 BK453 BK484 HB hHeld ⊢
     refine stepT 0 (some 22) (tk 5 1) (by kernel_rfl) hHeld ?_
     refine stepT 1 (some 23) (tk 5 3) (by kernel_rfl) hHeld ?_
     refine one_ (i := 2) (N := some 24) #[true, true, true, false, false] rfl rfl (by kernel_rfl) (by decide) (fun K hK => ?_)
     refine goes_ Try.func40 (by kernel_rfl) rfl #[.agg #[.int .i64 a0_0, .int .i64 a0_1, .int .i64 a0_2, .slice A0_3 l0_3.length c0_3, .int .i64 a0_4, .int .i64 a0_5, .int .i64 a0_6, .int .i64 a0_7, .slice A0_8 l0_8.length c0_8, .int .i64 a0_9]] (by rfl) rfl rfl (by (try simp only [List.map_toArray, List.map_cons, List.map_nil]); first | done | rfl | (simp only [List.length_drop, List.length_take]; rfl)) ?_
     with_reducible refine (laws_toJob.calls k a0_0 a0_1 a0_2 _ _ l0_3 a0_4 a0_5 a0_6 a0_7 _ _ l0_8 a0_9 t486 t487 t488 t489 t492 t493 t494 t495 t496 t499 _ ?side1 ?side2 ?side3 ?side4 A12.out).mono ?_
     (case side1 => exact C_now HR0_3.out)
     (case side2 => exact HC0_3.out)
     (case side3 => exact C_now HR0_8.out)
     (case side4 => exact HC0_8.out)
     rintro e w32 ⟨v490, v497, rfl, ho0, ho1, hb⟩
     refine ⟨_, rfl, ?_⟩
     have n4_ := Aside0.mk (Kd.S_lower (Kd.S_new' (Kd.S_new' (Kd.S_new' (Kd.S_new' ho0 (Kd.S_lt (by (with_reducible repeat (first | apply Kd.S_alloc | apply Kd.S_drewN | apply Kd.S_drew)); exact HO460.out))) (Kd.R_lt (R_at HO467.out))) (Kd.S_lt (by (with_reducible repeat (first | apply Kd.S_alloc | apply Kd.S_drewN | apply Kd.S_drew)); exact HO475.out))) (Kd.R_lt (R_at HO482.out))) (below_size bel_now))
     have n5_ := Aside0.mk (Kd.R_lower (Kd.R_new' (Kd.R_new' ho1 (Kd.R_lt (R_at HO467.out))) (Kd.R_lt (R_at HO482.out))) (below_size bel_now))
     replace HO460 := Aside0.mk (Kd.S_mono (Kd.S_told (Kd.S_told (Kd.S_old (by (with_reducible repeat (first | apply Kd.S_alloc | apply Kd.S_drewN | apply Kd.S_drew)); exact HO460.out) hb) (Kd.S_base ho0)) (Kd.R_base ho1)) (fun _ h_ => h_.1))
     replace HO467 := Aside0.mk (Kd.R_elder' (R_at HO467.out) (Kd.R_base ho1) hb)
     replace HO475 := Aside0.mk (Kd.S_mono (Kd.S_told (Kd.S_told (Kd.S_old (by (with_reducible repeat (first | apply Kd.S_alloc | apply Kd.S_drewN | apply Kd.S_drew)); exact HO475.out) hb) (Kd.S_base ho0)) (Kd.R_base ho1)) (fun _ h_ => h_.1))
     replace HO482 := Aside0.mk (Kd.R_elder' (R_at HO482.out) (Kd.R_base ho1) hb)
     replace BK453 := blk_on gb453 hb
     replace BK484 := blk_on gb484 hb
     replace HB := bel_on w hb
     have HO491 := n4_
     have HO498 := n5_
     clear n4_ n5_
     (try clear hb)
     (try clear hb2)
     (try clear hk)
     (try clear hi)
     (try clear ho0)
     (try clear ho1)
     obtain ⟨Ao33, co33, eo33⟩ := Kd.S_slice HO491.out
     (first | subst eo33 | (injection eo33 with f1_ f2_ f3_; have f4_ := f1_.symm; have f5_ := f3_.symm; clear f1_ f2_ f3_; subst f4_; subst f5_))
     obtain ⟨Ao34, co34, eo34⟩ := Kd.R_slice HO498.out
     (first | subst eo34 | (injection eo34 with f1_ f2_ f3_; have f4_ := f1_.symm; have f5_ := f3_.symm; clear f1_ f2_ f3_; subst f4_; subst f5_))
     refine hK.out _ _ ⟨bc BK484 0, bc BK484 1, bc BK484 2, bc BK484 3, bc BK484 4, bc BK484 5, bc BK484 6, bc BK484 7, bc BK484 8, bc BK484 9, bc BK453 0, bc BK453 1, bc BK453 2, bc BK453 3, bc BK453 4, bc BK453 5, bc BK453 6, bc BK453 7, bc BK453 8, bc BK453 9⟩ (fun hHeld => ?_)
     clear hK K
     refine norm_ (a' := ?_) ?_ ?_
     rotate_left
     ·show Act.put _ (some 24) _ = _
      simp only [Act.put, zA, zB, zC, i64_w, i32_w]
      rfl
     refine one_ (i := 3) (N := some 25) #[true, true, true, true, false] rfl rfl (by kernel_rfl) (by decide) (fun K hK => ?_)
     refine goes_ Try.func42 (by kernel_rfl) rfl #[.agg #[.int .i64 t470, .int .i64 t471, .int .i64 t472, .slice Ao28 t473.length co28, .int .i64 t476, .int .i64 t477, .int .i64 t478, .int .i64 t479, .slice Ao29 t480.length co29, .int .i64 t483], .agg #[.int .i64 t486, .int .i64 t487, .int .i64 t488, .slice Ao33 t489.length co33, .int .i64 t492, .int .i64 t493, .int .i64 t494, .int .i64 t495, .slice Ao34 t496.length co34, .int .i64 t499]] (by rfl) rfl rfl (by (try simp only [List.map_toArray, List.map_cons, List.map_nil]); first | done | rfl | (simp only [List.length_drop, List.length_take]; rfl)) ?_
     with_reducible refine (laws_eqJob.calls k t470 t471 t472 _ _ t473 t476 t477 t478 t479 _ _ t480 t483 t486 t487 t488 _ _ t489 t492 t493 t494 t495 _ _ t496 t499 true _ ?side1 ?side2 ?side3 ?side4 ?side5 ?side6 ?side7 ?side8 A13.out).mono ?_
     (case side1 => repeat (first | exact (Kd.S_reads' HO475.out).2.2 | (with_reducible refine Kd.C_alloc ?_ _) | (with_reducible refine Kd.C_drewN ?_ _) | (with_reducible refine Kd.C_drew ?_)))
     (case side2 => exact (Kd.S_reads' HO475.out).2.1)
     (case side3 => exact (Kd.R_reads' (R_at HO482.out)).2.2)
     (case side4 => exact (Kd.R_reads' HO482.out).2.1)
     (case side5 => repeat (first | exact (Kd.S_reads' HO491.out).2.2 | (with_reducible refine Kd.C_alloc ?_ _) | (with_reducible refine Kd.C_drewN ?_ _) | (with_reducible refine Kd.C_drew ?_)))
     (case side6 => exact (Kd.S_reads' HO491.out).2.1)
     (case side7 => exact (Kd.R_reads' (R_at HO498.out)).2.2)
     (case side8 => exact (Kd.R_reads' HO498.out).2.1)
     rintro e w35 ⟨rfl, hb⟩
     refine ⟨_, rfl, ?_⟩
     replace HO460 := Aside0.mk (Kd.S_below (by (with_reducible repeat (first | apply Kd.S_alloc | apply Kd.S_drewN | apply Kd.S_drew)); exact HO460.out) hb)
     replace HO467 := Aside0.mk (Kd.R_below (R_at HO467.out) hb)
     replace HO475 := Aside0.mk (Kd.S_below (by (with_reducible repeat (first | apply Kd.S_alloc | apply Kd.S_drewN | apply Kd.S_drew)); exact HO475.out) hb)
     replace HO482 := Aside0.mk (Kd.R_below (R_at HO482.out) hb)
     replace HO491 := Aside0.mk (Kd.S_below (by (with_reducible repeat (first | apply Kd.S_alloc | apply Kd.S_drewN | apply Kd.S_drew)); exact HO491.out) hb)
     replace HO498 := Aside0.mk (Kd.R_below (R_at HO498.out) hb)
     replace BK453 := blk_on gb453 hb
     replace BK484 := blk_on gb484 hb
     replace HB := bel_on w hb
     (try clear hb)
     (try clear hb2)
     (try clear hk)
     (try clear hi)
     refine hK.out _ _ ⟨bc BK484 0, bc BK484 1, bc BK484 2, bc BK484 3, bc BK484 4, bc BK484 5, bc BK484 6, bc BK484 7, bc BK484 8, bc BK484 9, bc BK453 0, bc BK453 1, bc BK453 2, bc BK453 3, bc BK453 4, bc BK453 5, bc BK453 6, bc BK453 7, bc BK453 8, bc BK453 9⟩ (fun hHeld => ?_)
     clear hK K
     refine norm_ (a' := ?_) ?_ ?_
     rotate_left
     ·show Act.put _ (some 25) _ = _
      simp only [Act.put, zA, zB, zC, i64_w, i32_w]
      rfl
     refine stepP 4 (some 26) (tk 5 31) (by kernel_rfl) ?_
     refine done_ (by kernel_rfl) ?_
     try go_wp2
     go_ret
     exact ⟨eqN, bel_now⟩
    ·replace c14 := Bool.eq_false_iff.mpr c14
     subst c14
     rw [if_neg (show ¬ (false = true) by decide)] at H
     exact absurd H (by decide)
   ·rw [if_neg c11] at H
    have c11b0 : (t485 == t469) = false := beq_eq_false_iff_ne.mpr c11
    have c11b1 : (t485 != t469) = true := bne_iff_ne.mpr c11
    exact absurd H (by decide)

end Go.Proofs.Ytljdcemdhmaahaa.PFnExactNextCost
