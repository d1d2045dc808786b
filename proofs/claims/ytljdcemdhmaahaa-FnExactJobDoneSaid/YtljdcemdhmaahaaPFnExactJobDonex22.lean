-- Printed by the session's own program (wip/myprint.py) for this claim out of the translation. Not trusted: Lean checks it.
import Derived.Test.YtljdcemdhmaahaaPFnExactJobDonex0
import Derived.Test.YtljdcemdhmaahaaPFnExactJobDonex2
import Derived.Test.YtljdcemdhmaahaaPFnExactJobDonex12
import Derived.Test.YtljdcemdhmaahaaPFnExactJobDonex20
import Derived.Test.YtljdcemdhmaahaaPFnExactJobDonex21
namespace Go.Proofs.Ytljdcemdhmaahaa.PFnExactJobDone
open Go.RowKit Go.Proofs.YtljdcemdhmaahaaW.PrintWords Go.Proofs.YtljdcemdhmaahaaW.PrintLast Go.Proofs.YtljdcemdhmaahaaW.PrintMore
attribute [local go_sem] max2_int min2_int max_two min_two max_three min_three max_four min_four   -- for this text's walks alone
set_option linter.unusedVariables false
set_option linter.unusedSimpArgs false

/-! ### laws_FnExactJobDone: function 10 -/
def laws_FnExactJobDone.f (k : Nat) (a0_0 : Int) (a0_1 : Int) (a0_2 : Int) (l0_3 : List (S117)) (a0_4 : Int) (a0_5 : Int) (a0_6 : Int) (a0_7 : Int) (l0_8 : List Int) (a0_9 : Int) : Option (Bool) := (laws_szJob.f k a0_0 a0_1 a0_2 l0_3 a0_4 a0_5 a0_6 a0_7 l0_8 a0_9 1048576).bind fun t430 => (if t430 < 0 then (some true) else ((laws_toJob.f k a0_0 a0_1 a0_2 l0_3 a0_4 a0_5 a0_6 a0_7 l0_8 a0_9).bind fun bt431 => ((spec_JobDone.f k bt431.1 bt431.2.1 bt431.2.2.1 bt431.2.2.2.1 bt431.2.2.2.2.1 bt431.2.2.2.2.2.1 bt431.2.2.2.2.2.2.1 bt431.2.2.2.2.2.2.2.1 bt431.2.2.2.2.2.2.2.2.1 bt431.2.2.2.2.2.2.2.2.2).bind fun t445 => ((laws_toJob.f k a0_0 a0_1 a0_2 l0_3 a0_4 a0_5 a0_6 a0_7 l0_8 a0_9).bind fun bt446 => ((impl_JobDone.f k bt446.1 bt446.2.1 bt446.2.2.1 bt446.2.2.2.1 bt446.2.2.2.2.1 bt446.2.2.2.2.2.1 bt446.2.2.2.2.2.2.1 bt446.2.2.2.2.2.2.2.1 bt446.2.2.2.2.2.2.2.2.1 bt446.2.2.2.2.2.2.2.2.2).bind fun t461 => (if (t461 != t445) = true then (some false) else ((laws_toJob.f k a0_0 a0_1 a0_2 l0_3 a0_4 a0_5 a0_6 a0_7 l0_8 a0_9).bind fun bt462 => ((laws_eqJob.f k bt446.1 bt446.2.1 bt446.2.2.1 bt446.2.2.2.1 bt446.2.2.2.2.1 bt446.2.2.2.2.2.1 bt446.2.2.2.2.2.2.1 bt446.2.2.2.2.2.2.2.1 bt446.2.2.2.2.2.2.2.2.1 bt446.2.2.2.2.2.2.2.2.2 bt462.1 bt462.2.1 bt462.2.2.1 bt462.2.2.2.1 bt462.2.2.2.2.1 bt462.2.2.2.2.2.1 bt462.2.2.2.2.2.2.1 bt462.2.2.2.2.2.2.2.1 bt462.2.2.2.2.2.2.2.2.1 bt462.2.2.2.2.2.2.2.2.2).bind fun t476 => (if t476 = true then (some true) else (some false))))))))))
set_option maxHeartbeats 8000000 in
set_option maxRecDepth 100000 in
theorem laws_FnExactJobDone.calls (k : Nat) (a0_0 : Int) (a0_1 : Int) (a0_2 : Int) (A0_3 : Option Addr) (c0_3 : Nat) (l0_3 : List (S117)) (a0_4 : Int) (a0_5 : Int) (a0_6 : Int) (a0_7 : Int) (A0_8 : Option Addr) (c0_8 : Nat) (l0_8 : List Int) (a0_9 : Int) (w : World) (hr0_3 : Kd.C k117 w A0_3 l0_3.length l0_3) (hc0_3 : l0_3.length ≤ c0_3) (hr0_8 : Kd.C (Kd.int .i64) w A0_8 l0_8.length l0_8) (hc0_8 : l0_8.length ≤ c0_8) (h : laws_FnExactJobDone.f k a0_0 a0_1 a0_2 l0_3 a0_4 a0_5 a0_6 a0_7 l0_8 a0_9 = some true) :
   Calls Try.prog 10 #[.agg #[.int .i64 a0_0, .int .i64 a0_1, .int .i64 a0_2, .slice A0_3 l0_3.length c0_3, .int .i64 a0_4, .int .i64 a0_5, .int .i64 a0_6, .int .i64 a0_7, .slice A0_8 l0_8.length c0_8, .int .i64 a0_9]] w fun e w' => e = .returned (.bool true) ∧ Below w.heap.size w w' := by
  have hu58 := Try.underlying58
  have hu64 := Try.underlying64
  have HR0_3 := Aside0.mk hr0_3
  have HC0_3 := Aside0.mk hc0_3
  clear hr0_3 hc0_3
  have HR0_8 := Aside0.mk hr0_8
  have HC0_8 := Aside0.mk hc0_8
  clear hr0_8 hc0_8
  have HB := Aside0.mk (Below.refl w.heap.size w)
  have H : ((laws_szJob.f k a0_0 a0_1 a0_2 l0_3 a0_4 a0_5 a0_6 a0_7 l0_8 a0_9 1048576).bind fun t430 => (if t430 < 0 then (some true) else ((laws_toJob.f k a0_0 a0_1 a0_2 l0_3 a0_4 a0_5 a0_6 a0_7 l0_8 a0_9).bind fun bt431 => ((spec_JobDone.f k bt431.1 bt431.2.1 bt431.2.2.1 bt431.2.2.2.1 bt431.2.2.2.2.1 bt431.2.2.2.2.2.1 bt431.2.2.2.2.2.2.1 bt431.2.2.2.2.2.2.2.1 bt431.2.2.2.2.2.2.2.2.1 bt431.2.2.2.2.2.2.2.2.2).bind fun t445 => ((laws_toJob.f k a0_0 a0_1 a0_2 l0_3 a0_4 a0_5 a0_6 a0_7 l0_8 a0_9).bind fun bt446 => ((impl_JobDone.f k bt446.1 bt446.2.1 bt446.2.2.1 bt446.2.2.2.1 bt446.2.2.2.2.1 bt446.2.2.2.2.2.1 bt446.2.2.2.2.2.2.1 bt446.2.2.2.2.2.2.2.1 bt446.2.2.2.2.2.2.2.2.1 bt446.2.2.2.2.2.2.2.2.2).bind fun t461 => (if (t461 != t445) = true then (some false) else ((laws_toJob.f k a0_0 a0_1 a0_2 l0_3 a0_4 a0_5 a0_6 a0_7 l0_8 a0_9).bind fun bt462 => ((laws_eqJob.f k bt446.1 bt446.2.1 bt446.2.2.1 bt446.2.2.2.1 bt446.2.2.2.2.1 bt446.2.2.2.2.2.1 bt446.2.2.2.2.2.2.1 bt446.2.2.2.2.2.2.2.1 bt446.2.2.2.2.2.2.2.2.1 bt446.2.2.2.2.2.2.2.2.2 bt462.1 bt462.2.1 bt462.2.2.1 bt462.2.2.2.1 bt462.2.2.2.2.1 bt462.2.2.2.2.2.1 bt462.2.2.2.2.2.2.1 bt462.2.2.2.2.2.2.2.1 bt462.2.2.2.2.2.2.2.2.1 bt462.2.2.2.2.2.2.2.2.2).bind fun t476 => (if t476 = true then (some true) else (some false))))))))))) = some true := h
  clear h
  replace H := Option.bind_eq_some_iff.mp H
  obtain ⟨t430, A20, H⟩ := H
  (try dsimp only at H)
  have A2 := Aside0.mk A20
  clear A20
  by_cases c3 : t430 < 0
  ·rw [if_pos c3] at H
   have c3b0 : decide (t430 < 0) = true := decide_eq_true c3
   clear c3
   clear H
   go_enter Try.func10, Try.ntmps10
   go_wp2_with (first | ((with_reducible refine gate_dst (N := 1) rfl ?_); refine boxM 1 #[.int .i64 a0_0, .int .i64 a0_1, .int .i64 a0_2, .slice A0_3 l0_3.length c0_3, .int .i64 a0_4, .int .i64 a0_5, .int .i64 a0_6, .int .i64 a0_7, .slice A0_8 l0_8.length c0_8, .int .i64 a0_9] 58 ?_; intro gb429 hg w4 BK429 hb; replace HB := box_at w hb hg; obtain ⟨HB, GW429, GE429⟩ := HB; clear hb hg; obtain ⟨hcz5_0, hcz5_1, hcz5_2, hcz5_3, hcz5_4, hcz5_5, hcz5_6, hcz5_7, hcz5_8, hcz5_9, hfz5_0, hfz5_1, hfz5_2, hfz5_3, hfz5_4, hfz5_5, hfz5_6, hfz5_7, hfz5_8, hfz5_9⟩ := cells10 BK429.out) | ((with_reducible refine gate_callee (f := 38) rfl ?_); refine goesM (some 9) rfl rfl Try.func38 (by kernel_rfl) rfl #[.agg #[.int .i64 a0_0, .int .i64 a0_1, .int .i64 a0_2, .slice A0_3 l0_3.length c0_3, .int .i64 a0_4, .int .i64 a0_5, .int .i64 a0_6, .int .i64 a0_7, .slice A0_8 l0_8.length c0_8, .int .i64 a0_9], .int .i64 1048576] rfl ?_; (with_reducible refine (laws_szJob.calls k a0_0 a0_1 a0_2 _ _ l0_3 a0_4 a0_5 a0_6 a0_7 _ _ l0_8 a0_9 1048576 t430 _ ?side1 ?side2 ?side3 ?side4 A2.out).mono ?_); (case side1 => exact C_now HR0_3.out); (case side2 => exact HC0_3.out); (case side3 => exact C_now HR0_8.out); (case side4 => exact HC0_8.out); rintro e w6 ⟨rfl, hb⟩; refine ⟨_, rfl, ?_⟩; replace HB := bel_on w hb; replace BK429 := blk_on gb429 hb; (try clear hb)))
   go_ret
   exact ⟨eqN, bel_now⟩
  ·rw [if_neg c3] at H
   have c3b0 : decide (t430 < 0) = false := decide_eq_false c3
   clear c3
   replace H := Option.bind_eq_some_iff.mp H
   obtain ⟨⟨t431, t432, t433, t434, t437, t438, t439, t440, t441, t444⟩, A70, H⟩ := H
   (try dsimp only at H)
   have A7 := Aside0.mk A70
   clear A70
   replace H := Option.bind_eq_some_iff.mp H
   obtain ⟨t445, A80, H⟩ := H
   (try dsimp only at H)
   have A8 := Aside0.mk A80
   clear A80
   replace H := Option.bind_eq_some_iff.mp H
   obtain ⟨⟨t446, t447, t448, t449, t452, t453, t454, t455, t456, t459⟩, A90, H⟩ := H
   (try dsimp only at H)
   have A9 := Aside0.mk A90
   clear A90
   replace H := Option.bind_eq_some_iff.mp H
   obtain ⟨t461, A100, H⟩ := H
   (try dsimp only at H)
   have A10 := Aside0.mk A100
   clear A100
   by_cases c11 : (t461 != t445) = true
   ·rw [if_pos c11] at H
    have c11b0 : (t461 != t445) = true := c11
    (try (have c11b1 : decide (t461 = t445) = false := by simpa using c11))
    (try (have c11b2 : (t461 == t445) = false := by simpa using c11))
    (try (have c11b3 : ¬ (t461 = t445) := by simpa using c11))
    clear c11
    exact absurd H (by decide)
   ·rw [if_neg c11] at H
    have c11b0 : (t461 != t445) = false := by simpa using c11
    (try (have c11b1 : decide (t461 = t445) = true := by simpa using c11))
    (try (have c11b2 : (t461 == t445) = true := by simpa using c11))
    clear c11
    replace H := Option.bind_eq_some_iff.mp H
    obtain ⟨⟨t462, t463, t464, t465, t468, t469, t470, t471, t472, t475⟩, A120, H⟩ := H
    (try dsimp only at H)
    have A12 := Aside0.mk A120
    clear A120
    replace H := Option.bind_eq_some_iff.mp H
    obtain ⟨t476, A130, H⟩ := H
    (try dsimp only at H)
    have A13 := Aside0.mk A130
    clear A130
    by_cases c14 : t476 = true
    ·subst c14
     have H1 : (some true) = some true := rfl
     clear H
     have H := H1
     clear H1
     clear H
     go_enter Try.func10, Try.ntmps10
     try go_wp2_with (first | ((with_reducible refine gate_dst (N := 1) rfl ?_); refine boxM 1 #[.int .i64 a0_0, .int .i64 a0_1, .int .i64 a0_2, .slice A0_3 l0_3.length c0_3, .int .i64 a0_4, .int .i64 a0_5, .int .i64 a0_6, .int .i64 a0_7, .slice A0_8 l0_8.length c0_8, .int .i64 a0_9] 58 ?_; intro gb429 hg w15 BK429 hb; replace HB := box_at w hb hg; obtain ⟨HB, GW429, GE429⟩ := HB; clear hb hg; obtain ⟨hcz16_0, hcz16_1, hcz16_2, hcz16_3, hcz16_4, hcz16_5, hcz16_6, hcz16_7, hcz16_8, hcz16_9, hfz16_0, hfz16_1, hfz16_2, hfz16_3, hfz16_4, hfz16_5, hfz16_6, hfz16_7, hfz16_8, hfz16_9⟩ := cells10 BK429.out) | ((with_reducible refine gate_callee (f := 38) rfl ?_); refine goesM (some 9) rfl rfl Try.func38 (by kernel_rfl) rfl #[.agg #[.int .i64 a0_0, .int .i64 a0_1, .int .i64 a0_2, .slice A0_3 l0_3.length c0_3, .int .i64 a0_4, .int .i64 a0_5, .int .i64 a0_6, .int .i64 a0_7, .slice A0_8 l0_8.length c0_8, .int .i64 a0_9], .int .i64 1048576] rfl ?_; (with_reducible refine (laws_szJob.calls k a0_0 a0_1 a0_2 _ _ l0_3 a0_4 a0_5 a0_6 a0_7 _ _ l0_8 a0_9 1048576 t430 _ ?side1 ?side2 ?side3 ?side4 A2.out).mono ?_); (case side1 => exact C_now HR0_3.out); (case side2 => exact HC0_3.out); (case side3 => exact C_now HR0_8.out); (case side4 => exact HC0_8.out); rintro e w17 ⟨rfl, hb⟩; refine ⟨_, rfl, ?_⟩; replace HB := bel_on w hb; replace BK429 := blk_on gb429 hb; (try clear hb); obtain ⟨hcz18_0, hcz18_1, hcz18_2, hcz18_3, hcz18_4, hcz18_5, hcz18_6, hcz18_7, hcz18_8, hcz18_9, hfz18_0, hfz18_1, hfz18_2, hfz18_3, hfz18_4, hfz18_5, hfz18_6, hfz18_7, hfz18_8, hfz18_9⟩ := cells10 BK429.out) | ((with_reducible refine gate_callee (f := 40) rfl ?_); refine goesM (some 13) rfl rfl Try.func40 (by kernel_rfl) rfl #[.agg #[.int .i64 a0_0, .int .i64 a0_1, .int .i64 a0_2, .slice A0_3 l0_3.length c0_3, .int .i64 a0_4, .int .i64 a0_5, .int .i64 a0_6, .int .i64 a0_7, .slice A0_8 l0_8.length c0_8, .int .i64 a0_9]] rfl ?_; (with_reducible refine (laws_toJob.calls k a0_0 a0_1 a0_2 _ _ l0_3 a0_4 a0_5 a0_6 a0_7 _ _ l0_8 a0_9 t431 t432 t433 t434 t437 t438 t439 t440 t441 t444 _ ?side1 ?side2 ?side3 ?side4 A7.out).mono ?_); (case side1 => exact C_now HR0_3.out); (case side2 => exact HC0_3.out); (case side3 => exact C_now HR0_8.out); (case side4 => exact HC0_8.out); rintro e w19 ⟨v435, v442, rfl, ho0, ho1, hb⟩; refine ⟨_, rfl, ?_⟩; have n0_ := Aside0.mk (Kd.S_lower ho0 (below_size bel_now)); have n1_ := Aside0.mk (Kd.R_lower ho1 (below_size bel_now)); replace HB := bel_on w hb; replace BK429 := blk_on gb429 hb; have HO436 := n0_; have HO443 := n1_; clear n0_ n1_; (try clear hb); (try clear ho0); (try clear ho1); obtain ⟨Ao20, co20, eo20⟩ := Kd.S_slice HO436.out; subst eo20; obtain ⟨Ao21, co21, eo21⟩ := Kd.R_slice HO443.out; subst eo21) | ((with_reducible refine gate_callee (f := 46) rfl ?_); refine goesM (some 14) rfl rfl Try.func46 (by kernel_rfl) rfl #[.agg #[.int .i64 t431, .int .i64 t432, .int .i64 t433, .slice Ao20 t434.length co20, .int .i64 t437, .int .i64 t438, .int .i64 t439, .int .i64 t440, .slice Ao21 t441.length co21, .int .i64 t444]] rfl ?_; (with_reducible refine (spec_JobDone.calls k t431 t432 t433 _ _ t434 t437 t438 t439 t440 _ _ t441 t444 t445 _ ?side1 ?side2 ?side3 ?side4 A8.out).mono ?_); (case side1 => repeat (first | exact (Kd.S_reads' HO436.out).2.2 | (with_reducible refine Kd.C_alloc ?_ _) | (with_reducible refine Kd.C_drewN ?_ _) | (with_reducible refine Kd.C_drew ?_))); (case side2 => exact (Kd.S_reads' HO436.out).2.1); (case side3 => exact (Kd.R_reads' (R_at HO443.out)).2.2); (case side4 => exact (Kd.R_reads' HO443.out).2.1); rintro e w22 ⟨rfl, hb⟩; refine ⟨_, rfl, ?_⟩; replace HO436 := Aside0.mk (Kd.S_below (by (with_reducible repeat (first | apply Kd.S_alloc | apply Kd.S_drewN | apply Kd.S_drew)); exact HO436.out) hb); replace HO443 := Aside0.mk (Kd.R_below (R_at HO443.out) hb); replace HB := bel_on w hb; replace BK429 := blk_on gb429 hb; (try clear hb); obtain ⟨hcz23_0, hcz23_1, hcz23_2, hcz23_3, hcz23_4, hcz23_5, hcz23_6, hcz23_7, hcz23_8, hcz23_9, hfz23_0, hfz23_1, hfz23_2, hfz23_3, hfz23_4, hfz23_5, hfz23_6, hfz23_7, hfz23_8, hfz23_9⟩ := cells10 BK429.out) | ((with_reducible refine gate_callee (f := 40) rfl ?_); refine goesM (some 16) rfl rfl Try.func40 (by kernel_rfl) rfl #[.agg #[.int .i64 a0_0, .int .i64 a0_1, .int .i64 a0_2, .slice A0_3 l0_3.length c0_3, .int .i64 a0_4, .int .i64 a0_5, .int .i64 a0_6, .int .i64 a0_7, .slice A0_8 l0_8.length c0_8, .int .i64 a0_9]] rfl ?_; (with_reducible refine (laws_toJob.calls k a0_0 a0_1 a0_2 _ _ l0_3 a0_4 a0_5 a0_6 a0_7 _ _ l0_8 a0_9 t446 t447 t448 t449 t452 t453 t454 t455 t456 t459 _ ?side1 ?side2 ?side3 ?side4 A9.out).mono ?_); (case side1 => exact C_now HR0_3.out); (case side2 => exact HC0_3.out); (case side3 => exact C_now HR0_8.out); (case side4 => exact HC0_8.out); rintro e w24 ⟨v450, v457, rfl, ho0, ho1, hb⟩; refine ⟨_, rfl, ?_⟩; have n2_ := Aside0.mk (Kd.S_lower (Kd.S_new' (Kd.S_new' ho0 (Kd.S_lt (by (with_reducible repeat (first | apply Kd.S_alloc | apply Kd.S_drewN | apply Kd.S_drew)); exact HO436.out))) (Kd.R_lt (R_at HO443.out))) (below_size bel_now)); have n3_ := Aside0.mk (Kd.R_lower (Kd.R_new' ho1 (Kd.R_lt (R_at HO443.out))) (below_size bel_now)); replace HO436 := Aside0.mk (Kd.S_mono (Kd.S_told (Kd.S_told (Kd.S_old (by (with_reducible repeat (first | apply Kd.S_alloc | apply Kd.S_drewN | apply Kd.S_drew)); exact HO436.out) hb) (Kd.S_base ho0)) (Kd.R_base ho1)) (fun _ h_ => h_.1)); replace HO443 := Aside0.mk (Kd.R_elder' (R_at HO443.out) (Kd.R_base ho1) hb); replace HB := bel_on w hb; replace BK429 := blk_on gb429 hb; have HO451 := n2_; have HO458 := n3_; clear n2_ n3_; (try clear hb); (try clear ho0); (try clear ho1)) | ((with_reducible refine gate_dst (N := 5) rfl ?_); refine boxM 5 #[.int .i64 0, .int .i64 0, .int .i64 0, .slice none 0 0, .int .i64 0, .int .i64 0, .int .i64 0, .int .i64 0, .slice none 0 0, .int .i64 0] 64 ?_; intro gb460 hg w25 BK460 hb; replace HB := box_at w hb hg; obtain ⟨HB, GW460, GE460⟩ := HB; replace BK429 := box_on gb429 hb hg; obtain ⟨BK429, NB429_460, NB460_429⟩ := BK429; replace HO436 := Aside0.mk (Kd.S_below (by (with_reducible repeat (first | apply Kd.S_alloc | apply Kd.S_drewN | apply Kd.S_drew)); exact HO436.out) hb); replace HO443 := Aside0.mk (Kd.R_below (R_at HO443.out) hb); replace HO451 := Aside0.mk (Kd.S_below (by (with_reducible repeat (first | apply Kd.S_alloc | apply Kd.S_drewN | apply Kd.S_drew)); exact HO451.out) hb); replace HO458 := Aside0.mk (Kd.R_below (R_at HO458.out) hb); clear hb hg; have hnb26 := NB460_429.out; have hnc26 := NB429_460.out; obtain ⟨hcz27_0, hcz27_1, hcz27_2, hcz27_3, hcz27_4, hcz27_5, hcz27_6, hcz27_7, hcz27_8, hcz27_9, hfz27_0, hfz27_1, hfz27_2, hfz27_3, hfz27_4, hfz27_5, hfz27_6, hfz27_7, hfz27_8, hfz27_9⟩ := cells10 BK460.out; obtain ⟨Ao28, co28, eo28⟩ := Kd.S_slice HO451.out; subst eo28; obtain ⟨Ao29, co29, eo29⟩ := Kd.R_slice HO458.out; subst eo29) | ((with_reducible refine gate_callee (f := 47) rfl ?_); refine goesM (some 18) rfl rfl Try.func47 (by kernel_rfl) rfl #[.agg #[.int .i64 t446, .int .i64 t447, .int .i64 t448, .slice Ao28 t449.length co28, .int .i64 t452, .int .i64 t453, .int .i64 t454, .int .i64 t455, .slice Ao29 t456.length co29, .int .i64 t459]] rfl ?_; (with_reducible refine (impl_JobDone.calls k t446 t447 t448 _ _ t449 t452 t453 t454 t455 _ _ t456 t459 t461 _ ?side1 ?side2 ?side3 ?side4 A10.out).mono ?_); (case side1 => refine (Kd.S_reads' (e := 73) (base := w.heap.size) (ok := fun k_ => ((nb k_ Ao29 t456.length co29 ∧ nb k_ Ao20 t434.length co20) ∧ nb k_ Ao21 t441.length co21)) (n := t449.length) (c := co28) ?_).2.2; exact (by (with_reducible repeat (first | apply Kd.S_alloc | apply Kd.S_drewN | apply Kd.S_drew)); exact (Kd.S_mono (Kd.S_far (p := ⟨gb460, 9, none⟩) (Kd.S_far (p := ⟨gb460, 8, none⟩) (Kd.S_far (p := ⟨gb460, 7, none⟩) (Kd.S_far (p := ⟨gb460, 6, none⟩) (Kd.S_far (p := ⟨gb460, 5, none⟩) (Kd.S_far (p := ⟨gb460, 4, none⟩) (Kd.S_far (p := ⟨gb460, 3, none⟩) (Kd.S_far (p := ⟨gb460, 2, none⟩) (Kd.S_far (p := ⟨gb460, 1, none⟩) (Kd.S_far (p := ⟨gb460, 0, none⟩) (Kd.S_types HO451.out BK460.out (by decide)) (fun _ hk => hk.2) (.int .i64 t446)) (fun _ hk => hk.2) (.int .i64 t447)) (fun _ hk => hk.2) (.int .i64 t448)) (fun _ hk => hk.2) (.slice Ao28 t449.length co28)) (fun _ hk => hk.2) (.int .i64 t452)) (fun _ hk => hk.2) (.int .i64 t453)) (fun _ hk => hk.2) (.int .i64 t454)) (fun _ hk => hk.2) (.int .i64 t455)) (fun _ hk => hk.2) (.slice Ao29 t456.length co29)) (fun _ hk => hk.2) (.int .i64 t459)) (fun _ h_ => h_.1)))); (case side2 => exact (Kd.S_reads' HO451.out).2.1); (case side3 => refine (Kd.R_reads' (e := 3) (base := w.heap.size) (ok := fun k_ => (True ∧ nb k_ Ao21 t441.length co21)) (n := t456.length) (c := co29) ?_).2.2; exact (R_at (R_far10 HO458.out BK460.out (by decide)))); (case side4 => exact (Kd.R_reads' HO458.out).2.1); rintro e w30 ⟨rfl, hb⟩; refine ⟨_, rfl, ?_⟩; have n0_ := Aside0.mk (Kd.S_below (by (with_reducible repeat (first | apply Kd.S_alloc | apply Kd.S_drewN | apply Kd.S_drew)); exact (Kd.S_mono (Kd.S_far (p := ⟨gb460, 9, none⟩) (Kd.S_far (p := ⟨gb460, 8, none⟩) (Kd.S_far (p := ⟨gb460, 7, none⟩) (Kd.S_far (p := ⟨gb460, 6, none⟩) (Kd.S_far (p := ⟨gb460, 5, none⟩) (Kd.S_far (p := ⟨gb460, 4, none⟩) (Kd.S_far (p := ⟨gb460, 3, none⟩) (Kd.S_far (p := ⟨gb460, 2, none⟩) (Kd.S_far (p := ⟨gb460, 1, none⟩) (Kd.S_far (p := ⟨gb460, 0, none⟩) (Kd.S_types HO436.out BK460.out (by decide)) (fun _ hk => hk.2) (.int .i64 t446)) (fun _ hk => hk.2) (.int .i64 t447)) (fun _ hk => hk.2) (.int .i64 t448)) (fun _ hk => hk.2) (.slice Ao28 t449.length co28)) (fun _ hk => hk.2) (.int .i64 t452)) (fun _ hk => hk.2) (.int .i64 t453)) (fun _ hk => hk.2) (.int .i64 t454)) (fun _ hk => hk.2) (.int .i64 t455)) (fun _ hk => hk.2) (.slice Ao29 t456.length co29)) (fun _ hk => hk.2) (.int .i64 t459)) (fun _ h_ => h_.1))) hb); have n1_ := Aside0.mk (Kd.R_below (R_at (R_far10 HO443.out BK460.out (by decide))) hb); have n2_ := Aside0.mk (Kd.S_below (by (with_reducible repeat (first | apply Kd.S_alloc | apply Kd.S_drewN | apply Kd.S_drew)); exact (Kd.S_mono (Kd.S_far (p := ⟨gb460, 9, none⟩) (Kd.S_far (p := ⟨gb460, 8, none⟩) (Kd.S_far (p := ⟨gb460, 7, none⟩) (Kd.S_far (p := ⟨gb460, 6, none⟩) (Kd.S_far (p := ⟨gb460, 5, none⟩) (Kd.S_far (p := ⟨gb460, 4, none⟩) (Kd.S_far (p := ⟨gb460, 3, none⟩) (Kd.S_far (p := ⟨gb460, 2, none⟩) (Kd.S_far (p := ⟨gb460, 1, none⟩) (Kd.S_far (p := ⟨gb460, 0, none⟩) (Kd.S_types HO451.out BK460.out (by decide)) (fun _ hk => hk.2) (.int .i64 t446)) (fun _ hk => hk.2) (.int .i64 t447)) (fun _ hk => hk.2) (.int .i64 t448)) (fun _ hk => hk.2) (.slice Ao28 t449.length co28)) (fun _ hk => hk.2) (.int .i64 t452)) (fun _ hk => hk.2) (.int .i64 t453)) (fun _ hk => hk.2) (.int .i64 t454)) (fun _ hk => hk.2) (.int .i64 t455)) (fun _ hk => hk.2) (.slice Ao29 t456.length co29)) (fun _ hk => hk.2) (.int .i64 t459)) (fun _ h_ => h_.1))) hb); have n3_ := Aside0.mk (Kd.R_below (R_at (R_far10 HO458.out BK460.out (by decide))) hb); replace HB := bel_on w hb; replace BK429 := Aside0.mk (blk_below (g := gb429) (o := .cells #[.int .i64 a0_0, .int .i64 a0_1, .int .i64 a0_2, .slice A0_3 l0_3.length c0_3, .int .i64 a0_4, .int .i64 a0_5, .int .i64 a0_6, .int .i64 a0_7, .slice A0_8 l0_8.length c0_8, .int .i64 a0_9] 58 (0, 0)) (blk_fars BK429.out) hb); replace BK460 := Aside0.mk (blk_below (g := gb460) (o := .cells #[.int .i64 t446, .int .i64 t447, .int .i64 t448, .slice Ao28 t449.length co28, .int .i64 t452, .int .i64 t453, .int .i64 t454, .int .i64 t455, .slice Ao29 t456.length co29, .int .i64 t459] 64 (0, 0)) (by (with_reducible repeat (first | refine blk_drewN ?_ _ | refine blk_drew ?_ | refine blk_alloc ?_ _)); first | exact putl10 BK460.out | exact blk_fars (putl10 BK460.out)) hb); clear HO436 HO443 HO451 HO458; have HO436 := n0_; have HO443 := n1_; have HO451 := n2_; have HO458 := n3_; clear n0_ n1_ n2_ n3_; (try clear hb); (try clear hk)))
     replace HO436 := Aside0.mk (Kd.S_drew HO436.out)
     replace HO443 := Aside0.mk (Kd.R_drew HO443.out)
     replace HO451 := Aside0.mk (Kd.S_drew HO451.out)
     replace HO458 := Aside0.mk (Kd.R_drew HO458.out)
     replace BK429 := Aside0.mk (blk_drew BK429.out)
     replace BK460 := Aside0.mk (blk_drew BK460.out)
     replace HB := Aside0.mk (below_drew1 HB.out)
     refine start_ (n := 5) (S := fun w' => w'.cell? ⟨gb460, 0, none⟩ = some (.int .i64 t446) ∧ w'.cell? ⟨gb460, 1, none⟩ = some (.int .i64 t447) ∧ w'.cell? ⟨gb460, 2, none⟩ = some (.int .i64 t448) ∧ w'.cell? ⟨gb460, 3, none⟩ = some (.slice Ao28 t449.length co28) ∧ w'.cell? ⟨gb460, 4, none⟩ = some (.int .i64 t452) ∧ w'.cell? ⟨gb460, 5, none⟩ = some (.int .i64 t453) ∧ w'.cell? ⟨gb460, 6, none⟩ = some (.int .i64 t454) ∧ w'.cell? ⟨gb460, 7, none⟩ = some (.int .i64 t455) ∧ w'.cell? ⟨gb460, 8, none⟩ = some (.slice Ao29 t456.length co29) ∧ w'.cell? ⟨gb460, 9, none⟩ = some (.int .i64 t459) ∧ w'.cell? ⟨gb429, 0, none⟩ = some (.int .i64 a0_0) ∧ w'.cell? ⟨gb429, 1, none⟩ = some (.int .i64 a0_1) ∧ w'.cell? ⟨gb429, 2, none⟩ = some (.int .i64 a0_2) ∧ w'.cell? ⟨gb429, 3, none⟩ = some (.slice A0_3 l0_3.length c0_3) ∧ w'.cell? ⟨gb429, 4, none⟩ = some (.int .i64 a0_4) ∧ w'.cell? ⟨gb429, 5, none⟩ = some (.int .i64 a0_5) ∧ w'.cell? ⟨gb429, 6, none⟩ = some (.int .i64 a0_6) ∧ w'.cell? ⟨gb429, 7, none⟩ = some (.int .i64 a0_7) ∧ w'.cell? ⟨gb429, 8, none⟩ = some (.slice A0_8 l0_8.length c0_8) ∧ w'.cell? ⟨gb429, 9, none⟩ = some (.int .i64 a0_9)) (ds := []) #[false, false, false, false, false] (by kernel_rfl) rfl rfl ⟨bc BK460 0, bc BK460 1, bc BK460 2, bc BK460 3, bc BK460 4, bc BK460 5, bc BK460 6, bc BK460 7, bc BK460 8, bc BK460 9, bc BK429 0, bc BK429 1, bc BK429 2, bc BK429 3, bc BK429 4, bc BK429 5, bc BK429 6, bc BK429 7, bc BK429 8, bc BK429 9⟩ (fun hHeld => ?_)
     generalize w30.drew = w31 at HO436 HO443 HO451 HO458 BK429 BK460 HB hHeld ⊢
     refine stepT 0 (some 22) (tk 5 1) (by kernel_rfl) hHeld ?_
     refine stepT 1 (some 23) (tk 5 3) (by kernel_rfl) hHeld ?_
     refine one_ (i := 2) (N := some 24) #[true, true, true, false, false] rfl rfl (by kernel_rfl) (by decide) (fun K hK => ?_)
     refine goes_ Try.func40 (by kernel_rfl) rfl #[.agg #[.int .i64 a0_0, .int .i64 a0_1, .int .i64 a0_2, .slice A0_3 l0_3.length c0_3, .int .i64 a0_4, .int .i64 a0_5, .int .i64 a0_6, .int .i64 a0_7, .slice A0_8 l0_8.length c0_8, .int .i64 a0_9]] (by rfl) rfl rfl (by (try simp only [List.map_toArray, List.map_cons, List.map_nil]); first | done | rfl | (simp only [List.length_drop, List.length_take]; rfl)) ?_
     with_reducible refine (laws_toJob.calls k a0_0 a0_1 a0_2 _ _ l0_3 a0_4 a0_5 a0_6 a0_7 _ _ l0_8 a0_9 t462 t463 t464 t465 t468 t469 t470 t471 t472 t475 _ ?side1 ?side2 ?side3 ?side4 A12.out).mono ?_
     (case side1 => exact C_now HR0_3.out)
     (case side2 => exact HC0_3.out)
     (case side3 => exact C_now HR0_8.out)
     (case side4 => exact HC0_8.out)
     rintro e w32 ⟨v466, v473, rfl, ho0, ho1, hb⟩
     refine ⟨_, rfl, ?_⟩
     have n4_ := Aside0.mk (Kd.S_lower (Kd.S_new' (Kd.S_new' (Kd.S_new' (Kd.S_new' ho0 (Kd.S_lt (by (with_reducible repeat (first | apply Kd.S_alloc | apply Kd.S_drewN | apply Kd.S_drew)); exact HO436.out))) (Kd.R_lt (R_at HO443.out))) (Kd.S_lt (by (with_reducible repeat (first | apply Kd.S_alloc | apply Kd.S_drewN | apply Kd.S_drew)); exact HO451.out))) (Kd.R_lt (R_at HO458.out))) (below_size bel_now))
     have n5_ := Aside0.mk (Kd.R_lower (Kd.R_new' (Kd.R_new' ho1 (Kd.R_lt (R_at HO443.out))) (Kd.R_lt (R_at HO458.out))) (below_size bel_now))
     replace HO436 := Aside0.mk (Kd.S_mono (Kd.S_told (Kd.S_told (Kd.S_old (by (with_reducible repeat (first | apply Kd.S_alloc | apply Kd.S_drewN | apply Kd.S_drew)); exact HO436.out) hb) (Kd.S_base ho0)) (Kd.R_base ho1)) (fun _ h_ => h_.1))
     replace HO443 := Aside0.mk (Kd.R_elder' (R_at HO443.out) (Kd.R_base ho1) hb)
     replace HO451 := Aside0.mk (Kd.S_mono (Kd.S_told (Kd.S_told (Kd.S_old (by (with_reducible repeat (first | apply Kd.S_alloc | apply Kd.S_drewN | apply Kd.S_drew)); exact HO451.out) hb) (Kd.S_base ho0)) (Kd.R_base ho1)) (fun _ h_ => h_.1))
     replace HO458 := Aside0.mk (Kd.R_elder' (R_at HO458.out) (Kd.R_base ho1) hb)
     replace BK429 := blk_on gb429 hb
     replace BK460 := blk_on gb460 hb
     replace HB := bel_on w hb
     have HO467 := n4_
     have HO474 := n5_
     clear n4_ n5_
     (try clear hb)
     (try clear hb2)
     (try clear hk)
     (try clear hi)
     (try clear ho0)
     (try clear ho1)
     obtain ⟨Ao33, co33, eo33⟩ := Kd.S_slice HO467.out
     (first | subst eo33 | (injection eo33 with f1_ f2_ f3_; have f4_ := f1_.symm; have f5_ := f3_.symm; clear f1_ f2_ f3_; subst f4_; subst f5_))
     obtain ⟨Ao34, co34, eo34⟩ := Kd.R_slice HO474.out
     (first | subst eo34 | (injection eo34 with f1_ f2_ f3_; have f4_ := f1_.symm; have f5_ := f3_.symm; clear f1_ f2_ f3_; subst f4_; subst f5_))
     refine hK.out _ _ ⟨bc BK460 0, bc BK460 1, bc BK460 2, bc BK460 3, bc BK460 4, bc BK460 5, bc BK460 6, bc BK460 7, bc BK460 8, bc BK460 9, bc BK429 0, bc BK429 1, bc BK429 2, bc BK429 3, bc BK429 4, bc BK429 5, bc BK429 6, bc BK429 7, bc BK429 8, bc BK429 9⟩ (fun hHeld => ?_)
     clear hK K
     refine norm_ (a' := ?_) ?_ ?_
     rotate_left
     ·show Act.put _ (some 24) _ = _
      simp only [Act.put, zA, zB, zC, i64_w, i32_w]
      rfl
     refine one_ (i := 3) (N := some 25) #[true, true, true, true, false] rfl rfl (by kernel_rfl) (by decide) (fun K hK => ?_)
     refine goes_ Try.func42 (by kernel_rfl) rfl #[.agg #[.int .i64 t446, .int .i64 t447, .int .i64 t448, .slice Ao28 t449.length co28, .int .i64 t452, .int .i64 t453, .int .i64 t454, .int .i64 t455, .slice Ao29 t456.length co29, .int .i64 t459], .agg #[.int .i64 t462, .int .i64 t463, .int .i64 t464, .slice Ao33 t465.length co33, .int .i64 t468, .int .i64 t469, .int .i64 t470, .int .i64 t471, .slice Ao34 t472.length co34, .int .i64 t475]] (by rfl) rfl rfl (by (try simp only [List.map_toArray, List.map_cons, List.map_nil]); first | done | rfl | (simp only [List.length_drop, List.length_take]; rfl)) ?_
     with_reducible refine (laws_eqJob.calls k t446 t447 t448 _ _ t449 t452 t453 t454 t455 _ _ t456 t459 t462 t463 t464 _ _ t465 t468 t469 t470 t471 _ _ t472 t475 true _ ?side1 ?side2 ?side3 ?side4 ?side5 ?side6 ?side7 ?side8 A13.out).mono ?_
     (case side1 => repeat (first | exact (Kd.S_reads' HO451.out).2.2 | (with_reducible refine Kd.C_alloc ?_ _) | (with_reducible refine Kd.C_drewN ?_ _) | (with_reducible refine Kd.C_drew ?_)))
     (case side2 => exact (Kd.S_reads' HO451.out).2.1)
     (case side3 => exact (Kd.R_reads' (R_at HO458.out)).2.2)
     (case side4 => exact (Kd.R_reads' HO458.out).2.1)
     (case side5 => repeat (first | exact (Kd.S_reads' HO467.out).2.2 | (with_reducible refine Kd.C_alloc ?_ _) | (with_reducible refine Kd.C_drewN ?_ _) | (with_reducible refine Kd.C_drew ?_)))
     (case side6 => exact (Kd.S_reads' HO467.out).2.1)
     (case side7 => exact (Kd.R_reads' (R_at HO474.out)).2.2)
     (case side8 => exact (Kd.R_reads' HO474.out).2.1)
     rintro e w35 ⟨rfl, hb⟩
     refine ⟨_, rfl, ?_⟩
     replace HO436 := Aside0.mk (Kd.S_below (by (with_reducible repeat (first | apply Kd.S_alloc | apply Kd.S_drewN | apply Kd.S_drew)); exact HO436.out) hb)
     replace HO443 := Aside0.mk (Kd.R_below (R_at HO443.out) hb)
     replace HO451 := Aside0.mk (Kd.S_below (by (with_reducible repeat (first | apply Kd.S_alloc | apply Kd.S_drewN | apply Kd.S_drew)); exact HO451.out) hb)
     replace HO458 := Aside0.mk (Kd.R_below (R_at HO458.out) hb)
     replace HO467 := Aside0.mk (Kd.S_below (by (with_reducible repeat (first | apply Kd.S_alloc | apply Kd.S_drewN | apply Kd.S_drew)); exact HO467.out) hb)
     replace HO474 := Aside0.mk (Kd.R_below (R_at HO474.out) hb)
     replace BK429 := blk_on gb429 hb
     replace BK460 := blk_on gb460 hb
     replace HB := bel_on w hb
     (try clear hb)
     (try clear hb2)
     (try clear hk)
     (try clear hi)
     refine hK.out _ _ ⟨bc BK460 0, bc BK460 1, bc BK460 2, bc BK460 3, bc BK460 4, bc BK460 5, bc BK460 6, bc BK460 7, bc BK460 8, bc BK460 9, bc BK429 0, bc BK429 1, bc BK429 2, bc BK429 3, bc BK429 4, bc BK429 5, bc BK429 6, bc BK429 7, bc BK429 8, bc BK429 9⟩ (fun hHeld => ?_)
     clear hK K
     refine norm_ (a' := ?_) ?_ ?_
     rotate_left
     ·show Act.put _ (some 25) _ = _
      simp only [Act.put, zA, zB, zC, i64_w, i32_w]
      rfl
     refine stepP 4 (some 26) (tk 5 31) (by kernel_rfl) ?_
     refine done_ (by kernel_rfl) ?_
     try go_wp2
     go_ret
     exact ⟨eqN, bel_now⟩
    ·replace c14 := Bool.eq_false_iff.mpr c14
     subst c14
     rw [if_neg (show ¬ (false = true) by decide)] at H
     exact absurd H (by decide)

end Go.Proofs.Ytljdcemdhmaahaa.PFnExactJobDone
