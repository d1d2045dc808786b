-- Printed by the session's own program (wip/myprint.py) for this claim out of the translation. Not trusted: Lean checks it.
import Derived.Test.YtljdcemdhmaahaaPFnExactEncodeModelx0
import Derived.Test.YtljdcemdhmaahaaPFnExactEncodeModelx1
import Derived.Test.YtljdcemdhmaahaaPFnExactEncodeModelx6
import Derived.Test.YtljdcemdhmaahaaPFnExactEncodeModelx11
import Derived.Test.YtljdcemdhmaahaaPFnExactEncodeModelx12
import Derived.Test.YtljdcemdhmaahaaPFnExactEncodeModelx13
namespace Go.Proofs.Ytljdcemdhmaahaa.PFnExactEncodeModel
open Go.RowKit Go.Proofs.YtljdcemdhmaahaaW.PrintWords Go.Proofs.YtljdcemdhmaahaaW.PrintLast Go.Proofs.YtljdcemdhmaahaaW.PrintMore
attribute [local go_sem] max2_int min2_int max_two min_two max_three min_three max_four min_four   -- for this text's walks alone
set_option linter.unusedVariables false
set_option linter.unusedSimpArgs false

/-! ### laws_FnExactEncodeModel: function 9 -/
mutual
def laws_FnExactEncodeModel.j0 : Nat → List Int → Bool → List Int → Bool → Bool → Int → Int → Int → List (S117) → Int → Int → Int → List (S73) → Option (Bool)
  | 0, _, _, _, _, _, _, _, _, _, _, _, _, _ => none
  | k + 1, x4, x5, x7, x8, x40, x378000, x378001, x378002, x378003, x396000, x396001, x396002, x396003 => if x40 = true then (some false) else ((laws_toModel.f k x378000 x378001 x378002 x378003).bind fun bt401 => ((laws_eqModel.f k x396000 x396001 x396002 x396003 bt401.1 bt401.2.1 bt401.2.2.1 bt401.2.2.2).bind fun t407 => (if t407 = true then ((laws_markModel.f x396000 x396001 x396002 x396003 1).bind fun t408 => (if t408 < 0 then (laws_FnExactEncodeModel.j1 k x4 x5 x7 true x378000 x378001 x378002 x378003) else ((laws_eqByteS.f k x7 x4).bind fun t409 => (if t409 = true then (laws_FnExactEncodeModel.j1 k x4 x5 x7 (x8 != x5) x378000 x378001 x378002 x378003) else (laws_FnExactEncodeModel.j1 k x4 x5 x7 true x378000 x378001 x378002 x378003))))) else (some false))))
def laws_FnExactEncodeModel.j1 : Nat → List Int → Bool → List Int → Bool → Int → Int → Int → List (S117) → Option (Bool)
  | 0, _, _, _, _, _, _, _, _ => none
  | k + 1, x4, x5, x7, x61, x378000, x378001, x378002, x378003 => if x61 = true then (some false) else ((laws_markByteS.f k x7 1).bind fun bt410 => ((laws_heldByteS.f k bt410.2 1).bind fun t412 => (if t412 < 0 then (some false) else (if t412 = bt410.1 then ((laws_toModel.f k x378000 x378001 x378002 x378003).bind fun bt413 => ((impl_EncodeModel.f k bt413.1 bt413.2.1 bt413.2.2.1 bt413.2.2.2).bind fun bt419 => ((laws_eqByteS.f k bt419.1 x4).bind fun t423 => (if t423 = true then (laws_FnExactEncodeModel.j2 k bt410.2 bt410.1 (bt419.2 != x5)) else (laws_FnExactEncodeModel.j2 k bt410.2 bt410.1 true))))) else (some false)))))
def laws_FnExactEncodeModel.j2 : Nat → List Int → Int → Bool → Option (Bool)
  | 0, _, _, _ => none
  | k + 1, x7, x10, x87 => if x87 = true then (some false) else ((laws_heldByteS.f k x7 1).bind fun t424 => (if t424 < 0 then (some false) else (if t424 = x10 then (some true) else (some false))))
end
def laws_FnExactEncodeModel.f (k : Nat) (a0_0 : Int) (a0_1 : Int) (a0_2 : Int) (l0_3 : List (S117)) : Option (Bool) := (laws_szModel.f k a0_0 a0_1 a0_2 l0_3 1048576).bind fun t378 => (if t378 < 0 then (some true) else ((laws_toModel.f k a0_0 a0_1 a0_2 l0_3).bind fun bt379 => ((spec_EncodeModel.f k bt379.1 bt379.2.1 bt379.2.2.1 bt379.2.2.2).bind fun bt385 => ((laws_toModel.f k a0_0 a0_1 a0_2 l0_3).bind fun bt389 => ((impl_EncodeModel.f k bt389.1 bt389.2.1 bt389.2.2.1 bt389.2.2.2).bind fun bt396 => ((laws_eqByteS.f k bt396.1 bt385.1).bind fun t400 => (if t400 = true then (laws_FnExactEncodeModel.j0 k bt385.1 bt385.2 bt396.1 bt396.2 (bt396.2 != bt385.2) a0_0 a0_1 a0_2 l0_3 bt389.1 bt389.2.1 bt389.2.2.1 bt389.2.2.2) else (laws_FnExactEncodeModel.j0 k bt385.1 bt385.2 bt396.1 bt396.2 true a0_0 a0_1 a0_2 l0_3 bt389.1 bt389.2.1 bt389.2.2.1 bt389.2.2.2))))))))
set_option maxHeartbeats 8000000 in
set_option maxRecDepth 100000 in
theorem laws_FnExactEncodeModel.calls (k : Nat) (a0_0 : Int) (a0_1 : Int) (a0_2 : Int) (A0_3 : Option Addr) (c0_3 : Nat) (l0_3 : List (S117)) (w : World) (hr0_3 : Kd.C k117 w A0_3 l0_3.length l0_3) (hc0_3 : l0_3.length ≤ c0_3) (h : laws_FnExactEncodeModel.f k a0_0 a0_1 a0_2 l0_3 = some true) :
   Calls Try.prog 9 #[.agg #[.int .i64 a0_0, .int .i64 a0_1, .int .i64 a0_2, .slice A0_3 l0_3.length c0_3]] w fun e w' => e = .returned (.bool true) ∧ Below w.heap.size w w' := by
  have hu42 := Try.underlying42
  have hu28 := Try.underlying28
  have HR0_3 := Aside0.mk hr0_3
  have HC0_3 := Aside0.mk hc0_3
  clear hr0_3 hc0_3
  have HB := Aside0.mk (Below.refl w.heap.size w)
  have H : ((laws_szModel.f k a0_0 a0_1 a0_2 l0_3 1048576).bind fun t378 => (if t378 < 0 then (some true) else ((laws_toModel.f k a0_0 a0_1 a0_2 l0_3).bind fun bt379 => ((spec_EncodeModel.f k bt379.1 bt379.2.1 bt379.2.2.1 bt379.2.2.2).bind fun bt385 => ((laws_toModel.f k a0_0 a0_1 a0_2 l0_3).bind fun bt389 => ((impl_EncodeModel.f k bt389.1 bt389.2.1 bt389.2.2.1 bt389.2.2.2).bind fun bt396 => ((laws_eqByteS.f k bt396.1 bt385.1).bind fun t400 => (if t400 = true then (laws_FnExactEncodeModel.j0 k bt385.1 bt385.2 bt396.1 bt396.2 (bt396.2 != bt385.2) a0_0 a0_1 a0_2 l0_3 bt389.1 bt389.2.1 bt389.2.2.1 bt389.2.2.2) else (laws_FnExactEncodeModel.j0 k bt385.1 bt385.2 bt396.1 bt396.2 true a0_0 a0_1 a0_2 l0_3 bt389.1 bt389.2.1 bt389.2.2.1 bt389.2.2.2))))))))) = some true := h
  clear h
  replace H := Option.bind_eq_some_iff.mp H
  obtain ⟨t378, A20, H⟩ := H
  (try dsimp only at H)
  have A2 := Aside0.mk A20
  clear A20
  by_cases c3 : t378 < 0
  ·rw [if_pos c3] at H
   have c3b0 : decide (t378 < 0) = true := decide_eq_true c3
   clear c3
   clear H
   go_enter Try.func9, Try.ntmps9
   go_wp2_with (first | ((with_reducible refine gate_dst (N := 1) rfl ?_); refine boxM 1 #[.int .i64 a0_0, .int .i64 a0_1, .int .i64 a0_2, .slice A0_3 l0_3.length c0_3] 42 ?_; intro gb377 hg w4 BK377 hb; replace HB := box_at w hb hg; obtain ⟨HB, GW377, GE377⟩ := HB; clear hb hg; have hcz5 := cells4 BK377.out) | ((with_reducible refine gate_callee (f := 22) rfl ?_); refine goesM (some 16) rfl rfl Try.func22 (by kernel_rfl) rfl #[.agg #[.int .i64 a0_0, .int .i64 a0_1, .int .i64 a0_2, .slice A0_3 l0_3.length c0_3], .int .i64 1048576] rfl ?_; (with_reducible refine (laws_szModel.calls k a0_0 a0_1 a0_2 _ _ l0_3 1048576 t378 _ ?side1 ?side2 A2.out).mono ?_); (case side1 => exact C_now HR0_3.out); (case side2 => exact HC0_3.out); rintro e w6 ⟨rfl, hb⟩; refine ⟨_, rfl, ?_⟩; replace HB := bel_on w hb; replace BK377 := blk_on gb377 hb; (try clear hb)))
   go_ret
   exact ⟨eqN, bel_now⟩
  rw [if_neg c3] at H
  have c3b0 : decide (t378 < 0) = false := decide_eq_false c3
  clear c3
  replace H := Option.bind_eq_some_iff.mp H
  obtain ⟨⟨t379, t380, t381, t382⟩, A70, H⟩ := H
  (try dsimp only at H)
  have A7 := Aside0.mk A70
  clear A70
  replace H := Option.bind_eq_some_iff.mp H
  obtain ⟨⟨t385, t388⟩, A80, H⟩ := H
  (try dsimp only at H)
  have A8 := Aside0.mk A80
  clear A80
  replace H := Option.bind_eq_some_iff.mp H
  obtain ⟨⟨t389, t390, t391, t392⟩, A90, H⟩ := H
  (try dsimp only at H)
  have A9 := Aside0.mk A90
  clear A90
  replace H := Option.bind_eq_some_iff.mp H
  obtain ⟨⟨t396, t399⟩, A100, H⟩ := H
  (try dsimp only at H)
  have A10 := Aside0.mk A100
  clear A100
  have HC11 := Aside0.mk H
  clear H
  go_enter Try.func9, Try.ntmps9
  go_upto_region 8 with (first | ((with_reducible refine gate_dst (N := 1) rfl ?_); refine boxM 1 #[.int .i64 a0_0, .int .i64 a0_1, .int .i64 a0_2, .slice A0_3 l0_3.length c0_3] 42 ?_; intro gb377 hg w12 BK377 hb; replace HB := box_at w hb hg; obtain ⟨HB, GW377, GE377⟩ := HB; clear hb hg; have hcz13 := cells4 BK377.out) | ((with_reducible refine gate_callee (f := 22) rfl ?_); refine goesM (some 16) rfl rfl Try.func22 (by kernel_rfl) rfl #[.agg #[.int .i64 a0_0, .int .i64 a0_1, .int .i64 a0_2, .slice A0_3 l0_3.length c0_3], .int .i64 1048576] rfl ?_; (with_reducible refine (laws_szModel.calls k a0_0 a0_1 a0_2 _ _ l0_3 1048576 t378 _ ?side1 ?side2 A2.out).mono ?_); (case side1 => exact C_now HR0_3.out); (case side2 => exact HC0_3.out); rintro e w14 ⟨rfl, hb⟩; refine ⟨_, rfl, ?_⟩; replace HB := bel_on w hb; replace BK377 := blk_on gb377 hb; (try clear hb); have hcz15 := cells4 BK377.out) | ((with_reducible refine gate_callee (f := 24) rfl ?_); refine goesM (some 21) rfl rfl Try.func24 (by kernel_rfl) rfl #[.agg #[.int .i64 a0_0, .int .i64 a0_1, .int .i64 a0_2, .slice A0_3 l0_3.length c0_3]] rfl ?_; (with_reducible refine (laws_toModel.calls k a0_0 a0_1 a0_2 _ _ l0_3 t379 t380 t381 t382 _ ?side1 ?side2 A7.out).mono ?_); (case side1 => exact C_now HR0_3.out); (case side2 => exact HC0_3.out); rintro e w16 ⟨v383, rfl, ho0, hb⟩; refine ⟨_, rfl, ?_⟩; have n0_ := Aside0.mk (Kd.S_lower ho0 (below_size bel_now)); replace HB := bel_on w hb; replace BK377 := blk_on gb377 hb; have HO384 := n0_; clear n0_; (try clear hb); (try clear ho0); obtain ⟨Ao17, co17, eo17⟩ := Kd.S_slice HO384.out; subst eo17) | ((with_reducible refine gate_callee (f := 15) rfl ?_); refine goesM (some 22) rfl rfl Try.func15 (by kernel_rfl) rfl #[.agg #[.int .i64 t379, .int .i64 t380, .int .i64 t381, .slice Ao17 t382.length co17]] rfl ?_; (with_reducible refine (spec_EncodeModel.calls k t379 t380 t381 _ _ t382 t385 t388 _ ?side1 ?side2 A8.out).mono ?_); (case side1 => repeat (first | exact (Kd.S_reads' HO384.out).2.2 | (with_reducible refine Kd.C_alloc ?_ _) | (with_reducible refine Kd.C_drewN ?_ _) | (with_reducible refine Kd.C_drew ?_))); (case side2 => exact (Kd.S_reads' HO384.out).2.1); rintro e w18 ⟨v386, rfl, ho0, hb⟩; refine ⟨_, rfl, ?_⟩; have n1_ := Aside0.mk (Kd.R_lower ho0 (below_size bel_now)); replace HO384 := Aside0.mk (Kd.S_below (by (with_reducible repeat (first | apply Kd.S_alloc | apply Kd.S_drewN | apply Kd.S_drew)); exact HO384.out) hb); replace HB := bel_on w hb; replace BK377 := blk_on gb377 hb; have HO387 := n1_; clear n1_; (try clear hb); (try clear ho0); have hcz19 := cells4 BK377.out) | ((with_reducible refine gate_callee (f := 24) rfl ?_); refine goesM (some 26) rfl rfl Try.func24 (by kernel_rfl) rfl #[.agg #[.int .i64 a0_0, .int .i64 a0_1, .int .i64 a0_2, .slice A0_3 l0_3.length c0_3]] rfl ?_; (with_reducible refine (laws_toModel.calls k a0_0 a0_1 a0_2 _ _ l0_3 t389 t390 t391 t392 _ ?side1 ?side2 A9.out).mono ?_); (case side1 => exact C_now HR0_3.out); (case side2 => exact HC0_3.out); rintro e w20 ⟨v393, rfl, ho0, hb⟩; refine ⟨_, rfl, ?_⟩; have n2_ := Aside0.mk (Kd.S_lower (Kd.S_new' ho0 (Kd.S_lt (by (with_reducible repeat (first | apply Kd.S_alloc | apply Kd.S_drewN | apply Kd.S_drew)); exact HO384.out))) (below_size bel_now)); replace HO384 := Aside0.mk (Kd.S_elder' (by (with_reducible repeat (first | apply Kd.S_alloc | apply Kd.S_drewN | apply Kd.S_drew)); exact HO384.out) (Kd.S_base ho0) hb); replace HO387 := Aside0.mk (Kd.R_below (R_at HO387.out) hb); replace HB := bel_on w hb; replace BK377 := blk_on gb377 hb; have HO394 := n2_; clear n2_; (try clear hb); (try clear ho0)) | ((with_reducible refine gate_dst (N := 6) rfl ?_); refine boxM 6 #[.int .i64 0, .int .i64 0, .int .i64 0, .slice none 0 0] 28 ?_; intro gb395 hg w21 BK395 hb; replace HB := box_at w hb hg; obtain ⟨HB, GW395, GE395⟩ := HB; replace BK377 := box_on gb377 hb hg; obtain ⟨BK377, NB377_395, NB395_377⟩ := BK377; replace HO384 := Aside0.mk (Kd.S_below (by (with_reducible repeat (first | apply Kd.S_alloc | apply Kd.S_drewN | apply Kd.S_drew)); exact HO384.out) hb); replace HO387 := Aside0.mk (Kd.R_below (R_at HO387.out) hb); replace HO394 := Aside0.mk (Kd.S_below (by (with_reducible repeat (first | apply Kd.S_alloc | apply Kd.S_drewN | apply Kd.S_drew)); exact HO394.out) hb); clear hb hg; have hn22 := ne2 NB395_377; have hcz23 := cells4 BK395.out; obtain ⟨Ao24, co24, eo24⟩ := Kd.S_slice HO394.out; subst eo24) | ((with_reducible refine gate_callee (f := 14) rfl ?_); refine goesM (some 29) rfl rfl Try.func14 (by kernel_rfl) rfl #[.agg #[.int .i64 t389, .int .i64 t390, .int .i64 t391, .slice Ao24 t392.length co24]] rfl ?_; (with_reducible refine (impl_EncodeModel.calls k t389 t390 t391 _ _ t392 t396 t399 _ ?side1 ?side2 A10.out).mono ?_); (case side1 => refine (Kd.S_reads' (e := 73) (base := w.heap.size) (ok := fun k_ => (True ∧ nb k_ Ao17 t382.length co17)) (n := t392.length) (c := co24) ?_).2.2; exact (by (with_reducible repeat (first | apply Kd.S_alloc | apply Kd.S_drewN | apply Kd.S_drew)); exact (Kd.S_mono (Kd.S_far (p := ⟨gb395, 3, none⟩) (Kd.S_far (p := ⟨gb395, 2, none⟩) (Kd.S_far (p := ⟨gb395, 1, none⟩) (Kd.S_far (p := ⟨gb395, 0, none⟩) (Kd.S_types HO394.out BK395.out (by decide)) (fun _ hk => hk.2) (.int .i64 t389)) (fun _ hk => hk.2) (.int .i64 t390)) (fun _ hk => hk.2) (.int .i64 t391)) (fun _ hk => hk.2) (.slice Ao24 t392.length co24)) (fun _ h_ => h_.1)))); (case side2 => exact (Kd.S_reads' HO394.out).2.1); rintro e w25 ⟨v397, rfl, ho0, hb⟩; refine ⟨_, rfl, ?_⟩; have n0_ := Aside0.mk (Kd.S_below (by (with_reducible repeat (first | apply Kd.S_alloc | apply Kd.S_drewN | apply Kd.S_drew)); exact (Kd.S_mono (Kd.S_far (p := ⟨gb395, 3, none⟩) (Kd.S_far (p := ⟨gb395, 2, none⟩) (Kd.S_far (p := ⟨gb395, 1, none⟩) (Kd.S_far (p := ⟨gb395, 0, none⟩) (Kd.S_types HO384.out BK395.out (by decide)) (fun _ hk => hk.2) (.int .i64 t389)) (fun _ hk => hk.2) (.int .i64 t390)) (fun _ hk => hk.2) (.int .i64 t391)) (fun _ hk => hk.2) (.slice Ao24 t392.length co24)) (fun _ h_ => h_.1))) hb); have n1_ := Aside0.mk (Kd.R_elder' (R_at (R_far4 HO387.out BK395.out (by decide))) (Kd.R_base ho0) hb); have n2_ := Aside0.mk (Kd.S_below (by (with_reducible repeat (first | apply Kd.S_alloc | apply Kd.S_drewN | apply Kd.S_drew)); exact (Kd.S_mono (Kd.S_far (p := ⟨gb395, 3, none⟩) (Kd.S_far (p := ⟨gb395, 2, none⟩) (Kd.S_far (p := ⟨gb395, 1, none⟩) (Kd.S_far (p := ⟨gb395, 0, none⟩) (Kd.S_types HO394.out BK395.out (by decide)) (fun _ hk => hk.2) (.int .i64 t389)) (fun _ hk => hk.2) (.int .i64 t390)) (fun _ hk => hk.2) (.int .i64 t391)) (fun _ hk => hk.2) (.slice Ao24 t392.length co24)) (fun _ h_ => h_.1))) hb); have n3_ := Aside0.mk (Kd.R_lower (Kd.R_new' ho0 (Kd.R_lt (R_at (R_far4 HO387.out BK395.out (by decide))))) (below_size bel_now)); replace HB := bel_on w hb; replace BK377 := Aside0.mk (blk_below (g := gb377) (o := .cells #[.int .i64 a0_0, .int .i64 a0_1, .int .i64 a0_2, .slice A0_3 l0_3.length c0_3] 42 (0, 0)) (blk_fars BK377.out) hb); replace BK395 := Aside0.mk (blk_below (g := gb395) (o := .cells #[.int .i64 t389, .int .i64 t390, .int .i64 t391, .slice Ao24 t392.length co24] 28 (0, 0)) (blk_fars (puts4 BK395.out)) hb); clear HO384 HO387 HO394; have HO384 := n0_; have HO387 := n1_; have HO394 := n2_; have HO398 := n3_; clear n0_ n1_ n2_ n3_; (try clear hb); (try clear hk); (try clear ho0)))
  (try simp only [Act.put, zA, zB, zC])
  go_cut [40] (fun v40 wc => ∃ (kq : Nat) (x40_10 : Bool), v40 = .bool x40_10 ∧ Aside0 (laws_FnExactEncodeModel.j0 kq t385 t388 t396 t399 x40_10 a0_0 a0_1 a0_2 l0_3 t389 t390 t391 t392 = some true) ∧ Aside0 (kq ≤ k) ∧ Aside0 (Kd.R (Kd.int .u8) 5 wc w.heap.size (fun k_ => some k_ ≠ (v397 : Value).ownBlock) v386 t385) ∧ Aside0 (Kd.R (Kd.int .u8) 5 wc w.heap.size (fun k_ => some k_ ≠ (v386 : Value).ownBlock) v397 t396) ∧ Aside0 (Kd.S k73 73 wc w.heap.size (fun _ => True) (.slice Ao24 t392.length co24) t392) ∧ Aside0 (wc.heap[gb377]? = some (.cells #[.int .i64 a0_0, .int .i64 a0_1, .int .i64 a0_2, (.slice A0_3 l0_3.length c0_3)] 42 (0, 0))) ∧ Aside0 (wc.heap[gb395]? = some (.cells #[.int .i64 t389, .int .i64 t390, .int .i64 t391, (.slice Ao24 t392.length co24)] 28 (0, 0))) ∧ Aside0 (Below w.heap.size w wc))
  case first =>
   have H := HC11.out
   clear HC11
   replace H := Option.bind_eq_some_iff.mp H
   obtain ⟨t400, A260, H⟩ := H
   (try dsimp only at H)
   have A26 := Aside0.mk A260
   clear A260
   by_cases c27 : t400 = true
   ·subst c27
    rw [if_pos rfl] at H
    have H' := Aside0.mk H
    clear H
    obtain ⟨Ao28, co28, eo28⟩ := Kd.R_slice HO398.out
    subst eo28
    obtain ⟨Ao29, co29, eo29⟩ := Kd.R_slice HO387.out
    subst eo29
    go_wp2_with (first | ((with_reducible refine gate_callee (f := 43) rfl ?_); refine goesM (some 34) rfl rfl Try.func43 (by kernel_rfl) rfl #[.slice Ao28 t396.length co28, .slice Ao29 t385.length co29] rfl ?_; (with_reducible refine (laws_eqByteS.calls k _ _ t396 _ _ t385 true _ ?side1 ?side2 ?side3 ?side4 A26.out).mono ?_); (case side1 => exact (Kd.R_reads' (R_at HO398.out)).2.2); (case side2 => exact (Kd.R_reads' HO398.out).2.1); (case side3 => exact (Kd.R_reads' (R_at HO387.out)).2.2); (case side4 => exact (Kd.R_reads' HO387.out).2.1); rintro e w' ⟨rfl, ⟨nd, rfl⟩⟩; refine ⟨_, rfl, ?_⟩))
    go_meet
    case rel => exact ⟨_, ((t399 != t388)), (by first | rfl | (simp; done) | (simp [*]; done)), H', ⟨by first | omega | exact Nat.le_refl _⟩, ⟨by (with_reducible repeat (first | apply Kd.R_alloc | apply Kd.R_drewN | apply Kd.R_drew)); exact Kd.R_mono HO387.out (fun _ hk => hk.2)⟩, ⟨by (with_reducible repeat (first | apply Kd.R_alloc | apply Kd.R_drewN | apply Kd.R_drew)); exact Kd.R_mono HO398.out (fun _ hk => hk.2)⟩, ⟨by (with_reducible repeat (first | apply Kd.S_alloc | apply Kd.S_drewN | apply Kd.S_drew)); exact Kd.S_mono HO394.out (fun _ hk => trivial)⟩, ⟨bks BK377⟩, ⟨bks BK395⟩, ⟨bel_now⟩⟩
   replace c27 := Bool.eq_false_iff.mpr c27
   subst c27
   rw [if_neg (show ¬ (false = true) by decide)] at H
   have H' := Aside0.mk H
   clear H
   obtain ⟨Ao30, co30, eo30⟩ := Kd.R_slice HO398.out
   subst eo30
   obtain ⟨Ao31, co31, eo31⟩ := Kd.R_slice HO387.out
   subst eo31
   go_wp2_with (first | ((with_reducible refine gate_callee (f := 43) rfl ?_); refine goesM (some 34) rfl rfl Try.func43 (by kernel_rfl) rfl #[.slice Ao30 t396.length co30, .slice Ao31 t385.length co31] rfl ?_; (with_reducible refine (laws_eqByteS.calls k _ _ t396 _ _ t385 false _ ?side1 ?side2 ?side3 ?side4 A26.out).mono ?_); (case side1 => exact (Kd.R_reads' (R_at HO398.out)).2.2); (case side2 => exact (Kd.R_reads' HO398.out).2.1); (case side3 => exact (Kd.R_reads' (R_at HO387.out)).2.2); (case side4 => exact (Kd.R_reads' HO387.out).2.1); rintro e w' ⟨rfl, ⟨nd, rfl⟩⟩; refine ⟨_, rfl, ?_⟩))
   go_meet
   case rel => exact ⟨_, (true), (by first | rfl | (simp; done) | (simp [*]; done)), H', ⟨by first | omega | exact Nat.le_refl _⟩, ⟨by (with_reducible repeat (first | apply Kd.R_alloc | apply Kd.R_drewN | apply Kd.R_drew)); exact Kd.R_mono HO387.out (fun _ hk => hk.2)⟩, ⟨by (with_reducible repeat (first | apply Kd.R_alloc | apply Kd.R_drewN | apply Kd.R_drew)); exact Kd.R_mono HO398.out (fun _ hk => hk.2)⟩, ⟨by (with_reducible repeat (first | apply Kd.S_alloc | apply Kd.S_drewN | apply Kd.S_drew)); exact Kd.S_mono HO394.out (fun _ hk => trivial)⟩, ⟨bks BK377⟩, ⟨bks BK395⟩, ⟨bel_now⟩⟩
  case rest =>
   clear HC11
   try clear c1
   try clear c2
   try clear p2
   try clear c3
   try clear c3b0
   try clear c4
   try clear c9
   try clear c14
   try clear c15
   try clear c22
   try clear c24
   try clear c27
   try clear hcz13
   try clear hcz15
   try clear hcz19
   try clear hcz23
   try clear hcz5
   obtain ⟨kq, x40_10, rfl, HA, HJ10, HO_4, HO_7, HO_396003, BK377, BK395, HB⟩ := hcut
   cases kq with
   | zero => exact absurd HA.out (by simp [laws_FnExactEncodeModel.j0])
   | succ kj10 =>
    have H := HA.out
    clear HA
    simp only [laws_FnExactEncodeModel.j0] at H
    by_cases c32 : x40_10 = true
    ·subst c32
     rw [if_pos rfl] at H
     exact absurd H (by decide)
    replace c32 := Bool.eq_false_iff.mpr c32
    subst c32
    rw [if_neg (show ¬ (false = true) by decide)] at H
    replace H := Option.bind_eq_some_iff.mp H
    obtain ⟨⟨t401, t402, t403, t404⟩, A330, H⟩ := H
    (try dsimp only at H)
    have A33 := Aside0.mk A330
    clear A330
    replace H := Option.bind_eq_some_iff.mp H
    obtain ⟨t407, A340, H⟩ := H
    (try dsimp only at H)
    have A34 := Aside0.mk A340
    clear A340
    by_cases c35 : t407 = true
    rotate_left
    ·replace c35 := Bool.eq_false_iff.mpr c35
     subst c35
     rw [if_neg (show ¬ (false = true) by decide)] at H
     exact absurd H (by decide)
    subst c35
    rw [if_pos rfl] at H
    replace H := Option.bind_eq_some_iff.mp H
    obtain ⟨t408, A360, H⟩ := H
    (try dsimp only at H)
    have A36 := Aside0.mk A360
    clear A360
    have HC37 := Aside0.mk H
    clear H
    try go_wp2
    replace HO_4 := Aside0.mk (Kd.R_drew HO_4.out)
    replace HO_7 := Aside0.mk (Kd.R_drew HO_7.out)
    replace HO_396003 := Aside0.mk (Kd.S_drew HO_396003.out)
    replace BK377 := Aside0.mk (blk_drew BK377.out)
    replace BK395 := Aside0.mk (blk_drew BK395.out)
    replace HB := Aside0.mk (below_drew1 HB.out)
    refine start_ (n := 5) (S := fun w' => w'.cell? ⟨gb395, 0, none⟩ = some (.int .i64 t389) ∧ w'.cell? ⟨gb395, 1, none⟩ = some (.int .i64 t390) ∧ w'.cell? ⟨gb395, 2, none⟩ = some (.int .i64 t391) ∧ w'.cell? ⟨gb395, 3, none⟩ = some (.slice Ao24 t392.length co24) ∧ w'.cell? ⟨gb377, 0, none⟩ = some (.int .i64 a0_0) ∧ w'.cell? ⟨gb377, 1, none⟩ = some (.int .i64 a0_1) ∧ w'.cell? ⟨gb377, 2, none⟩ = some (.int .i64 a0_2) ∧ w'.cell? ⟨gb377, 3, none⟩ = some (.slice A0_3 l0_3.length c0_3)) (ds := []) #[false, false, false, false, false] (by kernel_rfl) rfl rfl ⟨bc BK395 0, bc BK395 1, bc BK395 2, bc BK395 3, bc BK377 0, bc BK377 1, bc BK377 2, bc BK377 3⟩ (fun hHeld => ?_)
    generalize wc.drew = w38 at HO_4 HO_7 HO_396003 BK377 BK395 HB hHeld ⊢
    refine stepT 0 (some 41) (tk 5 1) (by kernel_rfl) hHeld ?_
    refine stepT 1 (some 42) (tk 5 3) (by kernel_rfl) hHeld ?_
    refine one_ (i := 2) (N := some 43) #[true, true, true, false, false] rfl rfl (by kernel_rfl) (by decide) (fun K hK => ?_)
    refine goes_ Try.func24 (by kernel_rfl) rfl #[.agg #[.int .i64 a0_0, .int .i64 a0_1, .int .i64 a0_2, .slice A0_3 l0_3.length c0_3]] (by rfl) rfl rfl (by (try simp only [List.map_toArray, List.map_cons, List.map_nil]); first | done | rfl | (simp only [List.length_drop, List.length_take]; rfl)) ?_
    with_reducible refine (laws_toModel.calls kj10 a0_0 a0_1 a0_2 _ _ l0_3 t401 t402 t403 t404 _ ?side1 ?side2 A33.out).mono ?_
    (case side1 => exact C_now HR0_3.out)
    (case side2 => exact HC0_3.out)
    rintro e w39 ⟨v405, rfl, ho0, hb⟩
    refine ⟨_, rfl, ?_⟩
    have n3_ := Aside0.mk (Kd.S_lower (Kd.S_new' ho0 (Kd.S_lt (by (with_reducible repeat (first | apply Kd.S_alloc | apply Kd.S_drewN | apply Kd.S_drew)); exact HO_396003.out))) (below_size bel_now))
    replace HO_4 := Aside0.mk (Kd.R_below (R_at HO_4.out) hb)
    replace HO_7 := Aside0.mk (Kd.R_below (R_at HO_7.out) hb)
    replace HO_396003 := Aside0.mk (Kd.S_elder' (by (with_reducible repeat (first | apply Kd.S_alloc | apply Kd.S_drewN | apply Kd.S_drew)); exact HO_396003.out) (Kd.S_base ho0) hb)
    replace BK377 := blk_on gb377 hb
    replace BK395 := blk_on gb395 hb
    replace HB := bel_on w hb
    have HO406 := n3_
    clear n3_
    (try clear hb)
    (try clear ho0)
    obtain ⟨Ao40, co40, eo40⟩ := Kd.S_slice HO406.out
    (first | subst eo40 | (injection eo40 with f1_ f2_ f3_; have f4_ := f1_.symm; have f5_ := f3_.symm; clear f1_ f2_ f3_; subst f4_; subst f5_))
    refine hK.out _ _ ⟨bc BK395 0, bc BK395 1, bc BK395 2, bc BK395 3, bc BK377 0, bc BK377 1, bc BK377 2, bc BK377 3⟩ (fun hHeld => ?_)
    clear hK K
    refine normP 43 ?_
    refine one_ (i := 3) (N := some 44) #[true, true, true, true, false] rfl rfl (by kernel_rfl) (by decide) (fun K hK => ?_)
    refine goes_ Try.func27 (by kernel_rfl) rfl #[.agg #[.int .i64 t389, .int .i64 t390, .int .i64 t391, .slice Ao24 t392.length co24], .agg #[.int .i64 t401, .int .i64 t402, .int .i64 t403, .slice Ao40 t404.length co40]] (by rfl) rfl rfl (by (try simp only [List.map_toArray, List.map_cons, List.map_nil]); first | done | rfl | (simp only [List.length_drop, List.length_take]; rfl)) ?_
    with_reducible refine (laws_eqModel.calls kj10 t389 t390 t391 _ _ t392 t401 t402 t403 _ _ t404 true _ ?side1 ?side2 ?side3 ?side4 A34.out).mono ?_
    (case side1 => repeat (first | exact (Kd.S_reads' HO_396003.out).2.2 | (with_reducible refine Kd.C_alloc ?_ _) | (with_reducible refine Kd.C_drewN ?_ _) | (with_reducible refine Kd.C_drew ?_)))
    (case side2 => exact (Kd.S_reads' HO_396003.out).2.1)
    (case side3 => repeat (first | exact (Kd.S_reads' HO406.out).2.2 | (with_reducible refine Kd.C_alloc ?_ _) | (with_reducible refine Kd.C_drewN ?_ _) | (with_reducible refine Kd.C_drew ?_)))
    (case side4 => exact (Kd.S_reads' HO406.out).2.1)
    rintro e w41 ⟨rfl, hb⟩
    refine ⟨_, rfl, ?_⟩
    replace HO_4 := Aside0.mk (Kd.R_below (R_at HO_4.out) hb)
    replace HO_7 := Aside0.mk (Kd.R_below (R_at HO_7.out) hb)
    replace HO_396003 := Aside0.mk (Kd.S_below (by (with_reducible repeat (first | apply Kd.S_alloc | apply Kd.S_drewN | apply Kd.S_drew)); exact HO_396003.out) hb)
    replace HO406 := Aside0.mk (Kd.S_below (by (with_reducible repeat (first | apply Kd.S_alloc | apply Kd.S_drewN | apply Kd.S_drew)); exact HO406.out) hb)
    replace BK377 := blk_on gb377 hb
    replace BK395 := blk_on gb395 hb
    replace HB := bel_on w hb
    (try clear hb)
    refine hK.out _ _ ⟨bc BK395 0, bc BK395 1, bc BK395 2, bc BK395 3, bc BK377 0, bc BK377 1, bc BK377 2, bc BK377 3⟩ (fun hHeld => ?_)
    clear hK K
    refine normP 44 ?_
    refine stepP 4 (some 45) (tk 5 31) (by kernel_rfl) ?_
    refine done_ (by kernel_rfl) ?_
    have hn42 := ne2 NB395_377
    have hcz43 := cells4 BK395.out
    go_upto_region 14 with (first | ((with_reducible refine gate_callee (f := 28) rfl ?_); refine goesM (some 48) rfl rfl Try.func28 (by kernel_rfl) rfl #[.agg #[.int .i64 t389, .int .i64 t390, .int .i64 t391, .slice Ao24 t392.length co24], .int .i64 1] rfl ?_; (with_reducible refine (laws_markModel.calls t389 t390 t391 (fun k_ => (((((True ∧ nb k_ Ao40 t404.length co40) ∧ some k_ ≠ (v386 : Value).ownBlock) ∧ some k_ ≠ (v397 : Value).ownBlock) ∧ k_ ≠ gb377) ∧ k_ ≠ gb395)) (.slice Ao24 t392.length co24) t392 1 t408 w _ ?side1 ?side2 A36.out).mono ?_); (case side1 => exact bel_now); (case side2 => exact Kd.S_mono (Kd.S_types (Kd.S_types (Kd.S_apart' (Kd.S_apart' (HO_396003.out) (Kd.R_typed HO_4.out) (by decide)) (Kd.R_typed HO_7.out) (by decide)) BK377.out (by decide)) BK395.out (by decide)) (fun k_ hk_ => by first | exact hk_ | (simp only [and_assoc, true_and] at hk_ ⊢; first | exact hk_ | ((repeat' apply And.intro) <;> (first | exact hk_.1 | exact hk_.2.1 | exact hk_.2.2.1 | exact hk_.2.2.2.1 | exact hk_.2.2.2.2.1 | exact hk_.2.2.2.2.2.1 | exact hk_.2.2.2.2.2.2.1 | exact hk_.2.2.2.2.2.2.2.1 | exact hk_.2.2.2.2.2.2.2.2.1 | exact hk_.2.2.2.2.2.2.2.2.2.1 | exact hk_.2.2.2.2.2.2.2.2.2.2.1 | exact hk_.2.2.2.2.2.2.2.2.2.2.2.1 | exact hk_.2.2.2.2.2.2.2.2.2.2.2.2.1 | exact hk_.2 | exact hk_.2.2 | exact hk_.2.2.2 | exact hk_.2.2.2.2 | exact hk_.2.2.2.2.2 | exact hk_.2.2.2.2.2.2 | exact hk_.2.2.2.2.2.2.2 | exact hk_.2.2.2.2.2.2.2.2 | exact hk_.2.2.2.2.2.2.2.2.2 | exact hk_.2.2.2.2.2.2.2.2.2.2 | exact hk_.2.2.2.2.2.2.2.2.2.2.2 | exact hk_.2.2.2.2.2.2.2.2.2.2.2.2))))); rintro e w44 ⟨rfl, hb, hkp⟩; refine ⟨_, rfl, ?_⟩; have n0_ := Aside0.mk (Kd.R_mono (ok' := fun k_ => some k_ ≠ (v397 : Value).ownBlock) (Kd.R_keptB ((Kd.R_mono (ok' := fun k_ => some k_ ≠ (v397 : Value).ownBlock ∧ ¬ (((((True ∧ nb k_ Ao40 t404.length co40) ∧ some k_ ≠ (v386 : Value).ownBlock) ∧ some k_ ≠ (v397 : Value).ownBlock) ∧ k_ ≠ gb377) ∧ k_ ≠ gb395)) (Kd.R_tight2 rfl HO_4.out) (fun k_ hk => ⟨by first | exact hk.2 | (have h_ := hk.2; simp only [and_assoc, true_and] at h_ ⊢; exact h_), fun hp_ => (hp_.1.1.1.2) hk.1⟩))) hkp (fun k_ hk_ hs_ => (fun e_ => (hk_.2) e_) hs_)) (fun k_ hk_ => hk_.1.1)); have n1_ := Aside0.mk (Kd.R_mono (ok' := fun k_ => some k_ ≠ (v386 : Value).ownBlock) (Kd.R_keptB ((Kd.R_mono (ok' := fun k_ => some k_ ≠ (v386 : Value).ownBlock ∧ ¬ (((((True ∧ nb k_ Ao40 t404.length co40) ∧ some k_ ≠ (v386 : Value).ownBlock) ∧ some k_ ≠ (v397 : Value).ownBlock) ∧ k_ ≠ gb377) ∧ k_ ≠ gb395)) (Kd.R_tight2 rfl HO_7.out) (fun k_ hk => ⟨by first | exact hk.2 | (have h_ := hk.2; simp only [and_assoc, true_and] at h_ ⊢; exact h_), fun hp_ => (hp_.1.1.2) hk.1⟩))) hkp (fun k_ hk_ hs_ => (fun e_ => (hk_.2) e_) hs_)) (fun k_ hk_ => hk_.1.1)); have n2_ := Aside0.mk (blk_kept blk_now hkp (fun hs_ => (fun e_ => (e_.1.2) rfl) hs_)); have n3_ := Aside0.mk (blk_kept blk_now hkp (fun hs_ => (fun e_ => (e_.2) rfl) hs_)); have n4_ := Aside0.mk (hb); clear HO_4; clear HO_7; clear BK377; clear BK395; clear HB; clear HO406; clear HO_396003; have HO_4 := n0_; have HO_7 := n1_; have BK377 := n2_; have BK395 := n3_; have HB := n4_; clear n0_ n1_ n2_ n3_ n4_; (try clear hb); (try clear hkp)))
    (try simp only [Act.put, zA, zB, zC])
    go_cut [61] (fun v61 wc => ∃ (kq : Nat) (x61_36 : Bool), v61 = .bool x61_36 ∧ Aside0 (laws_FnExactEncodeModel.j1 kq t385 t388 t396 x61_36 a0_0 a0_1 a0_2 l0_3 = some true) ∧ Aside0 (kq ≤ kj10) ∧ Aside0 (Kd.R (Kd.int .u8) 5 wc w.heap.size (fun k_ => some k_ ≠ (v397 : Value).ownBlock) v386 t385) ∧ Aside0 (Kd.R (Kd.int .u8) 5 wc w.heap.size (fun k_ => some k_ ≠ (v386 : Value).ownBlock) v397 t396) ∧ Aside0 (wc.heap[gb377]? = some (.cells #[.int .i64 a0_0, .int .i64 a0_1, .int .i64 a0_2, (.slice A0_3 l0_3.length c0_3)] 42 (0, 0))) ∧ Aside0 (Below w.heap.size w wc))
    case first =>
     have H := HC37.out
     clear HC37
     by_cases c45 : t408 < 0
     ·rw [if_pos c45] at H
      have c45b0 : decide (t408 < 0) = true := decide_eq_true c45
      clear c45
      (first | rw [c45b0] | (simp only [i64_w, i32_w]; rw [c45b0]) | skip)
      have H' := Aside0.mk H
      clear H
      go_wp2
      go_meet
      case rel => exact ⟨_, (true), (by first | rfl | (simp; done) | (simp [*]; done)), H', ⟨by have := HJ10.out; first | omega | exact Nat.le_refl _⟩, ⟨by (with_reducible repeat (first | apply Kd.R_alloc | apply Kd.R_drewN | apply Kd.R_drew)); exact HO_4.out⟩, ⟨by (with_reducible repeat (first | apply Kd.R_alloc | apply Kd.R_drewN | apply Kd.R_drew)); exact HO_7.out⟩, ⟨bks BK377⟩, ⟨bel_now⟩⟩
     rw [if_neg c45] at H
     have c45b0 : decide (t408 < 0) = false := decide_eq_false c45
     clear c45
     (first | rw [c45b0] | (simp only [i64_w, i32_w]; rw [c45b0]) | skip)
     replace H := Option.bind_eq_some_iff.mp H
     obtain ⟨t409, A460, H⟩ := H
     (try dsimp only at H)
     have A46 := Aside0.mk A460
     clear A460
     by_cases c47 : t409 = true
     ·subst c47
      rw [if_pos rfl] at H
      have H' := Aside0.mk H
      clear H
      obtain ⟨Ao48, co48, eo48⟩ := Kd.R_slice HO_7.out
      subst eo48
      obtain ⟨Ao49, co49, eo49⟩ := Kd.R_slice HO_4.out
      subst eo49
      go_wp2_with (first | (go_at_call 43; (with_reducible refine (laws_eqByteS.calls kj10 _ _ t396 _ _ t385 true _ ?side1 ?side2 ?side3 ?side4 A46.out).mono ?_); (case side1 => exact (Kd.R_reads' (R_at HO_7.out)).2.2); (case side2 => exact (Kd.R_reads' HO_7.out).2.1); (case side3 => exact (Kd.R_reads' (R_at HO_4.out)).2.2); (case side4 => exact (Kd.R_reads' HO_4.out).2.1); rintro e w' ⟨rfl, ⟨nd, rfl⟩⟩))
      go_meet
      case rel => exact ⟨_, ((t399 != t388)), (by first | rfl | (simp; done) | (simp [*]; done)), H', ⟨by have := HJ10.out; first | omega | exact Nat.le_refl _⟩, ⟨by (with_reducible repeat (first | apply Kd.R_alloc | apply Kd.R_drewN | apply Kd.R_drew)); exact HO_4.out⟩, ⟨by (with_reducible repeat (first | apply Kd.R_alloc | apply Kd.R_drewN | apply Kd.R_drew)); exact HO_7.out⟩, ⟨bks BK377⟩, ⟨bel_now⟩⟩
     replace c47 := Bool.eq_false_iff.mpr c47
     subst c47
     rw [if_neg (show ¬ (false = true) by decide)] at H
     have H' := Aside0.mk H
     clear H
     obtain ⟨Ao50, co50, eo50⟩ := Kd.R_slice HO_7.out
     subst eo50
     obtain ⟨Ao51, co51, eo51⟩ := Kd.R_slice HO_4.out
     subst eo51
     go_wp2_with (first | (go_at_call 43; (with_reducible refine (laws_eqByteS.calls kj10 _ _ t396 _ _ t385 false _ ?side1 ?side2 ?side3 ?side4 A46.out).mono ?_); (case side1 => exact (Kd.R_reads' (R_at HO_7.out)).2.2); (case side2 => exact (Kd.R_reads' HO_7.out).2.1); (case side3 => exact (Kd.R_reads' (R_at HO_4.out)).2.2); (case side4 => exact (Kd.R_reads' HO_4.out).2.1); rintro e w' ⟨rfl, ⟨nd, rfl⟩⟩))
     go_meet
     case rel => exact ⟨_, (true), (by first | rfl | (simp; done) | (simp [*]; done)), H', ⟨by have := HJ10.out; first | omega | exact Nat.le_refl _⟩, ⟨by (with_reducible repeat (first | apply Kd.R_alloc | apply Kd.R_drewN | apply Kd.R_drew)); exact HO_4.out⟩, ⟨by (with_reducible repeat (first | apply Kd.R_alloc | apply Kd.R_drewN | apply Kd.R_drew)); exact HO_7.out⟩, ⟨bks BK377⟩, ⟨bel_now⟩⟩
    case rest =>
     clear HC37
     try clear c1
     try clear c2
     try clear p2 p2
     try clear c3
     try clear c3b0
     try clear c4
     try clear c9
     try clear c14
     try clear c15
     try clear c22
     try clear c24
     try clear c27
     try clear c28
     try clear c32
     try clear c35
     try clear c42
     try clear c43
     try clear c45
     try clear c45b0
     try clear c47
     try clear hcz13
     try clear hcz15
     try clear hcz19
     try clear hcz23
     try clear hcz43
     try clear hcz5
     obtain ⟨kq, x61_36, rfl, HA, HJ36, HO_4, HO_7, BK377, HB⟩ := hcut
     cases kq with
     | zero => exact absurd HA.out (by simp [laws_FnExactEncodeModel.j1])
     | succ kj36 =>
      have H := HA.out
      clear HA
      simp only [laws_FnExactEncodeModel.j1] at H
      by_cases c52 : x61_36 = true
      ·subst c52
       rw [if_pos rfl] at H
       exact absurd H (by decide)
      replace c52 := Bool.eq_false_iff.mpr c52
      subst c52
      rw [if_neg (show ¬ (false = true) by decide)] at H
      replace H := Option.bind_eq_some_iff.mp H
      obtain ⟨⟨t410, t411⟩, A530, H⟩ := H
      (try dsimp only at H)
      have A53 := Aside0.mk A530
      clear A530
      replace H := Option.bind_eq_some_iff.mp H
      obtain ⟨t412, A540, H⟩ := H
      (try dsimp only at H)
      have A54 := Aside0.mk A540
      clear A540
      by_cases c55 : t412 < 0
      ·rw [if_pos c55] at H
       have c55b0 : decide (t412 < 0) = true := decide_eq_true c55
       clear c55
       exact absurd H (by decide)
      rw [if_neg c55] at H
      have c55b0 : decide (t412 < 0) = false := decide_eq_false c55
      clear c55
      by_cases c56 : t412 = t410
      rotate_left
      ·rw [if_neg c56] at H
       have c56b0 : (t412 == t410) = false := beq_eq_false_iff_ne.mpr c56
       have c56b1 : (t412 != t410) = true := bne_iff_ne.mpr c56
       exact absurd H (by decide)
      rw [if_pos c56] at H
      have c56b0 : (t412 == t410) = true := beq_iff_eq.mpr c56
      have c56b1 : (t412 != t410) = false := bne_eq_false_iff_eq.mpr c56
      clear c56
      replace H := Option.bind_eq_some_iff.mp H
      obtain ⟨⟨t413, t414, t415, t416⟩, A570, H⟩ := H
      (try dsimp only at H)
      have A57 := Aside0.mk A570
      clear A570
      replace H := Option.bind_eq_some_iff.mp H
      obtain ⟨⟨t419, t422⟩, A580, H⟩ := H
      (try dsimp only at H)
      have A58 := Aside0.mk A580
      clear A580
      have HC59 := Aside0.mk H
      clear H
      obtain ⟨Ao60, co60, eo60⟩ := Kd.R_slice HO_7.out
      subst eo60
      go_upto_region 25 with (first | ((with_reducible refine gate_callee (f := 44) rfl ?_); refine goesM (some 64) rfl rfl Try.func44 (by kernel_rfl) rfl #[.slice Ao60 t396.length co60, .int .i64 1] rfl ?_; (with_reducible refine (laws_markByteS.calls kj36 (fun k_ => some k_ = (.slice Ao60 t396.length co60 : Value).ownBlock) (.slice Ao60 t396.length co60) t396 1 t410 t411 w _ ?side1 ?side2 A53.out).mono ?_); (case side1 => exact bel_now); (case side2 => exact Kd.R_tight rfl HO_7.out); rintro e w61 ⟨rfl, hy0, hb, hkp⟩; refine ⟨_, rfl, ?_⟩; have n0_ := Aside0.mk (Kd.R_mono (ok' := fun k_ => nb k_ Ao60 t396.length co60) (Kd.R_keptB (HO_4.out) hkp (fun k_ hk_ hs_ => (hk_) hs_)) (fun k_ hk_ => hk_.1)); have n1_ := Aside0.mk (Kd.R_reok rfl hy0 (fun k_ e_ => HO_7.out.1 k_ e_)); have n2_ := Aside0.mk (blk_kept blk_now hkp (fun hs_ => (fun e_ => (Kd.R_ne HO_7.out BK377.out (by decide)) e_) hs_)); have n3_ := Aside0.mk (hb); clear HO_4; clear HO_7; clear BK377; clear HB; have HO_4 := n0_; have HO_7 := n1_; have BK377 := n2_; have HB := n3_; clear n0_ n1_ n2_ n3_; (try clear hb); (try clear hkp); (try clear hy0)) | ((with_reducible refine gate_callee (f := 45) rfl ?_); refine goesL_ (some 67) rfl rfl Try.func45 (by kernel_rfl) rfl #[.slice Ao60 t411.length co60, .int .i64 1] rfl (by (try simp only [List.map_toArray, List.map_cons, List.map_nil]); first | done | (rw [show t411.length = t396.length from (Kd.R_reads' HO_7.out).1.symm] <;> rfl) | rfl | (simp only [List.length_drop, List.length_take]; rfl)) ?_; (with_reducible refine (laws_heldByteS.calls kj36 _ _ t411 1 t412 _ ?side1 ?side2 A54.out).mono ?_); (case side1 => exact (Kd.R_reads' (R_at HO_7.out)).2.2); (case side2 => rw [show t411.length = t396.length from (Kd.R_reads' HO_7.out).1.symm]; exact (Kd.R_reads' HO_7.out).2.1); rintro e w' ⟨rfl, ⟨nd, rfl⟩⟩; refine ⟨_, rfl, ?_⟩; have hcz62 := cells4 BK377.out) | ((with_reducible refine gate_callee (f := 24) rfl ?_); refine goesM (some 75) rfl rfl Try.func24 (by kernel_rfl) rfl #[.agg #[.int .i64 a0_0, .int .i64 a0_1, .int .i64 a0_2, .slice A0_3 l0_3.length c0_3]] rfl ?_; (with_reducible refine (laws_toModel.calls kj36 a0_0 a0_1 a0_2 _ _ l0_3 t413 t414 t415 t416 _ ?side1 ?side2 A57.out).mono ?_); (case side1 => exact C_now HR0_3.out); (case side2 => exact HC0_3.out); rintro e w63 ⟨v417, rfl, ho0, hb⟩; refine ⟨_, rfl, ?_⟩; have n2_ := Aside0.mk (Kd.S_lower ho0 (below_size bel_now)); replace HO_4 := Aside0.mk (Kd.R_below (R_at HO_4.out) hb); replace HO_7 := Aside0.mk (Kd.R_below (R_at HO_7.out) hb); replace HB := bel_on w hb; replace BK377 := blk_on gb377 hb; have HO418 := n2_; clear n2_; (try clear hb); (try clear ho0); obtain ⟨Ao64, co64, eo64⟩ := Kd.S_slice HO418.out; subst eo64) | ((with_reducible refine gate_callee (f := 14) rfl ?_); refine goesM (some 76) rfl rfl Try.func14 (by kernel_rfl) rfl #[.agg #[.int .i64 t413, .int .i64 t414, .int .i64 t415, .slice Ao64 t416.length co64]] rfl ?_; (with_reducible refine (impl_EncodeModel.calls kj36 t413 t414 t415 _ _ t416 t419 t422 _ ?side1 ?side2 A58.out).mono ?_); (case side1 => repeat (first | exact (Kd.S_reads' HO418.out).2.2 | (with_reducible refine Kd.C_alloc ?_ _) | (with_reducible refine Kd.C_drewN ?_ _) | (with_reducible refine Kd.C_drew ?_))); (case side2 => exact (Kd.S_reads' HO418.out).2.1); rintro e w65 ⟨v420, rfl, ho0, hb⟩; refine ⟨_, rfl, ?_⟩; have n3_ := Aside0.mk (Kd.R_lower (Kd.R_new' (Kd.R_new' ho0 (Kd.R_lt (R_at HO_4.out))) (Kd.R_lt (R_at HO_7.out))) (below_size bel_now)); replace HO_4 := Aside0.mk (Kd.R_elder' (R_at HO_4.out) (Kd.R_base ho0) hb); replace HO_7 := Aside0.mk (Kd.R_elder' (R_at HO_7.out) (Kd.R_base ho0) hb); replace HO418 := Aside0.mk (Kd.S_below (by (with_reducible repeat (first | apply Kd.S_alloc | apply Kd.S_drewN | apply Kd.S_drew)); exact HO418.out) hb); replace HB := bel_on w hb; replace BK377 := blk_on gb377 hb; have HO421 := n3_; clear n3_; (try clear hb); (try clear ho0)))
      (try simp only [Act.put, zA, zB, zC])
      go_cut [87] (fun v87 wc => ∃ (kq : Nat) (x87_58 : Bool), v87 = .bool x87_58 ∧ Aside0 (laws_FnExactEncodeModel.j2 kq t411 t410 x87_58 = some true) ∧ Aside0 (kq ≤ kj36) ∧ Aside0 (Kd.R (Kd.int .u8) 5 wc w.heap.size (fun _ => True) (.slice Ao60 t396.length co60) t411) ∧ Aside0 (wc.heap[gb377]? = some (.cells #[.int .i64 a0_0, .int .i64 a0_1, .int .i64 a0_2, (.slice A0_3 l0_3.length c0_3)] 42 (0, 0))) ∧ Aside0 (Below w.heap.size w wc))
      case first =>
       have H := HC59.out
       clear HC59
       replace H := Option.bind_eq_some_iff.mp H
       obtain ⟨t423, A660, H⟩ := H
       (try dsimp only at H)
       have A66 := Aside0.mk A660
       clear A660
       by_cases c67 : t423 = true
       ·subst c67
        rw [if_pos rfl] at H
        have H' := Aside0.mk H
        clear H
        obtain ⟨Ao68, co68, eo68⟩ := Kd.R_slice HO421.out
        subst eo68
        obtain ⟨Ao69, co69, eo69⟩ := Kd.R_slice HO_4.out
        subst eo69
        go_wp2_with (first | ((with_reducible refine gate_callee (f := 43) rfl ?_); refine goesM (some 81) rfl rfl Try.func43 (by kernel_rfl) rfl #[.slice Ao68 t419.length co68, .slice Ao69 t385.length co69] rfl ?_; (with_reducible refine (laws_eqByteS.calls kj36 _ _ t419 _ _ t385 true _ ?side1 ?side2 ?side3 ?side4 A66.out).mono ?_); (case side1 => exact (Kd.R_reads' (R_at HO421.out)).2.2); (case side2 => exact (Kd.R_reads' HO421.out).2.1); (case side3 => exact (Kd.R_reads' (R_at HO_4.out)).2.2); (case side4 => exact (Kd.R_reads' HO_4.out).2.1); rintro e w' ⟨rfl, ⟨nd, rfl⟩⟩; refine ⟨_, rfl, ?_⟩))
        go_meet
        case rel => exact ⟨_, ((t422 != t388)), (by first | rfl | (simp; done) | (simp [*]; done)), H', ⟨by have := HJ10.out; have := HJ36.out; first | omega | exact Nat.le_refl _⟩, ⟨by (with_reducible repeat (first | apply Kd.R_alloc | apply Kd.R_drewN | apply Kd.R_drew)); exact Kd.R_mono HO_7.out (fun _ hk => trivial)⟩, ⟨bks BK377⟩, ⟨bel_now⟩⟩
       replace c67 := Bool.eq_false_iff.mpr c67
       subst c67
       rw [if_neg (show ¬ (false = true) by decide)] at H
       have H' := Aside0.mk H
       clear H
       obtain ⟨Ao70, co70, eo70⟩ := Kd.R_slice HO421.out
       subst eo70
       obtain ⟨Ao71, co71, eo71⟩ := Kd.R_slice HO_4.out
       subst eo71
       go_wp2_with (first | ((with_reducible refine gate_callee (f := 43) rfl ?_); refine goesM (some 81) rfl rfl Try.func43 (by kernel_rfl) rfl #[.slice Ao70 t419.length co70, .slice Ao71 t385.length co71] rfl ?_; (with_reducible refine (laws_eqByteS.calls kj36 _ _ t419 _ _ t385 false _ ?side1 ?side2 ?side3 ?side4 A66.out).mono ?_); (case side1 => exact (Kd.R_reads' (R_at HO421.out)).2.2); (case side2 => exact (Kd.R_reads' HO421.out).2.1); (case side3 => exact (Kd.R_reads' (R_at HO_4.out)).2.2); (case side4 => exact (Kd.R_reads' HO_4.out).2.1); rintro e w' ⟨rfl, ⟨nd, rfl⟩⟩; refine ⟨_, rfl, ?_⟩))
       go_meet
       case rel => exact ⟨_, (true), (by first | rfl | (simp; done) | (simp [*]; done)), H', ⟨by have := HJ10.out; have := HJ36.out; first | omega | exact Nat.le_refl _⟩, ⟨by (with_reducible repeat (first | apply Kd.R_alloc | apply Kd.R_drewN | apply Kd.R_drew)); exact Kd.R_mono HO_7.out (fun _ hk => trivial)⟩, ⟨bks BK377⟩, ⟨bel_now⟩⟩
      case rest =>
       clear HC59
       try clear c1
       try clear c2
       try clear p2 p2
       try clear c3
       try clear c3b0
       try clear c4
       try clear c5
       try clear c6
       try clear c9
       try clear c14
       try clear c15
       try clear c22
       try clear c24
       try clear c27
       try clear c28
       try clear c32
       try clear c35
       try clear c42
       try clear c43
       try clear c44
       try clear c45
       try clear c45b0
       try clear c47
       try clear c52
       try clear c55
       try clear c55b0
       try clear c56
       try clear c56b0
       try clear c56b1
       try clear c67
       try clear hcz13
       try clear hcz15
       try clear hcz19
       try clear hcz23
       try clear hcz43
       try clear hcz5
       try clear hcz62
       obtain ⟨kq, x87_58, rfl, HA, HJ58, HO_7, BK377, HB⟩ := hcut
       have hl7_58 := (Kd.R_reads' HO_7.out).1
       rw [hl7_58] at HO_7
       (try simp only [hl7_58])
       (try simp only [hl7_58] at BK377)
       cases kq with
       | zero => exact absurd HA.out (by simp [laws_FnExactEncodeModel.j2])
       | succ kj58 =>
        have H := HA.out
        clear HA
        simp only [laws_FnExactEncodeModel.j2] at H
        by_cases c72 : x87_58 = true
        ·subst c72
         rw [if_pos rfl] at H
         exact absurd H (by decide)
        replace c72 := Bool.eq_false_iff.mpr c72
        subst c72
        rw [if_neg (show ¬ (false = true) by decide)] at H
        replace H := Option.bind_eq_some_iff.mp H
        obtain ⟨t424, A730, H⟩ := H
        (try dsimp only at H)
        have A73 := Aside0.mk A730
        clear A730
        by_cases c74 : t424 < 0
        ·rw [if_pos c74] at H
         have c74b0 : decide (t424 < 0) = true := decide_eq_true c74
         clear c74
         exact absurd H (by decide)
        rw [if_neg c74] at H
        have c74b0 : decide (t424 < 0) = false := decide_eq_false c74
        clear c74
        by_cases c75 : t424 = t410
        rotate_left
        ·rw [if_neg c75] at H
         have c75b0 : (t424 == t410) = false := beq_eq_false_iff_ne.mpr c75
         have c75b1 : (t424 != t410) = true := bne_iff_ne.mpr c75
         exact absurd H (by decide)
        rw [if_pos c75] at H
        have c75b0 : (t424 == t410) = true := beq_iff_eq.mpr c75
        have c75b1 : (t424 != t410) = false := bne_eq_false_iff_eq.mpr c75
        clear c75
        clear H
        go_wp2_with (first | ((with_reducible refine gate_callee (f := 45) rfl ?_); refine goesM (some 90) rfl rfl Try.func45 (by kernel_rfl) rfl #[.slice Ao60 t411.length co60, .int .i64 1] rfl ?_; (with_reducible refine (laws_heldByteS.calls kj58 _ _ t411 1 t424 _ ?side1 ?side2 A73.out).mono ?_); (case side1 => exact (Kd.R_reads' (R_at HO_7.out)).2.2); (case side2 => exact (Kd.R_reads' HO_7.out).2.1); rintro e w' ⟨rfl, ⟨nd, rfl⟩⟩; refine ⟨_, rfl, ?_⟩))
        go_ret
        exact ⟨eqN, bel_now⟩

end Go.Proofs.Ytljdcemdhmaahaa.PFnExactEncodeModel
