-- Printed by the session's own program (wip/myprint.py) for this claim out of the translation. Not trusted: Lean checks it.
import Derived.Test.YtjmejobelkllmaaDoorPFnExactLayerTextx0
import Derived.Test.YtjmejobelkllmaaDoorPFnExactLayerTextx1
import Derived.Test.YtjmejobelkllmaaDoorPFnExactLayerTextx2
namespace Go.Proofs.YtjmejobelkllmaaDoor.PFnExactLayerText
open Go.RowKit Go.Proofs.YtjmejobelkllmaaDoorW.PrintWords Go.Proofs.YtjmejobelkllmaaDoorW.PrintLast Go.Proofs.YtjmejobelkllmaaDoorW.PrintMore
attribute [local go_sem] max2_int min2_int max_two min_two max_three min_three max_four min_four   -- for this text's walks alone
set_option linter.unusedVariables false
set_option linter.unusedSimpArgs false

/-! ### laws_FnExactLayerText: function 4 -/
def laws_FnExactLayerText.f (k : Nat) (a0_0 : Int) (a0_1 : Int) (a0_2 : Int) (a0_3 : Int) (a0_4 : Int) (a0_5 : Int) (a0_6 : Int) (l0_7 : List Int) (l0_8 : List Int) : Option (Bool) := (laws_szLayer.f a0_0 a0_1 a0_2 a0_3 a0_4 a0_5 a0_6 l0_7 l0_8 1048576).bind fun t165 => (if t165 < 0 then (some true) else ((laws_toLayer.f k a0_0 a0_1 a0_2 a0_3 a0_4 a0_5 a0_6 l0_7 l0_8).bind fun bt166 => ((spec_LayerText.f k bt166.1 bt166.2.1 bt166.2.2.1 bt166.2.2.2.1 bt166.2.2.2.2.1 bt166.2.2.2.2.2.1 bt166.2.2.2.2.2.2.1 bt166.2.2.2.2.2.2.2.1 bt166.2.2.2.2.2.2.2.2).bind fun t179 => ((laws_toLayer.f k a0_0 a0_1 a0_2 a0_3 a0_4 a0_5 a0_6 l0_7 l0_8).bind fun bt180 => ((impl_LayerText.f bt180.1 bt180.2.1 bt180.2.2.1 bt180.2.2.2.1 bt180.2.2.2.2.1 bt180.2.2.2.2.2.1 bt180.2.2.2.2.2.2.1 bt180.2.2.2.2.2.2.2.1 bt180.2.2.2.2.2.2.2.2).bind fun t194 => (if t194.toList = t179.toList then ((laws_toLayer.f k a0_0 a0_1 a0_2 a0_3 a0_4 a0_5 a0_6 l0_7 l0_8).bind fun bt195 => ((laws_eqLayer.f k bt180.1 bt180.2.1 bt180.2.2.1 bt180.2.2.2.1 bt180.2.2.2.2.1 bt180.2.2.2.2.2.1 bt180.2.2.2.2.2.2.1 bt180.2.2.2.2.2.2.2.1 bt180.2.2.2.2.2.2.2.2 bt195.1 bt195.2.1 bt195.2.2.1 bt195.2.2.2.1 bt195.2.2.2.2.1 bt195.2.2.2.2.2.1 bt195.2.2.2.2.2.2.1 bt195.2.2.2.2.2.2.2.1 bt195.2.2.2.2.2.2.2.2).bind fun t208 => (if t208 = true then (some true) else (some false)))) else (some false)))))))
set_option maxHeartbeats 8000000 in
set_option maxRecDepth 100000 in
theorem laws_FnExactLayerText.calls (k : Nat) (a0_0 : Int) (a0_1 : Int) (a0_2 : Int) (a0_3 : Int) (a0_4 : Int) (a0_5 : Int) (a0_6 : Int) (A0_7 : Option Addr) (c0_7 : Nat) (l0_7 : List Int) (A0_8 : Option Addr) (c0_8 : Nat) (l0_8 : List Int) (w : World) (hr0_7 : Kd.C (Kd.int .i64) w A0_7 l0_7.length l0_7) (hc0_7 : l0_7.length ≤ c0_7) (hr0_8 : Kd.C (Kd.int .i64) w A0_8 l0_8.length l0_8) (hc0_8 : l0_8.length ≤ c0_8) (htab : TabT w) (h : laws_FnExactLayerText.f k a0_0 a0_1 a0_2 a0_3 a0_4 a0_5 a0_6 l0_7 l0_8 = some true) :
   Calls Tryd.prog 4 #[.agg #[.int .i64 a0_0, .int .i64 a0_1, .int .i64 a0_2, .int .i64 a0_3, .int .i64 a0_4, .int .i64 a0_5, .int .i64 a0_6, .slice A0_7 l0_7.length c0_7, .slice A0_8 l0_8.length c0_8]] w fun e w' => e = .returned (.bool true) ∧ Below w.heap.size w w' := by
  have HTB := Aside0.mk htab
  clear htab
  have hu27 := Tryd.underlying27
  have hu30 := Tryd.underlying30
  have HR0_7 := Aside0.mk hr0_7
  have HC0_7 := Aside0.mk hc0_7
  clear hr0_7 hc0_7
  have HR0_8 := Aside0.mk hr0_8
  have HC0_8 := Aside0.mk hc0_8
  clear hr0_8 hc0_8
  have HB := Aside0.mk (Below.refl w.heap.size w)
  have H : ((laws_szLayer.f a0_0 a0_1 a0_2 a0_3 a0_4 a0_5 a0_6 l0_7 l0_8 1048576).bind fun t165 => (if t165 < 0 then (some true) else ((laws_toLayer.f k a0_0 a0_1 a0_2 a0_3 a0_4 a0_5 a0_6 l0_7 l0_8).bind fun bt166 => ((spec_LayerText.f k bt166.1 bt166.2.1 bt166.2.2.1 bt166.2.2.2.1 bt166.2.2.2.2.1 bt166.2.2.2.2.2.1 bt166.2.2.2.2.2.2.1 bt166.2.2.2.2.2.2.2.1 bt166.2.2.2.2.2.2.2.2).bind fun t179 => ((laws_toLayer.f k a0_0 a0_1 a0_2 a0_3 a0_4 a0_5 a0_6 l0_7 l0_8).bind fun bt180 => ((impl_LayerText.f bt180.1 bt180.2.1 bt180.2.2.1 bt180.2.2.2.1 bt180.2.2.2.2.1 bt180.2.2.2.2.2.1 bt180.2.2.2.2.2.2.1 bt180.2.2.2.2.2.2.2.1 bt180.2.2.2.2.2.2.2.2).bind fun t194 => (if t194.toList = t179.toList then ((laws_toLayer.f k a0_0 a0_1 a0_2 a0_3 a0_4 a0_5 a0_6 l0_7 l0_8).bind fun bt195 => ((laws_eqLayer.f k bt180.1 bt180.2.1 bt180.2.2.1 bt180.2.2.2.1 bt180.2.2.2.2.1 bt180.2.2.2.2.2.1 bt180.2.2.2.2.2.2.1 bt180.2.2.2.2.2.2.2.1 bt180.2.2.2.2.2.2.2.2 bt195.1 bt195.2.1 bt195.2.2.1 bt195.2.2.2.1 bt195.2.2.2.2.1 bt195.2.2.2.2.2.1 bt195.2.2.2.2.2.2.1 bt195.2.2.2.2.2.2.2.1 bt195.2.2.2.2.2.2.2.2).bind fun t208 => (if t208 = true then (some true) else (some false)))) else (some false)))))))) = some true := h
  clear h
  replace H := Option.bind_eq_some_iff.mp H
  obtain ⟨t165, A20, H⟩ := H
  (try dsimp only at H)
  have A2 := Aside0.mk A20
  clear A20
  by_cases c3 : t165 < 0
  ·rw [if_pos c3] at H
   have c3b0 : decide (t165 < 0) = true := decide_eq_true c3
   clear c3
   clear H
   go_enter Tryd.func4, Tryd.ntmps4
   go_wp2_with (first | ((with_reducible refine gate_dst (N := 1) rfl ?_); refine boxM 1 #[.int .i64 a0_0, .int .i64 a0_1, .int .i64 a0_2, .int .i64 a0_3, .int .i64 a0_4, .int .i64 a0_5, .int .i64 a0_6, .slice A0_7 l0_7.length c0_7, .slice A0_8 l0_8.length c0_8] 27 ?_; intro gb164 hg w4 BK164 hb; replace HB := box_at w hb hg; obtain ⟨HB, GW164, GE164⟩ := HB; clear hb hg; have hcz5 := cells9 BK164.out) | ((with_reducible refine gate_callee (f := 8) rfl ?_); refine goesM (some 9) rfl rfl Tryd.func8 (by kernel_rfl) rfl #[.agg #[.int .i64 a0_0, .int .i64 a0_1, .int .i64 a0_2, .int .i64 a0_3, .int .i64 a0_4, .int .i64 a0_5, .int .i64 a0_6, .slice A0_7 l0_7.length c0_7, .slice A0_8 l0_8.length c0_8], .int .i64 1048576] rfl ?_; (with_reducible refine (laws_szLayer.calls a0_0 a0_1 a0_2 a0_3 a0_4 a0_5 a0_6 _ _ l0_7 _ _ l0_8 1048576 t165 _ ?side1 ?side2 ?side3 ?side4 A2.out).mono ?_); (case side1 => exact C_now HR0_7.out); (case side2 => exact HC0_7.out); (case side3 => exact C_now HR0_8.out); (case side4 => exact HC0_8.out); rintro e w6 ⟨rfl, hb⟩; refine ⟨_, rfl, ?_⟩; replace HB := bel_on w hb; replace BK164 := blk_on gb164 hb; (try clear hb)))
   go_ret
   exact ⟨eqN, bel_now⟩
  rw [if_neg c3] at H
  have c3b0 : decide (t165 < 0) = false := decide_eq_false c3
  clear c3
  replace H := Option.bind_eq_some_iff.mp H
  obtain ⟨⟨t166, t167, t168, t169, t170, t171, t172, t173, t176⟩, A70, H⟩ := H
  (try dsimp only at H)
  have A7 := Aside0.mk A70
  clear A70
  replace H := Option.bind_eq_some_iff.mp H
  obtain ⟨t179, A80, H⟩ := H
  (try dsimp only at H)
  have A8 := Aside0.mk A80
  clear A80
  replace H := Option.bind_eq_some_iff.mp H
  obtain ⟨⟨t180, t181, t182, t183, t184, t185, t186, t187, t190⟩, A90, H⟩ := H
  (try dsimp only at H)
  have A9 := Aside0.mk A90
  clear A90
  replace H := Option.bind_eq_some_iff.mp H
  obtain ⟨t194, A100, H⟩ := H
  (try dsimp only at H)
  have A10 := Aside0.mk A100
  clear A100
  by_cases c11 : t194.toList = t179.toList
  rotate_left
  ·rw [if_neg c11] at H
   have c11b0 : (t194.toList == t179.toList) = false := beq_eq_false_iff_ne.mpr c11
   have c11b1 : (t194.toList != t179.toList) = true := bne_iff_ne.mpr c11
   exact absurd H (by decide)
  rw [if_pos c11] at H
  have c11b0 : (t194.toList == t179.toList) = true := beq_iff_eq.mpr c11
  have c11b1 : (t194.toList != t179.toList) = false := bne_eq_false_iff_eq.mpr c11
  clear c11
  replace H := Option.bind_eq_some_iff.mp H
  obtain ⟨⟨t195, t196, t197, t198, t199, t200, t201, t202, t205⟩, A120, H⟩ := H
  (try dsimp only at H)
  have A12 := Aside0.mk A120
  clear A120
  replace H := Option.bind_eq_some_iff.mp H
  obtain ⟨t208, A130, H⟩ := H
  (try dsimp only at H)
  have A13 := Aside0.mk A130
  clear A130
  by_cases c14 : t208 = true
  rotate_left
  ·replace c14 := Bool.eq_false_iff.mpr c14
   subst c14
   rw [if_neg (show ¬ (false = true) by decide)] at H
   exact absurd H (by decide)
  subst c14
  have H1 : (some true) = some true := rfl
  clear H
  have H := H1
  clear H1
  clear H
  go_enter Tryd.func4, Tryd.ntmps4
  try go_wp2_with (first | ((with_reducible refine gate_dst (N := 1) rfl ?_); refine boxM 1 #[.int .i64 a0_0, .int .i64 a0_1, .int .i64 a0_2, .int .i64 a0_3, .int .i64 a0_4, .int .i64 a0_5, .int .i64 a0_6, .slice A0_7 l0_7.length c0_7, .slice A0_8 l0_8.length c0_8] 27 ?_; intro gb164 hg w15 BK164 hb; replace HB := box_at w hb hg; obtain ⟨HB, GW164, GE164⟩ := HB; clear hb hg; have hcz16 := cells9 BK164.out) | ((with_reducible refine gate_callee (f := 8) rfl ?_); refine goesM (some 9) rfl rfl Tryd.func8 (by kernel_rfl) rfl #[.agg #[.int .i64 a0_0, .int .i64 a0_1, .int .i64 a0_2, .int .i64 a0_3, .int .i64 a0_4, .int .i64 a0_5, .int .i64 a0_6, .slice A0_7 l0_7.length c0_7, .slice A0_8 l0_8.length c0_8], .int .i64 1048576] rfl ?_; (with_reducible refine (laws_szLayer.calls a0_0 a0_1 a0_2 a0_3 a0_4 a0_5 a0_6 _ _ l0_7 _ _ l0_8 1048576 t165 _ ?side1 ?side2 ?side3 ?side4 A2.out).mono ?_); (case side1 => exact C_now HR0_7.out); (case side2 => exact HC0_7.out); (case side3 => exact C_now HR0_8.out); (case side4 => exact HC0_8.out); rintro e w17 ⟨rfl, hb⟩; refine ⟨_, rfl, ?_⟩; replace HB := bel_on w hb; replace BK164 := blk_on gb164 hb; (try clear hb); have hcz18 := cells9 BK164.out) | ((with_reducible refine gate_callee (f := 10) rfl ?_); refine goesM (some 13) rfl rfl Tryd.func10 (by kernel_rfl) rfl #[.agg #[.int .i64 a0_0, .int .i64 a0_1, .int .i64 a0_2, .int .i64 a0_3, .int .i64 a0_4, .int .i64 a0_5, .int .i64 a0_6, .slice A0_7 l0_7.length c0_7, .slice A0_8 l0_8.length c0_8]] rfl ?_; (with_reducible refine (laws_toLayer.calls k a0_0 a0_1 a0_2 a0_3 a0_4 a0_5 a0_6 _ _ l0_7 _ _ l0_8 t166 t167 t168 t169 t170 t171 t172 t173 t176 _ ?side1 ?side2 ?side3 ?side4 A7.out).mono ?_); (case side1 => exact C_now HR0_7.out); (case side2 => exact HC0_7.out); (case side3 => exact C_now HR0_8.out); (case side4 => exact HC0_8.out); rintro e w19 ⟨v174, v177, rfl, ho0, ho1, hb⟩; refine ⟨_, rfl, ?_⟩; have n0_ := Aside0.mk (Kd.R_lower ho0 (below_size bel_now)); have n1_ := Aside0.mk (Kd.R_lower ho1 (below_size bel_now)); replace HB := bel_on w hb; replace BK164 := blk_on gb164 hb; have HO175 := n0_; have HO178 := n1_; clear n0_ n1_; (try clear hb); (try clear ho0); (try clear ho1); obtain ⟨Ao20, co20, eo20⟩ := Kd.R_slice HO175.out; subst eo20; obtain ⟨Ao21, co21, eo21⟩ := Kd.R_slice HO178.out; subst eo21) | ((with_reducible refine gate_callee (f := 9) rfl ?_); refine goesM (some 14) rfl rfl Tryd.func9 (by kernel_rfl) rfl #[.agg #[.int .i64 t166, .int .i64 t167, .int .i64 t168, .int .i64 t169, .int .i64 t170, .int .i64 t171, .int .i64 t172, .slice Ao20 t173.length co20, .slice Ao21 t176.length co21]] rfl ?_; (with_reducible refine (spec_LayerText.calls k t166 t167 t168 t169 t170 t171 t172 _ _ t173 _ _ t176 t179 _ ?side1 ?side2 ?side3 ?side4 A8.out).mono ?_); (case side1 => exact (Kd.R_reads' (R_at HO175.out)).2.2); (case side2 => exact (Kd.R_reads' HO175.out).2.1); (case side3 => exact (Kd.R_reads' (R_at HO178.out)).2.2); (case side4 => exact (Kd.R_reads' HO178.out).2.1); rintro e w22 ⟨rfl, hb⟩; refine ⟨_, rfl, ?_⟩; replace HO175 := Aside0.mk (Kd.R_below (R_at HO175.out) hb); replace HO178 := Aside0.mk (Kd.R_below (R_at HO178.out) hb); replace HB := bel_on w hb; replace BK164 := blk_on gb164 hb; (try clear hb); have hcz23 := cells9 BK164.out) | ((with_reducible refine gate_callee (f := 10) rfl ?_); refine goesM (some 16) rfl rfl Tryd.func10 (by kernel_rfl) rfl #[.agg #[.int .i64 a0_0, .int .i64 a0_1, .int .i64 a0_2, .int .i64 a0_3, .int .i64 a0_4, .int .i64 a0_5, .int .i64 a0_6, .slice A0_7 l0_7.length c0_7, .slice A0_8 l0_8.length c0_8]] rfl ?_; (with_reducible refine (laws_toLayer.calls k a0_0 a0_1 a0_2 a0_3 a0_4 a0_5 a0_6 _ _ l0_7 _ _ l0_8 t180 t181 t182 t183 t184 t185 t186 t187 t190 _ ?side1 ?side2 ?side3 ?side4 A9.out).mono ?_); (case side1 => exact C_now HR0_7.out); (case side2 => exact HC0_7.out); (case side3 => exact C_now HR0_8.out); (case side4 => exact HC0_8.out); rintro e w24 ⟨v188, v191, rfl, ho0, ho1, hb⟩; refine ⟨_, rfl, ?_⟩; have n2_ := Aside0.mk (Kd.R_lower (Kd.R_new' (Kd.R_new' ho0 (Kd.R_lt (R_at HO175.out))) (Kd.R_lt (R_at HO178.out))) (below_size bel_now)); have n3_ := Aside0.mk (Kd.R_lower (Kd.R_new' (Kd.R_new' ho1 (Kd.R_lt (R_at HO175.out))) (Kd.R_lt (R_at HO178.out))) (below_size bel_now)); replace HO175 := Aside0.mk (Kd.R_mono (Kd.R_told (Kd.R_told (Kd.R_old (R_at HO175.out) hb) (Kd.R_base ho0)) (Kd.R_base ho1)) (fun _ h_ => h_.1)); replace HO178 := Aside0.mk (Kd.R_mono (Kd.R_told (Kd.R_told (Kd.R_old (R_at HO178.out) hb) (Kd.R_base ho0)) (Kd.R_base ho1)) (fun _ h_ => h_.1)); replace HB := bel_on w hb; replace BK164 := blk_on gb164 hb; have HO189 := n2_; have HO192 := n3_; clear n2_ n3_; (try clear hb); (try clear ho0); (try clear ho1)) | ((with_reducible refine gate_dst (N := 5) rfl ?_); refine boxM 5 #[.int .i64 0, .int .i64 0, .int .i64 0, .int .i64 0, .int .i64 0, .int .i64 0, .int .i64 0, .slice none 0 0, .slice none 0 0] 30 ?_; intro gb193 hg w25 BK193 hb; replace HB := box_at w hb hg; obtain ⟨HB, GW193, GE193⟩ := HB; replace BK164 := box_on gb164 hb hg; obtain ⟨BK164, NB164_193, NB193_164⟩ := BK164; replace HO175 := Aside0.mk (Kd.R_below (R_at HO175.out) hb); replace HO178 := Aside0.mk (Kd.R_below (R_at HO178.out) hb); replace HO189 := Aside0.mk (Kd.R_below (R_at HO189.out) hb); replace HO192 := Aside0.mk (Kd.R_below (R_at HO192.out) hb); clear hb hg; have hn26 := ne2 NB193_164; have hcz27 := cells9 BK193.out; obtain ⟨Ao28, co28, eo28⟩ := Kd.R_slice HO189.out; subst eo28; obtain ⟨Ao29, co29, eo29⟩ := Kd.R_slice HO192.out; subst eo29) | ((with_reducible refine gate_callee (f := 11) rfl ?_); refine goesM (some 18) rfl rfl Tryd.func11 (by kernel_rfl) rfl #[.agg #[.int .i64 t180, .int .i64 t181, .int .i64 t182, .int .i64 t183, .int .i64 t184, .int .i64 t185, .int .i64 t186, .slice Ao28 t187.length co28, .slice Ao29 t190.length co29]] rfl ?_; (with_reducible refine (impl_LayerText.calls (htab := tab_now HTB) t180 t181 t182 t183 t184 t185 t186 _ _ t187 _ _ t190 t194 _ ?side1 ?side2 ?side3 ?side4 A10.out).mono ?_); (case side1 => refine (Kd.R_reads' (e := 3) (base := w.heap.size) (ok := fun k_ => ((nb k_ Ao29 t190.length co29 ∧ nb k_ Ao20 t173.length co20) ∧ nb k_ Ao21 t176.length co21)) (n := t187.length) (c := co28) ?_).2.2; exact (R_at (R_far9 HO189.out BK193.out (by decide)))); (case side2 => exact (Kd.R_reads' HO189.out).2.1); (case side3 => refine (Kd.R_reads' (e := 3) (base := w.heap.size) (ok := fun k_ => ((nb k_ Ao28 t187.length co28 ∧ nb k_ Ao20 t173.length co20) ∧ nb k_ Ao21 t176.length co21)) (n := t190.length) (c := co29) ?_).2.2; exact (R_at (R_far9 HO192.out BK193.out (by decide)))); (case side4 => exact (Kd.R_reads' HO192.out).2.1); rintro e w30 ⟨rfl, hb⟩; refine ⟨_, rfl, ?_⟩; have n0_ := Aside0.mk (Kd.R_below (R_at (R_far9 HO175.out BK193.out (by decide))) hb); have n1_ := Aside0.mk (Kd.R_below (R_at (R_far9 HO178.out BK193.out (by decide))) hb); have n2_ := Aside0.mk (Kd.R_below (R_at (R_far9 HO189.out BK193.out (by decide))) hb); have n3_ := Aside0.mk (Kd.R_below (R_at (R_far9 HO192.out BK193.out (by decide))) hb); replace HB := bel_on w hb; replace BK164 := Aside0.mk (blk_below (g := gb164) (o := .cells #[.int .i64 a0_0, .int .i64 a0_1, .int .i64 a0_2, .int .i64 a0_3, .int .i64 a0_4, .int .i64 a0_5, .int .i64 a0_6, .slice A0_7 l0_7.length c0_7, .slice A0_8 l0_8.length c0_8] 27 (0, 0)) (blk_fars BK164.out) hb); replace BK193 := Aside0.mk (blk_below (g := gb193) (o := .cells #[.int .i64 t180, .int .i64 t181, .int .i64 t182, .int .i64 t183, .int .i64 t184, .int .i64 t185, .int .i64 t186, .slice Ao28 t187.length co28, .slice Ao29 t190.length co29] 30 (0, 0)) (by (with_reducible repeat (first | refine blk_drewN ?_ _ | refine blk_drew ?_ | refine blk_alloc ?_ _)); first | exact putl9 BK193.out | exact blk_fars (putl9 BK193.out)) hb); clear HO175 HO178 HO189 HO192; have HO175 := n0_; have HO178 := n1_; have HO189 := n2_; have HO192 := n3_; clear n0_ n1_ n2_ n3_; (try clear hb)))
  replace HO175 := Aside0.mk (Kd.R_drew HO175.out)
  replace HO178 := Aside0.mk (Kd.R_drew HO178.out)
  replace HO189 := Aside0.mk (Kd.R_drew HO189.out)
  replace HO192 := Aside0.mk (Kd.R_drew HO192.out)
  replace BK164 := Aside0.mk (blk_drew BK164.out)
  replace BK193 := Aside0.mk (blk_drew BK193.out)
  replace HB := Aside0.mk (below_drew1 HB.out)
  refine start_ (n := 5) (S := fun w' => w'.cell? ⟨gb193, 0, none⟩ = some (.int .i64 t180) ∧ w'.cell? ⟨gb193, 1, none⟩ = some (.int .i64 t181) ∧ w'.cell? ⟨gb193, 2, none⟩ = some (.int .i64 t182) ∧ w'.cell? ⟨gb193, 3, none⟩ = some (.int .i64 t183) ∧ w'.cell? ⟨gb193, 4, none⟩ = some (.int .i64 t184) ∧ w'.cell? ⟨gb193, 5, none⟩ = some (.int .i64 t185) ∧ w'.cell? ⟨gb193, 6, none⟩ = some (.int .i64 t186) ∧ w'.cell? ⟨gb193, 7, none⟩ = some (.slice Ao28 t187.length co28) ∧ w'.cell? ⟨gb193, 8, none⟩ = some (.slice Ao29 t190.length co29) ∧ w'.cell? ⟨gb164, 0, none⟩ = some (.int .i64 a0_0) ∧ w'.cell? ⟨gb164, 1, none⟩ = some (.int .i64 a0_1) ∧ w'.cell? ⟨gb164, 2, none⟩ = some (.int .i64 a0_2) ∧ w'.cell? ⟨gb164, 3, none⟩ = some (.int .i64 a0_3) ∧ w'.cell? ⟨gb164, 4, none⟩ = some (.int .i64 a0_4) ∧ w'.cell? ⟨gb164, 5, none⟩ = some (.int .i64 a0_5) ∧ w'.cell? ⟨gb164, 6, none⟩ = some (.int .i64 a0_6) ∧ w'.cell? ⟨gb164, 7, none⟩ = some (.slice A0_7 l0_7.length c0_7) ∧ w'.cell? ⟨gb164, 8, none⟩ = some (.slice A0_8 l0_8.length c0_8)) (ds := []) #[false, false, false, false, false] (by kernel_rfl) rfl rfl ⟨bc BK193 0, bc BK193 1, bc BK193 2, bc BK193 3, bc BK193 4, bc BK193 5, bc BK193 6, bc BK193 7, bc BK193 8, bc BK164 0, bc BK164 1, bc BK164 2, bc BK164 3, bc BK164 4, bc BK164 5, bc BK164 6, bc BK164 7, bc BK164 8⟩ (fun hHeld => ?_)
  generalize w30.drew = w31 at HO175 HO178 HO189 HO192 BK164 BK193 HB hHeld ⊢
  refine stepT 0 (some 22) (tk 5 1) (by kernel_rfl) hHeld ?_
  refine stepT 1 (some 23) (tk 5 3) (by kernel_rfl) hHeld ?_
  refine one_ (i := 2) (N := some 24) #[true, true, true, false, false] rfl rfl (by kernel_rfl) (by decide) (fun K hK => ?_)
  refine goes_ Tryd.func10 (by kernel_rfl) rfl #[.agg #[.int .i64 a0_0, .int .i64 a0_1, .int .i64 a0_2, .int .i64 a0_3, .int .i64 a0_4, .int .i64 a0_5, .int .i64 a0_6, .slice A0_7 l0_7.length c0_7, .slice A0_8 l0_8.length c0_8]] (by rfl) rfl rfl (by (try simp only [List.map_toArray, List.map_cons, List.map_nil]); first | done | rfl | (simp only [List.length_drop, List.length_take]; rfl)) ?_
  with_reducible refine (laws_toLayer.calls k a0_0 a0_1 a0_2 a0_3 a0_4 a0_5 a0_6 _ _ l0_7 _ _ l0_8 t195 t196 t197 t198 t199 t200 t201 t202 t205 _ ?side1 ?side2 ?side3 ?side4 A12.out).mono ?_
  (case side1 => exact C_now HR0_7.out)
  (case side2 => exact HC0_7.out)
  (case side3 => exact C_now HR0_8.out)
  (case side4 => exact HC0_8.out)
  rintro e w32 ⟨v203, v206, rfl, ho0, ho1, hb⟩
  refine ⟨_, rfl, ?_⟩
  have n4_ := Aside0.mk (Kd.R_lower (Kd.R_new' (Kd.R_new' (Kd.R_new' (Kd.R_new' ho0 (Kd.R_lt (R_at HO175.out))) (Kd.R_lt (R_at HO178.out))) (Kd.R_lt (R_at HO189.out))) (Kd.R_lt (R_at HO192.out))) (below_size bel_now))
  have n5_ := Aside0.mk (Kd.R_lower (Kd.R_new' (Kd.R_new' (Kd.R_new' (Kd.R_new' ho1 (Kd.R_lt (R_at HO175.out))) (Kd.R_lt (R_at HO178.out))) (Kd.R_lt (R_at HO189.out))) (Kd.R_lt (R_at HO192.out))) (below_size bel_now))
  replace HO175 := Aside0.mk (Kd.R_mono (Kd.R_told (Kd.R_told (Kd.R_old (R_at HO175.out) hb) (Kd.R_base ho0)) (Kd.R_base ho1)) (fun _ h_ => h_.1))
  replace HO178 := Aside0.mk (Kd.R_mono (Kd.R_told (Kd.R_told (Kd.R_old (R_at HO178.out) hb) (Kd.R_base ho0)) (Kd.R_base ho1)) (fun _ h_ => h_.1))
  replace HO189 := Aside0.mk (Kd.R_mono (Kd.R_told (Kd.R_told (Kd.R_old (R_at HO189.out) hb) (Kd.R_base ho0)) (Kd.R_base ho1)) (fun _ h_ => h_.1))
  replace HO192 := Aside0.mk (Kd.R_mono (Kd.R_told (Kd.R_told (Kd.R_old (R_at HO192.out) hb) (Kd.R_base ho0)) (Kd.R_base ho1)) (fun _ h_ => h_.1))
  replace BK164 := blk_on gb164 hb
  replace BK193 := blk_on gb193 hb
  replace HB := bel_on w hb
  have HO204 := n4_
  have HO207 := n5_
  clear n4_ n5_
  (try clear hb)
  (try clear ho0)
  (try clear ho1)
  obtain ⟨Ao33, co33, eo33⟩ := Kd.R_slice HO204.out
  (first | subst eo33 | (injection eo33 with f1_ f2_ f3_; have f4_ := f1_.symm; have f5_ := f3_.symm; clear f1_ f2_ f3_; subst f4_; subst f5_))
  obtain ⟨Ao34, co34, eo34⟩ := Kd.R_slice HO207.out
  (first | subst eo34 | (injection eo34 with f1_ f2_ f3_; have f4_ := f1_.symm; have f5_ := f3_.symm; clear f1_ f2_ f3_; subst f4_; subst f5_))
  refine hK.out _ _ ⟨bc BK193 0, bc BK193 1, bc BK193 2, bc BK193 3, bc BK193 4, bc BK193 5, bc BK193 6, bc BK193 7, bc BK193 8, bc BK164 0, bc BK164 1, bc BK164 2, bc BK164 3, bc BK164 4, bc BK164 5, bc BK164 6, bc BK164 7, bc BK164 8⟩ (fun hHeld => ?_)
  clear hK K
  refine normP 24 ?_
  refine one_ (i := 3) (N := some 25) #[true, true, true, true, false] rfl rfl (by kernel_rfl) (by decide) (fun K hK => ?_)
  refine goes_ Tryd.func12 (by kernel_rfl) rfl #[.agg #[.int .i64 t180, .int .i64 t181, .int .i64 t182, .int .i64 t183, .int .i64 t184, .int .i64 t185, .int .i64 t186, .slice Ao28 t187.length co28, .slice Ao29 t190.length co29], .agg #[.int .i64 t195, .int .i64 t196, .int .i64 t197, .int .i64 t198, .int .i64 t199, .int .i64 t200, .int .i64 t201, .slice Ao33 t202.length co33, .slice Ao34 t205.length co34]] (by rfl) rfl rfl (by (try simp only [List.map_toArray, List.map_cons, List.map_nil]); first | done | rfl | (simp only [List.length_drop, List.length_take]; rfl)) ?_
  with_reducible refine (laws_eqLayer.calls k t180 t181 t182 t183 t184 t185 t186 _ _ t187 _ _ t190 t195 t196 t197 t198 t199 t200 t201 _ _ t202 _ _ t205 true _ ?side1 ?side2 ?side3 ?side4 ?side5 ?side6 ?side7 ?side8 A13.out).mono ?_
  (case side1 => exact (Kd.R_reads' (R_at HO189.out)).2.2)
  (case side2 => exact (Kd.R_reads' HO189.out).2.1)
  (case side3 => exact (Kd.R_reads' (R_at HO192.out)).2.2)
  (case side4 => exact (Kd.R_reads' HO192.out).2.1)
  (case side5 => exact (Kd.R_reads' (R_at HO204.out)).2.2)
  (case side6 => exact (Kd.R_reads' HO204.out).2.1)
  (case side7 => exact (Kd.R_reads' (R_at HO207.out)).2.2)
  (case side8 => exact (Kd.R_reads' HO207.out).2.1)
  rintro e w35 ⟨rfl, hb⟩
  refine ⟨_, rfl, ?_⟩
  replace HO175 := Aside0.mk (Kd.R_below (R_at HO175.out) hb)
  replace HO178 := Aside0.mk (Kd.R_below (R_at HO178.out) hb)
  replace HO189 := Aside0.mk (Kd.R_below (R_at HO189.out) hb)
  replace HO192 := Aside0.mk (Kd.R_below (R_at HO192.out) hb)
  replace HO204 := Aside0.mk (Kd.R_below (R_at HO204.out) hb)
  replace HO207 := Aside0.mk (Kd.R_below (R_at HO207.out) hb)
  replace BK164 := blk_on gb164 hb
  replace BK193 := blk_on gb193 hb
  replace HB := bel_on w hb
  (try clear hb)
  refine hK.out _ _ ⟨bc BK193 0, bc BK193 1, bc BK193 2, bc BK193 3, bc BK193 4, bc BK193 5, bc BK193 6, bc BK193 7, bc BK193 8, bc BK164 0, bc BK164 1, bc BK164 2, bc BK164 3, bc BK164 4, bc BK164 5, bc BK164 6, bc BK164 7, bc BK164 8⟩ (fun hHeld => ?_)
  clear hK K
  refine normP 25 ?_
  refine stepP 4 (some 26) (tk 5 31) (by kernel_rfl) ?_
  refine done_ (by kernel_rfl) ?_
  try go_wp2
  go_ret
  exact ⟨eqN, bel_now⟩

end Go.Proofs.YtjmejobelkllmaaDoor.PFnExactLayerText
