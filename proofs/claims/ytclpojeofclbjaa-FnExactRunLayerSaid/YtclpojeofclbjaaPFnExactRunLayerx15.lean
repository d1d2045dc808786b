-- Printed by the session's own program (wip/myprint.py) for this claim out of the translation. Not trusted: Lean checks it.
import Derived.Test.YtclpojeofclbjaaPFnExactRunLayerx0
import Derived.Test.YtclpojeofclbjaaPFnExactRunLayerx13
import Derived.Test.YtclpojeofclbjaaPFnExactRunLayerx14
namespace Go.Proofs.Ytclpojeofclbjaa.PFnExactRunLayer
open Go.RowKit Go.Proofs.YtclpojeofclbjaaW.PrintWords Go.Proofs.YtclpojeofclbjaaW.PrintLast Go.Proofs.YtclpojeofclbjaaW.PrintMore
attribute [local go_sem] max2_int min2_int max_two min_two max_three min_three max_four min_four   -- for this text's walks alone
set_option linter.unusedVariables false
set_option linter.unusedSimpArgs false

/-! ### impl_Layer_item: function 53 -/
def impl_Layer_item.l0 : Nat → Int → List Int → Int → Int → Int → Int → Int → Int → Int → Int → Int → List Int → List Int → Option (Int)
  | 0, _, _, _, _, _, _, _, _, _, _, _, _, _ => none
  | k + 1, x11, x49, x50, x51, x353000, x353001, x353002, x353003, x353004, x353005, x353006, x353007, x353008 => if x51 < x50 then (if 0 ≤ x51 then (if x51 < (x49.length : Int) then (impl_Layer_item.l0 k (wrap64 (x11 + (rd x49 x51))) x49 x50 (wrap64 (x51 + 1)) x353000 x353001 x353002 x353003 x353004 x353005 x353006 x353007 x353008) else (none)) else (none)) else ((impl_rounded.f k x11 (wrap64 (x353002 * x353002))).bind fun t367 => (some t367))
def impl_Layer_item.f (k : Nat) (a0_0 : Int) (a0_1 : Int) (a0_2 : Int) (a0_3 : Int) (a0_4 : Int) (a0_5 : Int) (a0_6 : Int) (l0_7 : List Int) (l0_8 : List Int) (a1_0 : Int) (a1_1 : Int) (a1_2 : Int) (l1_3 : List Int) (a2 : Int) (a3 : Int) (a4 : Int) : Option (Int) := if a0_0 = 0 then ((impl_Layer_scaled.f k a0_0 a0_1 a0_2 a0_3 a0_4 a0_5 a0_6 l0_7 l0_8 l1_3 a4).bind fun t354 => (some t354)) else (if a0_0 = 1 then ((impl_Layer_window.f k a0_0 a0_1 a0_2 a0_3 a0_4 a0_5 a0_6 l0_7 l0_8 a1_0 a1_1 a1_2 l1_3 a2 a3 (-1)).bind fun t355 => ((impl_Layer_scaled.f k a0_0 a0_1 a0_2 a0_3 a0_4 a0_5 a0_6 l0_7 l0_8 t355 a4).bind fun t358 => (some t358))) else (if a0_0 = 2 then ((impl_Layer_window.f k a0_0 a0_1 a0_2 a0_3 a0_4 a0_5 a0_6 l0_7 l0_8 a1_0 a1_1 a1_2 l1_3 a2 a3 a4).bind fun t359 => ((slices_Max_int_int.f k t359).bind fun t362 => (some t362))) else (if a0_0 = 3 then ((impl_Layer_window.f k a0_0 a0_1 a0_2 a0_3 a0_4 a0_5 a0_6 l0_7 l0_8 a1_0 a1_1 a1_2 l1_3 a2 a3 a4).bind fun t363 => (impl_Layer_item.l0 k 0 t363 (t363.length : Int) 0 a0_0 a0_1 a0_2 a0_3 a0_4 a0_5 a0_6 l0_7 l0_8)) else (if a0_0 = 4 then ((impl_Shape_place.f a1_0 a1_1 a1_2 a2 a3 a4).bind fun t368 => (if 0 ≤ t368 then (if t368 < (l1_3.length : Int) then (some (mx (rd l1_3 t368) a0_6)) else (none)) else (none))) else (if 0 ≤ a4 then (if a4 < (l1_3.length : Int) then (some (rd l1_3 a4)) else (none)) else (none))))))
def impl_Layer_item.T5 : Bool × List (List Nat × List Nat) := (true, [([], []), ([], []), ([], []), ([], []), ([], []), ([1, 2, 3, 4], [1, 2, 3, 4]), ([], []), ([0, 5, 6, 5], [0, 5, 6]), ([7, 7, 0, 1, 2, 3, 4, 5, 6, 7], [7])])
def impl_Layer_item.B5 : List Nat := [0, 0, 0, 0, 0, 30, 0, 127, 255]
theorem impl_Layer_item.tab5 : rtab .any (opsOf Try.f53 5) = impl_Layer_item.T5 := by kernel_rfl
theorem impl_Layer_item.bits5 : waitsOk impl_Layer_item.T5.2 impl_Layer_item.B5 = true := by kernel_rfl
def impl_Layer_item.T17 : Bool × List (List Nat × List Nat) := (true, [([], []), ([0], [0]), ([], []), ([2], [2]), ([], []), ([], []), ([], []), ([3, 4, 5, 6], [3, 4, 5, 6]), ([1, 7], [1, 7]), ([8], [8]), ([], []), ([10], [10]), ([9, 11], [9, 11]), ([12, 7, 0, 1, 2, 3, 4, 5, 6, 7, 8, 9, 10, 11, 12], [12])])
def impl_Layer_item.B17 : List Nat := [0, 1, 0, 4, 0, 0, 0, 124, 255, 511, 0, 1024, 4095, 8191]
theorem impl_Layer_item.tab17 : rtab .any (opsOf Try.f53 17) = impl_Layer_item.T17 := by kernel_rfl
theorem impl_Layer_item.bits17 : waitsOk impl_Layer_item.T17.2 impl_Layer_item.B17 = true := by kernel_rfl
set_option maxHeartbeats 8000000 in
set_option maxRecDepth 100000 in
theorem impl_Layer_item.calls (k : Nat) (a0_0 : Int) (a0_1 : Int) (a0_2 : Int) (a0_3 : Int) (a0_4 : Int) (a0_5 : Int) (a0_6 : Int) (A0_7 : Option Addr) (c0_7 : Nat) (l0_7 : List Int) (A0_8 : Option Addr) (c0_8 : Nat) (l0_8 : List Int) (a1_0 : Int) (a1_1 : Int) (a1_2 : Int) (A1_3 : Option Addr) (c1_3 : Nat) (l1_3 : List Int) (a2 : Int) (a3 : Int) (a4 : Int) (r : Int) (w : World) (hr0_7 : Kd.C (Kd.int .i64) w A0_7 l0_7.length l0_7) (hc0_7 : l0_7.length ≤ c0_7) (hr0_8 : Kd.C (Kd.int .i64) w A0_8 l0_8.length l0_8) (hc0_8 : l0_8.length ≤ c0_8) (hr1_3 : Kd.C (Kd.int .i64) w A1_3 l1_3.length l1_3) (hc1_3 : l1_3.length ≤ c1_3) (h : impl_Layer_item.f k a0_0 a0_1 a0_2 a0_3 a0_4 a0_5 a0_6 l0_7 l0_8 a1_0 a1_1 a1_2 l1_3 a2 a3 a4 = some r) :
   Calls Try.prog 53 #[.agg #[.int .i64 a0_0, .int .i64 a0_1, .int .i64 a0_2, .int .i64 a0_3, .int .i64 a0_4, .int .i64 a0_5, .int .i64 a0_6, .slice A0_7 l0_7.length c0_7, .slice A0_8 l0_8.length c0_8], .agg #[.int .i64 a1_0, .int .i64 a1_1, .int .i64 a1_2, .slice A1_3 l1_3.length c1_3], .int .i64 a2, .int .i64 a3, .int .i64 a4] w fun e w' => e = .returned (.int .i64 r) ∧ Below w.heap.size w w' := by
  have hu37 := Try.underlying37
  have hu33 := Try.underlying33
  have hu31 := Try.underlying31
  have HR0_7 := Aside0.mk hr0_7
  have HC0_7 := Aside0.mk hc0_7
  clear hr0_7 hc0_7
  have HR0_8 := Aside0.mk hr0_8
  have HC0_8 := Aside0.mk hc0_8
  clear hr0_8 hc0_8
  have HR1_3 := Aside0.mk hr1_3
  have HC1_3 := Aside0.mk hc1_3
  clear hr1_3 hc1_3
  have HB := Aside0.mk (Below.refl w.heap.size w)
  have H : (if a0_0 = 0 then ((impl_Layer_scaled.f k a0_0 a0_1 a0_2 a0_3 a0_4 a0_5 a0_6 l0_7 l0_8 l1_3 a4).bind fun t354 => (some t354)) else (if a0_0 = 1 then ((impl_Layer_window.f k a0_0 a0_1 a0_2 a0_3 a0_4 a0_5 a0_6 l0_7 l0_8 a1_0 a1_1 a1_2 l1_3 a2 a3 (-1)).bind fun t355 => ((impl_Layer_scaled.f k a0_0 a0_1 a0_2 a0_3 a0_4 a0_5 a0_6 l0_7 l0_8 t355 a4).bind fun t358 => (some t358))) else (if a0_0 = 2 then ((impl_Layer_window.f k a0_0 a0_1 a0_2 a0_3 a0_4 a0_5 a0_6 l0_7 l0_8 a1_0 a1_1 a1_2 l1_3 a2 a3 a4).bind fun t359 => ((slices_Max_int_int.f k t359).bind fun t362 => (some t362))) else (if a0_0 = 3 then ((impl_Layer_window.f k a0_0 a0_1 a0_2 a0_3 a0_4 a0_5 a0_6 l0_7 l0_8 a1_0 a1_1 a1_2 l1_3 a2 a3 a4).bind fun t363 => (impl_Layer_item.l0 k 0 t363 (t363.length : Int) 0 a0_0 a0_1 a0_2 a0_3 a0_4 a0_5 a0_6 l0_7 l0_8)) else (if a0_0 = 4 then ((impl_Shape_place.f a1_0 a1_1 a1_2 a2 a3 a4).bind fun t368 => (if 0 ≤ t368 then (if t368 < (l1_3.length : Int) then (some (mx (rd l1_3 t368) a0_6)) else (none)) else (none))) else (if 0 ≤ a4 then (if a4 < (l1_3.length : Int) then (some (rd l1_3 a4)) else (none)) else (none))))))) = some r := h
  clear h
  by_cases c6 : a0_0 = 0
  ·rw [if_pos c6] at H
   have c6b0 : (a0_0 == 0) = true := beq_iff_eq.mpr c6
   have c6b1 : (a0_0 != 0) = false := bne_eq_false_iff_eq.mpr c6
   clear c6
   replace H := Option.bind_eq_some_iff.mp H
   obtain ⟨t354, A70, H⟩ := H
   (try dsimp only at H)
   have A7 := Aside0.mk A70
   clear A70
   obtain rfl := Option.some.inj H
   go_enter Try.func53, Try.ntmps53
   go_wp2_with (first | ((with_reducible refine gate_dst (N := 5) rfl ?_); refine boxM 5 #[.int .i64 a0_0, .int .i64 a0_1, .int .i64 a0_2, .int .i64 a0_3, .int .i64 a0_4, .int .i64 a0_5, .int .i64 a0_6, .slice A0_7 l0_7.length c0_7, .slice A0_8 l0_8.length c0_8] 37 ?_; intro gb352 hg w8 BK352 hb; replace HB := box_at w hb hg; obtain ⟨HB, GW352, GE352⟩ := HB; clear hb hg) | ((with_reducible refine gate_dst (N := 6) rfl ?_); refine boxM 6 #[.int .i64 a1_0, .int .i64 a1_1, .int .i64 a1_2, .slice A1_3 l1_3.length c1_3] 33 ?_; intro gb353 hg w9 BK353 hb; replace HB := box_at w hb hg; obtain ⟨HB, GW353, GE353⟩ := HB; replace BK352 := box_on gb352 hb hg; obtain ⟨BK352, NB352_353, NB353_352⟩ := BK352; clear hb hg; have hn10 := ne2 NB352_353; have hcz11 := cells9 BK352.out; have hcz12 := cells4 BK353.out) | ((with_reducible refine gate_callee (f := 102) rfl ?_); refine goesM (some 22) rfl rfl Try.func102 (by kernel_rfl) rfl #[.agg #[.int .i64 a0_0, .int .i64 a0_1, .int .i64 a0_2, .int .i64 a0_3, .int .i64 a0_4, .int .i64 a0_5, .int .i64 a0_6, .slice A0_7 l0_7.length c0_7, .slice A0_8 l0_8.length c0_8], .slice A1_3 l1_3.length c1_3, .int .i64 a4] rfl ?_; (with_reducible refine (impl_Layer_scaled.calls k a0_0 a0_1 a0_2 a0_3 a0_4 a0_5 a0_6 _ _ l0_7 _ _ l0_8 _ _ l1_3 a4 t354 _ ?side1 ?side2 ?side3 ?side4 ?side5 ?side6 A7.out).mono ?_); (case side1 => exact C_now HR0_7.out); (case side2 => exact HC0_7.out); (case side3 => exact C_now HR0_8.out); (case side4 => exact HC0_8.out); (case side5 => exact C_now HR1_3.out); (case side6 => exact HC1_3.out); rintro e w13 ⟨rfl, hb⟩; refine ⟨_, rfl, ?_⟩; replace HB := bel_on w hb; replace BK352 := blk_on gb352 hb; replace BK353 := blk_on gb353 hb; (try clear hb)))
   go_ret
   exact ⟨eqN, bel_now⟩
  rw [if_neg c6] at H
  have c6b0 : (a0_0 == 0) = false := beq_eq_false_iff_ne.mpr c6
  have c6b1 : (a0_0 != 0) = true := bne_iff_ne.mpr c6
  by_cases c14 : a0_0 = 1
  ·rw [if_pos c14] at H
   have c14b0 : (a0_0 == 1) = true := beq_iff_eq.mpr c14
   have c14b1 : (a0_0 != 1) = false := bne_eq_false_iff_eq.mpr c14
   clear c14
   replace H := Option.bind_eq_some_iff.mp H
   obtain ⟨t355, A150, H⟩ := H
   (try dsimp only at H)
   have A15 := Aside0.mk A150
   clear A150
   replace H := Option.bind_eq_some_iff.mp H
   obtain ⟨t358, A160, H⟩ := H
   (try dsimp only at H)
   have A16 := Aside0.mk A160
   clear A160
   obtain rfl := Option.some.inj H
   go_enter Try.func53, Try.ntmps53
   try go_wp2_with (first | ((with_reducible refine gate_dst (N := 5) rfl ?_); refine boxM 5 #[.int .i64 a0_0, .int .i64 a0_1, .int .i64 a0_2, .int .i64 a0_3, .int .i64 a0_4, .int .i64 a0_5, .int .i64 a0_6, .slice A0_7 l0_7.length c0_7, .slice A0_8 l0_8.length c0_8] 37 ?_; intro gb352 hg w17 BK352 hb; replace HB := box_at w hb hg; obtain ⟨HB, GW352, GE352⟩ := HB; clear hb hg) | ((with_reducible refine gate_dst (N := 6) rfl ?_); refine boxM 6 #[.int .i64 a1_0, .int .i64 a1_1, .int .i64 a1_2, .slice A1_3 l1_3.length c1_3] 33 ?_; intro gb353 hg w18 BK353 hb; replace HB := box_at w hb hg; obtain ⟨HB, GW353, GE353⟩ := HB; replace BK352 := box_on gb352 hb hg; obtain ⟨BK352, NB352_353, NB353_352⟩ := BK352; clear hb hg; have hn19 := ne2 NB352_353; have hcz20 := cells9 BK352.out))
   replace BK352 := Aside0.mk (blk_drew BK352.out)
   replace BK353 := Aside0.mk (blk_drew BK353.out)
   replace HB := Aside0.mk (below_drew1 HB.out)
   refine start_ (n := 9) (S := fun w' => w'.cell? ⟨gb352, 0, none⟩ = some (.int .i64 a0_0) ∧ w'.cell? ⟨gb352, 1, none⟩ = some (.int .i64 a0_1) ∧ w'.cell? ⟨gb352, 2, none⟩ = some (.int .i64 a0_2) ∧ w'.cell? ⟨gb352, 3, none⟩ = some (.int .i64 a0_3) ∧ w'.cell? ⟨gb352, 4, none⟩ = some (.int .i64 a0_4) ∧ w'.cell? ⟨gb352, 5, none⟩ = some (.int .i64 a0_5) ∧ w'.cell? ⟨gb352, 6, none⟩ = some (.int .i64 a0_6) ∧ w'.cell? ⟨gb352, 7, none⟩ = some (.slice A0_7 l0_7.length c0_7) ∧ w'.cell? ⟨gb352, 8, none⟩ = some (.slice A0_8 l0_8.length c0_8) ∧ w'.cell? ⟨gb353, 0, none⟩ = some (.int .i64 a1_0) ∧ w'.cell? ⟨gb353, 1, none⟩ = some (.int .i64 a1_1) ∧ w'.cell? ⟨gb353, 2, none⟩ = some (.int .i64 a1_2) ∧ w'.cell? ⟨gb353, 3, none⟩ = some (.slice A1_3 l1_3.length c1_3)) (ds := []) #[O, O, O, O, O, O, O, O, O] (by kernel_rfl) rfl rfl ⟨bc BK352 0, bc BK352 1, bc BK352 2, bc BK352 3, bc BK352 4, bc BK352 5, bc BK352 6, bc BK352 7, bc BK352 8, bc BK353 0, bc BK353 1, bc BK353 2, bc BK353 3⟩ (fun hHeld => ?_); refine with_tabW impl_Layer_item.tab5 impl_Layer_item.bits5 (fun HT_ HW_ => ?_)
   generalize w18.drew = w21 at BK352 BK353 HB hHeld ⊢
   refine stepP 3 (some 28) (tk 9 8) (any_of HT_.out (by kernel_rfl)) ?_
   refine stepP 4 (some 29) (tk 9 24) (any_of HT_.out (by kernel_rfl)) ?_
   refine stepP 6 (some 31) (tk 9 88) (any_of HT_.out (by kernel_rfl)) ?_
   refine stepT 0 (some 25) (tk 9 89) (take_ofW HT_.out HW_.out (by kernel_rfl)) hHeld ?_
   refine stepT 1 (some 26) (tk 9 91) (take_ofW HT_.out HW_.out (by kernel_rfl)) hHeld ?_
   refine stepT 2 (some 27) (tk 9 95) (take_ofW HT_.out HW_.out (by kernel_rfl)) hHeld ?_
   refine one_ (i := 5) (N := some 30) #[I, I, I, I, I, I, I, O, O] rfl rfl (one_of HT_.out (by kernel_rfl)) (by decide) (fun K hK => ?_)
   refine goes_ Try.func103 (by kernel_rfl) rfl #[.agg #[.int .i64 a0_0, .int .i64 a0_1, .int .i64 a0_2, .int .i64 a0_3, .int .i64 a0_4, .int .i64 a0_5, .int .i64 a0_6, .slice A0_7 l0_7.length c0_7, .slice A0_8 l0_8.length c0_8], .agg #[.int .i64 a1_0, .int .i64 a1_1, .int .i64 a1_2, .slice A1_3 l1_3.length c1_3], .int .i64 a2, .int .i64 a3, .int .i64 (-1)] (by rfl) rfl rfl (by (try simp only [List.map_toArray, List.map_cons, List.map_nil]); first | done | rfl | (simp only [List.length_drop, List.length_take]; rfl)) ?_
   with_reducible refine (impl_Layer_window.calls k a0_0 a0_1 a0_2 a0_3 a0_4 a0_5 a0_6 _ _ l0_7 _ _ l0_8 a1_0 a1_1 a1_2 _ _ l1_3 a2 a3 (-1) t355 _ ?side1 ?side2 ?side3 ?side4 ?side5 ?side6 A15.out).mono ?_
   (case side1 => exact C_now HR0_7.out)
   (case side2 => exact HC0_7.out)
   (case side3 => exact C_now HR0_8.out)
   (case side4 => exact HC0_8.out)
   (case side5 => exact C_now HR1_3.out)
   (case side6 => exact HC1_3.out)
   rintro e w22 ⟨v356, rfl, ho0, hb⟩
   refine ⟨_, rfl, ?_⟩
   have n0_ := Aside0.mk (Kd.R_lower ho0 (below_size bel_now))
   replace BK352 := blk_on gb352 hb
   replace BK353 := blk_on gb353 hb
   replace HB := bel_on w hb
   have HO357 := n0_
   clear n0_
   (try clear hb)
   (try clear ho0)
   obtain ⟨Ao23, co23, eo23⟩ := Kd.R_slice HO357.out
   (first | subst eo23 | (injection eo23 with f1_ f2_ f3_; have f4_ := f1_.symm; have f5_ := f3_.symm; clear f1_ f2_ f3_; subst f4_; subst f5_))
   refine hK.out _ _ ⟨bc BK352 0, bc BK352 1, bc BK352 2, bc BK352 3, bc BK352 4, bc BK352 5, bc BK352 6, bc BK352 7, bc BK352 8, bc BK353 0, bc BK353 1, bc BK353 2, bc BK353 3⟩ (fun hHeld => ?_)
   clear hK K
   refine normP 30 ?_
   refine one_ (i := 7) (N := some 32) #[I, I, I, I, I, I, I, I, O] rfl rfl (one_of HT_.out (by kernel_rfl)) (by decide) (fun K hK => ?_)
   refine goes_ Try.func102 (by kernel_rfl) rfl #[.agg #[.int .i64 a0_0, .int .i64 a0_1, .int .i64 a0_2, .int .i64 a0_3, .int .i64 a0_4, .int .i64 a0_5, .int .i64 a0_6, .slice A0_7 l0_7.length c0_7, .slice A0_8 l0_8.length c0_8], .slice Ao23 t355.length co23, .int .i64 a4] (by rfl) rfl rfl (by (try simp only [List.map_toArray, List.map_cons, List.map_nil]); first | done | rfl | (simp only [List.length_drop, List.length_take]; rfl)) ?_
   with_reducible refine (impl_Layer_scaled.calls k a0_0 a0_1 a0_2 a0_3 a0_4 a0_5 a0_6 _ _ l0_7 _ _ l0_8 _ _ t355 a4 t358 _ ?side1 ?side2 ?side3 ?side4 ?side5 ?side6 A16.out).mono ?_
   (case side1 => exact C_now HR0_7.out)
   (case side2 => exact HC0_7.out)
   (case side3 => exact C_now HR0_8.out)
   (case side4 => exact HC0_8.out)
   (case side5 => exact (Kd.R_reads' (R_at HO357.out)).2.2)
   (case side6 => exact (Kd.R_reads' HO357.out).2.1)
   rintro e w24 ⟨rfl, hb⟩
   refine ⟨_, rfl, ?_⟩
   replace HO357 := Aside0.mk (Kd.R_below (R_at HO357.out) hb)
   replace BK352 := blk_on gb352 hb
   replace BK353 := blk_on gb353 hb
   replace HB := bel_on w hb
   (try clear hb)
   refine hK.out _ _ ⟨bc BK352 0, bc BK352 1, bc BK352 2, bc BK352 3, bc BK352 4, bc BK352 5, bc BK352 6, bc BK352 7, bc BK352 8, bc BK353 0, bc BK353 1, bc BK353 2, bc BK353 3⟩ (fun hHeld => ?_)
   clear hK K
   refine normP 32 ?_
   refine stepP 8 (some 10) (tk 9 511) (any_of HT_.out (by kernel_rfl)) ?_
   refine done_ (done_of HT_.out (by kernel_rfl)) ?_
   try go_wp2
   go_ret
   exact ⟨eqN, bel_now⟩
  rw [if_neg c14] at H
  have c14b0 : (a0_0 == 1) = false := beq_eq_false_iff_ne.mpr c14
  have c14b1 : (a0_0 != 1) = true := bne_iff_ne.mpr c14
  by_cases c25 : a0_0 = 2
  ·rw [if_pos c25] at H
   have c25b0 : (a0_0 == 2) = true := beq_iff_eq.mpr c25
   have c25b1 : (a0_0 != 2) = false := bne_eq_false_iff_eq.mpr c25
   clear c25
   replace H := Option.bind_eq_some_iff.mp H
   obtain ⟨t359, A260, H⟩ := H
   (try dsimp only at H)
   have A26 := Aside0.mk A260
   clear A260
   replace H := Option.bind_eq_some_iff.mp H
   obtain ⟨t362, A270, H⟩ := H
   (try dsimp only at H)
   have A27 := Aside0.mk A270
   clear A270
   obtain rfl := Option.some.inj H
   go_enter Try.func53, Try.ntmps53
   go_wp2_with (first | ((with_reducible refine gate_dst (N := 5) rfl ?_); refine boxM 5 #[.int .i64 a0_0, .int .i64 a0_1, .int .i64 a0_2, .int .i64 a0_3, .int .i64 a0_4, .int .i64 a0_5, .int .i64 a0_6, .slice A0_7 l0_7.length c0_7, .slice A0_8 l0_8.length c0_8] 37 ?_; intro gb352 hg w28 BK352 hb; replace HB := box_at w hb hg; obtain ⟨HB, GW352, GE352⟩ := HB; clear hb hg) | ((with_reducible refine gate_dst (N := 6) rfl ?_); refine boxM 6 #[.int .i64 a1_0, .int .i64 a1_1, .int .i64 a1_2, .slice A1_3 l1_3.length c1_3] 33 ?_; intro gb353 hg w29 BK353 hb; replace HB := box_at w hb hg; obtain ⟨HB, GW353, GE353⟩ := HB; replace BK352 := box_on gb352 hb hg; obtain ⟨BK352, NB352_353, NB353_352⟩ := BK352; clear hb hg; have hn30 := ne2 NB352_353; have hcz31 := cells9 BK352.out; have hcz32 := cells4 BK353.out) | ((with_reducible refine gate_callee (f := 103) rfl ?_); refine goesM (some 40) rfl rfl Try.func103 (by kernel_rfl) rfl #[.agg #[.int .i64 a0_0, .int .i64 a0_1, .int .i64 a0_2, .int .i64 a0_3, .int .i64 a0_4, .int .i64 a0_5, .int .i64 a0_6, .slice A0_7 l0_7.length c0_7, .slice A0_8 l0_8.length c0_8], .agg #[.int .i64 a1_0, .int .i64 a1_1, .int .i64 a1_2, .slice A1_3 l1_3.length c1_3], .int .i64 a2, .int .i64 a3, .int .i64 a4] rfl ?_; (with_reducible refine (impl_Layer_window.calls k a0_0 a0_1 a0_2 a0_3 a0_4 a0_5 a0_6 _ _ l0_7 _ _ l0_8 a1_0 a1_1 a1_2 _ _ l1_3 a2 a3 a4 t359 _ ?side1 ?side2 ?side3 ?side4 ?side5 ?side6 A26.out).mono ?_); (case side1 => exact C_now HR0_7.out); (case side2 => exact HC0_7.out); (case side3 => exact C_now HR0_8.out); (case side4 => exact HC0_8.out); (case side5 => exact C_now HR1_3.out); (case side6 => exact HC1_3.out); rintro e w33 ⟨v360, rfl, ho0, hb⟩; refine ⟨_, rfl, ?_⟩; have n0_ := Aside0.mk (Kd.R_lower ho0 (below_size bel_now)); replace HB := bel_on w hb; replace BK352 := blk_on gb352 hb; replace BK353 := blk_on gb353 hb; have HO361 := n0_; clear n0_; (try clear hb); (try clear ho0); obtain ⟨Ao34, co34, eo34⟩ := Kd.R_slice HO361.out; subst eo34) | ((with_reducible refine gate_callee (f := 104) rfl ?_); refine goesM (some 41) rfl rfl Try.func104 (by kernel_rfl) rfl #[.slice Ao34 t359.length co34] rfl ?_; (with_reducible refine (slices_Max_int_int.calls k _ _ t359 t362 _ ?side1 ?side2 A27.out).mono ?_); (case side1 => exact (Kd.R_reads' (R_at HO361.out)).2.2); (case side2 => exact (Kd.R_reads' HO361.out).2.1); rintro e w35 ⟨rfl, hb⟩; refine ⟨_, rfl, ?_⟩; replace HO361 := Aside0.mk (Kd.R_below (R_at HO361.out) hb); replace HB := bel_on w hb; replace BK352 := blk_on gb352 hb; replace BK353 := blk_on gb353 hb; (try clear hb)))
   go_ret
   exact ⟨eqN, bel_now⟩
  rw [if_neg c25] at H
  have c25b0 : (a0_0 == 2) = false := beq_eq_false_iff_ne.mpr c25
  have c25b1 : (a0_0 != 2) = true := bne_iff_ne.mpr c25
  by_cases c36 : a0_0 = 3
  ·rw [if_pos c36] at H
   have c36b0 : (a0_0 == 3) = true := beq_iff_eq.mpr c36
   have c36b1 : (a0_0 != 3) = false := bne_eq_false_iff_eq.mpr c36
   clear c36
   replace H := Option.bind_eq_some_iff.mp H
   obtain ⟨t363, A370, H⟩ := H
   (try dsimp only at H)
   have A37 := Aside0.mk A370
   clear A370
   have H' := Aside0.mk H
   clear H
   go_enter Try.func53, Try.ntmps53
   go_wp2_with (first | ((with_reducible refine gate_dst (N := 5) rfl ?_); refine boxM 5 #[.int .i64 a0_0, .int .i64 a0_1, .int .i64 a0_2, .int .i64 a0_3, .int .i64 a0_4, .int .i64 a0_5, .int .i64 a0_6, .slice A0_7 l0_7.length c0_7, .slice A0_8 l0_8.length c0_8] 37 ?_; intro gb352 hg w38 BK352 hb; replace HB := box_at w hb hg; obtain ⟨HB, GW352, GE352⟩ := HB; clear hb hg) | ((with_reducible refine gate_dst (N := 6) rfl ?_); refine boxM 6 #[.int .i64 a1_0, .int .i64 a1_1, .int .i64 a1_2, .slice A1_3 l1_3.length c1_3] 33 ?_; intro gb353 hg w39 BK353 hb; replace HB := box_at w hb hg; obtain ⟨HB, GW353, GE353⟩ := HB; replace BK352 := box_on gb352 hb hg; obtain ⟨BK352, NB352_353, NB353_352⟩ := BK352; clear hb hg; have hn40 := ne2 NB352_353; have hcz41 := cells9 BK352.out; have hcz42 := cells4 BK353.out) | ((with_reducible refine gate_callee (f := 103) rfl ?_); refine goesM (some 49) rfl rfl Try.func103 (by kernel_rfl) rfl #[.agg #[.int .i64 a0_0, .int .i64 a0_1, .int .i64 a0_2, .int .i64 a0_3, .int .i64 a0_4, .int .i64 a0_5, .int .i64 a0_6, .slice A0_7 l0_7.length c0_7, .slice A0_8 l0_8.length c0_8], .agg #[.int .i64 a1_0, .int .i64 a1_1, .int .i64 a1_2, .slice A1_3 l1_3.length c1_3], .int .i64 a2, .int .i64 a3, .int .i64 a4] rfl ?_; (with_reducible refine (impl_Layer_window.calls k a0_0 a0_1 a0_2 a0_3 a0_4 a0_5 a0_6 _ _ l0_7 _ _ l0_8 a1_0 a1_1 a1_2 _ _ l1_3 a2 a3 a4 t363 _ ?side1 ?side2 ?side3 ?side4 ?side5 ?side6 A37.out).mono ?_); (case side1 => exact C_now HR0_7.out); (case side2 => exact HC0_7.out); (case side3 => exact C_now HR0_8.out); (case side4 => exact HC0_8.out); (case side5 => exact C_now HR1_3.out); (case side6 => exact HC1_3.out); rintro e w43 ⟨v364, rfl, ho0, hb⟩; refine ⟨_, rfl, ?_⟩; have n0_ := Aside0.mk (Kd.R_lower ho0 (below_size bel_now)); replace HB := bel_on w hb; replace BK352 := blk_on gb352 hb; replace BK353 := blk_on gb353 hb; have HO365 := n0_; clear n0_; (try clear hb); (try clear ho0); obtain ⟨Ao44, co44, eo44⟩ := Kd.R_slice HO365.out; subst eo44))
   go_loopg [11, 51] k (fun kq v11 v51 w' => ∃ (x11_1 : Int) (x51_1 : Int), v11 = .int .i64 x11_1 ∧ v51 = .int .i64 x51_1 ∧ Aside0 (impl_Layer_item.l0 kq x11_1 t363 (t363.length : Int) x51_1 a0_0 a0_1 a0_2 a0_3 a0_4 a0_5 a0_6 l0_7 l0_8 = some r) ∧ Aside0 (kq ≤ k) ∧ Aside0 (Kd.R (Kd.int .i64) 3 w' w.heap.size (fun _ => True) (.slice Ao44 t363.length co44) t363) ∧ Aside0 (w'.heap[gb352]? = some (.cells #[.int .i64 a0_0, .int .i64 a0_1, .int .i64 a0_2, .int .i64 a0_3, .int .i64 a0_4, .int .i64 a0_5, .int .i64 a0_6, (.slice A0_7 l0_7.length c0_7), (.slice A0_8 l0_8.length c0_8)] 37 (0, 0))) ∧ Aside0 (w'.heap[gb353]? = some (.cells #[.int .i64 a1_0, .int .i64 a1_1, .int .i64 a1_2, (.slice A1_3 l1_3.length c1_3)] 33 (0, 0))) ∧ Aside0 (Below w.heap.size w w'))
   case atStart => exact ⟨(0), (0), (by first | rfl | (simp; done) | (simp [*]; done)), (by first | rfl | (simp; done) | (simp [*]; done)), H', ⟨Nat.le_refl _⟩, ⟨by (with_reducible repeat (first | apply Kd.R_alloc | apply Kd.R_drewN | apply Kd.R_drew)); exact HO365.out⟩, ⟨bks BK352⟩, ⟨bks BK353⟩, ⟨bel_now⟩⟩
   case round =>
    clear H'
    try clear c1
    try clear c2
    try clear p2
    try clear c3
    try clear c4
    try clear c5
    try clear c6
    try clear c6b0
    try clear c6b1
    try clear c10
    try clear c14
    try clear c14b0
    try clear c14b1
    try clear c19
    try clear c25
    try clear c25b0
    try clear c25b1
    try clear c30
    try clear c36
    try clear c36b0
    try clear c36b1
    try clear c40
    try clear hcz11
    try clear hcz12
    try clear hcz20
    try clear hcz31
    try clear hcz32
    try clear hcz41
    try clear hcz42
    obtain ⟨x11_1, x51_1, rfl, rfl, HA, HK1, HO_49, BK352, BK353, HB⟩ := hrel
    cases gk with
    | zero => exact absurd HA.out (by simp [impl_Layer_item.l0])
    | succ k1 =>
     have H := HA.out
     clear HA
     simp only [impl_Layer_item.l0] at H
     by_cases c45 : x51_1 < (t363.length : Int)
     rotate_left
     ·rw [if_neg c45] at H
      have c45b0 : decide (x51_1 < (t363.length : Int)) = false := decide_eq_false c45
      clear c45
      replace H := Option.bind_eq_some_iff.mp H
      obtain ⟨t367, A480, H⟩ := H
      (try dsimp only at H)
      have A48 := Aside0.mk A480
      clear A480
      obtain rfl := Option.some.inj H
      have hn49 := ne2 NB352_353
      have hcz50 := cells9 BK352.out
      go_wp2_with (first | ((with_reducible refine gate_callee (f := 105) rfl ?_); refine goesM (some 65) rfl rfl Try.func105 (by kernel_rfl) rfl #[.int .i64 x11_1, .int .i64 (wrap64 (a0_2 * a0_2))] rfl ?_; (with_reducible refine (impl_rounded.calls k1 x11_1 (wrap64 (a0_2 * a0_2)) t367 _ A48.out).mono ?_); rintro e w' ⟨rfl, ⟨nd, rfl⟩⟩; refine ⟨_, rfl, ?_⟩))
      go_ret
      exact ⟨eqN, bel_now⟩
     rw [if_pos c45] at H
     have c45b0 : decide (x51_1 < (t363.length : Int)) = true := decide_eq_true c45
     clear c45
     by_cases c46 : 0 ≤ x51_1
     rotate_left
     ·rw [if_neg c46] at H
      exact absurd H (by simp)
     rw [if_pos c46] at H
     have c46b0 : decide (0 ≤ x51_1) = true := decide_eq_true c46
     clear c46
     by_cases c47 : x51_1 < (t363.length : Int)
     rotate_left
     ·rw [if_neg c47] at H
      exact absurd H (by simp)
     rw [if_pos c47] at H
     have c47b0 : decide (x51_1 < (t363.length : Int)) = true := decide_eq_true c47
     clear c47
     have H' := Aside0.mk H
     clear H
     have p366 : 0 ≤ (x51_1 : Int) := of_decide_eq_true (by first | (with_reducible assumption) | assumption)
     have q366 : x51_1 < (t363.length : Int) := of_decide_eq_true (by first | (with_reducible assumption) | assumption)
     obtain ⟨ad366, e366, hx366_0⟩ := Kd.at_int (Kd.R_reads' HO_49.out).2.2 x51_1 p366 q366
     cases e366
     replace p366 := eq_true p366
     replace q366 := eq_true q366
     go_wp2
     go_roundg k1
     case measure => have := HK1.out; omega
     case rel => exact ⟨(wrap64 (x11_1 + (rd t363 x51_1))), (wrap64 (x51_1 + 1)), (by first | rfl | (simp; done) | (simp [*]; done)), (by first | rfl | (simp; done) | (simp [*]; done)), H', ⟨by have := HK1.out; omega⟩, ⟨by (with_reducible repeat (first | apply Kd.R_alloc | apply Kd.R_drewN | apply Kd.R_drew)); exact HO_49.out⟩, ⟨bks BK352⟩, ⟨bks BK353⟩, ⟨bel_now⟩⟩
  rw [if_neg c36] at H
  have c36b0 : (a0_0 == 3) = false := beq_eq_false_iff_ne.mpr c36
  have c36b1 : (a0_0 != 3) = true := bne_iff_ne.mpr c36
  by_cases c51 : a0_0 = 4
  rotate_left
  ·rw [if_neg c51] at H
   have c51b0 : (a0_0 == 4) = false := beq_eq_false_iff_ne.mpr c51
   have c51b1 : (a0_0 != 4) = true := bne_iff_ne.mpr c51
   by_cases c62 : 0 ≤ a4
   rotate_left
   ·rw [if_neg c62] at H
    exact absurd H (by simp)
   rw [if_pos c62] at H
   have c62b0 : decide (0 ≤ a4) = true := decide_eq_true c62
   clear c62
   by_cases c63 : a4 < (l1_3.length : Int)
   rotate_left
   ·rw [if_neg c63] at H
    exact absurd H (by simp)
   rw [if_pos c63] at H
   have c63b0 : decide (a4 < (l1_3.length : Int)) = true := decide_eq_true c63
   clear c63
   obtain rfl := Option.some.inj H
   go_enter Try.func53, Try.ntmps53
   go_wp2_with (first | ((with_reducible refine gate_dst (N := 5) rfl ?_); refine boxM 5 #[.int .i64 a0_0, .int .i64 a0_1, .int .i64 a0_2, .int .i64 a0_3, .int .i64 a0_4, .int .i64 a0_5, .int .i64 a0_6, .slice A0_7 l0_7.length c0_7, .slice A0_8 l0_8.length c0_8] 37 ?_; intro gb352 hg w64 BK352 hb; replace HB := box_at w hb hg; obtain ⟨HB, GW352, GE352⟩ := HB; clear hb hg) | ((with_reducible refine gate_dst (N := 6) rfl ?_); refine boxM 6 #[.int .i64 a1_0, .int .i64 a1_1, .int .i64 a1_2, .slice A1_3 l1_3.length c1_3] 33 ?_; intro gb353 hg w65 BK353 hb; replace HB := box_at w hb hg; obtain ⟨HB, GW353, GE353⟩ := HB; replace BK352 := box_on gb352 hb hg; obtain ⟨BK352, NB352_353, NB353_352⟩ := BK352; clear hb hg; have hn66 := ne2 NB352_353; have hcz67 := cells9 BK352.out; have hcz68 := cells4 BK353.out; have p370 : 0 ≤ (a4 : Int) := of_decide_eq_true (by first | (with_reducible assumption) | assumption); have q370 : a4 < (l1_3.length : Int) := of_decide_eq_true (by first | (with_reducible assumption) | assumption); obtain ⟨ad370, e370, hx370_0⟩ := Kd.at_int HR1_3.out a4 p370 q370; cases e370; replace hx370_0 := (HB.out.cell (World.block_lt_of_cell? w _ hx370_0)).trans hx370_0; replace p370 := eq_true p370; replace q370 := eq_true q370))
   go_ret
   exact ⟨eqN, bel_now⟩
  rw [if_pos c51] at H
  have c51b0 : (a0_0 == 4) = true := beq_iff_eq.mpr c51
  have c51b1 : (a0_0 != 4) = false := bne_eq_false_iff_eq.mpr c51
  clear c51
  replace H := Option.bind_eq_some_iff.mp H
  obtain ⟨t368, A520, H⟩ := H
  (try dsimp only at H)
  have A52 := Aside0.mk A520
  clear A520
  by_cases c53 : 0 ≤ t368
  rotate_left
  ·rw [if_neg c53] at H
   exact absurd H (by simp)
  rw [if_pos c53] at H
  have c53b0 : decide (0 ≤ t368) = true := decide_eq_true c53
  clear c53
  by_cases c54 : t368 < (l1_3.length : Int)
  rotate_left
  ·rw [if_neg c54] at H
   exact absurd H (by simp)
  rw [if_pos c54] at H
  have c54b0 : decide (t368 < (l1_3.length : Int)) = true := decide_eq_true c54
  clear c54
  obtain ⟨ji55, hji55⟩ : ∃ j_ : Int, (mx (rd l1_3 t368) a0_6) = j_ := ⟨_, rfl⟩
  replace H : (some ji55) = some r := by first | (rw [hji55] at H; exact H) | (simp only [hji55] at H ⊢; exact H)
  (try rw [hji55] at A52)
  have hji55_ : (if (rd l1_3 t368) < a0_6 then a0_6 else (rd l1_3 t368)) = ji55 := hji55
  obtain rfl := Option.some.inj H
  go_enter Try.func53, Try.ntmps53
  try go_wp2_with (first | ((with_reducible refine gate_dst (N := 5) rfl ?_); refine boxM 5 #[.int .i64 a0_0, .int .i64 a0_1, .int .i64 a0_2, .int .i64 a0_3, .int .i64 a0_4, .int .i64 a0_5, .int .i64 a0_6, .slice A0_7 l0_7.length c0_7, .slice A0_8 l0_8.length c0_8] 37 ?_; intro gb352 hg w56 BK352 hb; replace HB := box_at w hb hg; obtain ⟨HB, GW352, GE352⟩ := HB; clear hb hg) | ((with_reducible refine gate_dst (N := 6) rfl ?_); refine boxM 6 #[.int .i64 a1_0, .int .i64 a1_1, .int .i64 a1_2, .slice A1_3 l1_3.length c1_3] 33 ?_; intro gb353 hg w57 BK353 hb; replace HB := box_at w hb hg; obtain ⟨HB, GW353, GE353⟩ := HB; replace BK352 := box_on gb352 hb hg; obtain ⟨BK352, NB352_353, NB353_352⟩ := BK352; clear hb hg; have hn58 := ne2 NB352_353; have hcz59 := cells9 BK352.out))
  replace BK352 := Aside0.mk (blk_drew BK352.out)
  replace BK353 := Aside0.mk (blk_drew BK353.out)
  replace HB := Aside0.mk (below_drew1 HB.out)
  have p369 : 0 ≤ (t368 : Int) := of_decide_eq_true (by first | (with_reducible assumption) | assumption)
  have q369 : t368 < (l1_3.length : Int) := of_decide_eq_true (by first | (with_reducible assumption) | assumption)
  obtain ⟨ad369, e369, hx369_0⟩ := Kd.at_int HR1_3.out t368 p369 q369
  have hw369_0 := hx369_0
  cases e369
  replace hx369_0 := (HB.out.cell (World.block_lt_of_cell? w _ hx369_0)).trans hx369_0
  replace p369 := eq_true p369
  replace q369 := eq_true q369
  refine start_ (n := 14) (S := fun w' => w'.cell? ⟨gb353, 0, none⟩ = some (.int .i64 a1_0) ∧ w'.cell? ⟨gb353, 1, none⟩ = some (.int .i64 a1_1) ∧ w'.cell? ⟨gb353, 2, none⟩ = some (.int .i64 a1_2) ∧ w'.cell? ⟨gb353, 3, none⟩ = some (.slice (some ad369) l1_3.length c1_3) ∧ w'.cell? ⟨gb352, 0, none⟩ = some (.int .i64 a0_0) ∧ w'.cell? ⟨gb352, 1, none⟩ = some (.int .i64 a0_1) ∧ w'.cell? ⟨gb352, 2, none⟩ = some (.int .i64 a0_2) ∧ w'.cell? ⟨gb352, 3, none⟩ = some (.int .i64 a0_3) ∧ w'.cell? ⟨gb352, 4, none⟩ = some (.int .i64 a0_4) ∧ w'.cell? ⟨gb352, 5, none⟩ = some (.int .i64 a0_5) ∧ w'.cell? ⟨gb352, 6, none⟩ = some (.int .i64 a0_6) ∧ w'.cell? ⟨gb352, 7, none⟩ = some (.slice A0_7 l0_7.length c0_7) ∧ w'.cell? ⟨gb352, 8, none⟩ = some (.slice A0_8 l0_8.length c0_8) ∧ w'.cell? (ad369.add (t368).toNat) = some (.int .i64 (rd l1_3 t368))) (ds := []) #[O, O, O, O, O, O, O, O, O, O, O, O, O, O] (by kernel_rfl) rfl rfl ⟨bc BK353 0, bc BK353 1, bc BK353 2, bc BK353 3, bc BK352 0, bc BK352 1, bc BK352 2, bc BK352 3, bc BK352 4, bc BK352 5, bc BK352 6, bc BK352 7, bc BK352 8, ((HB.out.cell (World.block_lt_of_cell? w _ hw369_0)).trans hw369_0)⟩ (fun hHeld => ?_); refine with_tabW impl_Layer_item.tab17 impl_Layer_item.bits17 (fun HT_ HW_ => ?_)
  generalize w57.drew = w60 at BK352 BK353 HB hx369_0 hHeld ⊢
  refine stepP 0 (some 68) (tk 14 1) (any_of HT_.out (by kernel_rfl)) ?_
  refine stepP 2 (some 70) (tk 14 5) (any_of HT_.out (by kernel_rfl)) ?_
  refine stepP 4 (some 72) (tk 14 21) (any_of HT_.out (by kernel_rfl)) ?_
  refine stepP 5 (some 73) (tk 14 53) (any_of HT_.out (by kernel_rfl)) ?_
  refine stepP 6 (some 74) (tk 14 117) (any_of HT_.out (by kernel_rfl)) ?_
  refine stepP 10 (some 78) (tk 14 1141) (any_of HT_.out (by kernel_rfl)) ?_
  refine stepT 1 (some 69) (tk 14 1143) (take_ofW HT_.out HW_.out (by kernel_rfl)) hHeld ?_
  refine stepT 3 (some 71) (tk 14 1151) (take_ofW HT_.out HW_.out (by kernel_rfl)) hHeld ?_
  refine stepT 11 (some 79) (tk 14 3199) (take_ofW HT_.out HW_.out (by kernel_rfl)) hHeld ?_
  refine one_ (i := 7) (N := some 75) #[I, I, I, I, I, I, I, I, O, O, I, I, O, O] rfl rfl (one_of HT_.out (by kernel_rfl)) (by decide) (fun K hK => ?_)
  refine goes_ Try.func106 (by kernel_rfl) rfl #[.agg #[.int .i64 a1_0, .int .i64 a1_1, .int .i64 a1_2], .int .i64 a2, .int .i64 a3, .int .i64 a4] (by rfl) rfl rfl (by (try simp only [List.map_toArray, List.map_cons, List.map_nil]); first | done | rfl | (simp only [List.length_drop, List.length_take]; rfl)) ?_
  with_reducible refine (impl_Shape_place.calls a1_0 a1_1 a1_2 a2 a3 a4 t368 _ A52.out).mono ?_
  rintro e w61 ⟨rfl, hb⟩
  refine ⟨_, rfl, ?_⟩
  replace BK352 := blk_on gb352 hb
  replace BK353 := blk_on gb353 hb
  replace HB := bel_on w hb
  (try clear hb)
  refine hK.out _ _ ⟨bc BK353 0, bc BK353 1, bc BK353 2, bc BK353 3, bc BK352 0, bc BK352 1, bc BK352 2, bc BK352 3, bc BK352 4, bc BK352 5, bc BK352 6, bc BK352 7, bc BK352 8, ((HB.out.cell (World.block_lt_of_cell? w _ hw369_0)).trans hw369_0)⟩ (fun hHeld => ?_)
  clear hK K
  refine normP 75 ?_
  refine stepP 8 (some 76) (tk 14 3583) (any_of HT_.out (by kernel_rfl)) ?_
  refine stepT 9 (some 77) (tk 14 4095) (take_ofW HT_.out HW_.out (by kernel_rfl)) hHeld ?_
  refine stepP 12 (some 80) (tk 14 8191) (any_of HT_.out (by kernel_rfl)) ?_
  refine stepP 13 (some 10) (tk 14 16383) (any_of HT_.out (by kernel_rfl)) ?_
  refine done_ (done_of HT_.out (by kernel_rfl)) ?_
  try go_wp2
  go_ret
  exact ⟨by first | rfl | (simp [errW_none, errW_some] <;> rfl) | (simp only [← hji55]; first | rfl | (simp [errW_none, errW_some] <;> rfl)) | (simp [*, errW_none, errW_some] <;> rfl), bel_now⟩

end Go.Proofs.Ytclpojeofclbjaa.PFnExactRunLayer
