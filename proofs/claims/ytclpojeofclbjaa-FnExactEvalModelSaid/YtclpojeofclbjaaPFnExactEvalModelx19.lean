import Derived.Test.YtclpojeofclbjaaPFnExactEvalModelx0
import Derived.Test.YtclpojeofclbjaaPFnExactEvalModelx17
import Derived.Test.YtclpojeofclbjaaPFnExactEvalModelx18
namespace Go.Proofs.Ytclpojeofclbjaa.PFnExactEvalModel
open Go.RowKit Go.Proofs.YtclpojeofclbjaaW.PrintWords Go.Proofs.YtclpojeofclbjaaW.PrintLast Go.Proofs.YtclpojeofclbjaaW.PrintMore
attribute [local go_sem] max2_int min2_int max_two min_two max_three min_three max_four min_four
set_option maxHeartbeats 8000000
set_option maxRecDepth 100000
set_option linter.unusedVariables false
set_option linter.unusedSimpArgs false

def impl_Layer_item.l0 : Nat → Int → List Int → Int → Int → Int → Int → Int → Int → Int → Int → Int → List Int → List Int → Option (Int)
  | 0, _, _, _, _, _, _, _, _, _, _, _, _, _ => none
  | k + 1, x11, x49, x50, x51, x437000, x437001, x437002, x437003, x437004, x437005, x437006, x437007, x437008 => if x51 < x50 then (if 0 ≤ x51 then (if x51 < (x49.length : Int) then (impl_Layer_item.l0 k (wrap64 (x11 + (rd x49 x51))) x49 x50 (wrap64 (x51 + 1)) x437000 x437001 x437002 x437003 x437004 x437005 x437006 x437007 x437008) else (none)) else (none)) else ((impl_rounded.f k x11 (wrap64 (x437002 * x437002))).bind fun t451 => (some t451))
def impl_Layer_item.f (k : Nat) (a0_0 : Int) (a0_1 : Int) (a0_2 : Int) (a0_3 : Int) (a0_4 : Int) (a0_5 : Int) (a0_6 : Int) (l0_7 : List Int) (l0_8 : List Int) (a1_0 : Int) (a1_1 : Int) (a1_2 : Int) (l1_3 : List Int) (a2 : Int) (a3 : Int) (a4 : Int) : Option (Int) := if a0_0 = 0 then ((impl_Layer_scaled.f k a0_0 a0_1 a0_2 a0_3 a0_4 a0_5 a0_6 l0_7 l0_8 l1_3 a4).bind fun t438 => (some t438)) else (if a0_0 = 1 then ((impl_Layer_window.f k a0_0 a0_1 a0_2 a0_3 a0_4 a0_5 a0_6 l0_7 l0_8 a1_0 a1_1 a1_2 l1_3 a2 a3 (-1)).bind fun t439 => ((impl_Layer_scaled.f k a0_0 a0_1 a0_2 a0_3 a0_4 a0_5 a0_6 l0_7 l0_8 t439 a4).bind fun t442 => (some t442))) else (if a0_0 = 2 then ((impl_Layer_window.f k a0_0 a0_1 a0_2 a0_3 a0_4 a0_5 a0_6 l0_7 l0_8 a1_0 a1_1 a1_2 l1_3 a2 a3 a4).bind fun t443 => ((slices_Max_int_int.f k t443).bind fun t446 => (some t446))) else (if a0_0 = 3 then ((impl_Layer_window.f k a0_0 a0_1 a0_2 a0_3 a0_4 a0_5 a0_6 l0_7 l0_8 a1_0 a1_1 a1_2 l1_3 a2 a3 a4).bind fun t447 => (impl_Layer_item.l0 k 0 t447 (t447.length : Int) 0 a0_0 a0_1 a0_2 a0_3 a0_4 a0_5 a0_6 l0_7 l0_8)) else (if a0_0 = 4 then ((impl_Shape_place.f a1_0 a1_1 a1_2 a2 a3 a4).bind fun t452 => (if 0 ≤ t452 then (if t452 < (l1_3.length : Int) then (some (mx (rd l1_3 t452) a0_6)) else (none)) else (none))) else (if 0 ≤ a4 then (if a4 < (l1_3.length : Int) then (some (rd l1_3 a4)) else (none)) else (none))))))
def impl_Layer_item.T5 : Bool × List (List Nat × List Nat) := (true, [([], []), ([], []), ([], []), ([], []), ([], []), ([1, 2, 3, 4], [1, 2, 3, 4]), ([], []), ([0, 5, 6, 5], [0, 5, 6]), ([7, 7, 0, 1, 2, 3, 4, 5, 6, 7], [7])])
def impl_Layer_item.B5 : List Nat := [0, 0, 0, 0, 0, 30, 0, 127, 255]
theorem impl_Layer_item.tab5 : rtab .any (opsOf Try.f53 5) = impl_Layer_item.T5 := by kernel_rfl
theorem impl_Layer_item.bits5 : waitsOk impl_Layer_item.T5.2 impl_Layer_item.B5 = true := by kernel_rfl
def impl_Layer_item.T17 : Bool × List (List Nat × List Nat) := (true, [([], []), ([0], [0]), ([], []), ([2], [2]), ([], []), ([], []), ([], []), ([3, 4, 5, 6], [3, 4, 5, 6]), ([1, 7], [1, 7]), ([8], [8]), ([], []), ([10], [10]), ([9, 11], [9, 11]), ([12, 7, 0, 1, 2, 3, 4, 5, 6, 7, 8, 9, 10, 11, 12], [12])])
def impl_Layer_item.B17 : List Nat := [0, 1, 0, 4, 0, 0, 0, 124, 255, 511, 0, 1024, 4095, 8191]
theorem impl_Layer_item.tab17 : rtab .any (opsOf Try.f53 17) = impl_Layer_item.T17 := by kernel_rfl
theorem impl_Layer_item.bits17 : waitsOk impl_Layer_item.T17.2 impl_Layer_item.B17 = true := by kernel_rfl
theorem impl_Layer_item.calls (k : Nat) (a0_0 : Int) (a0_1 : Int) (a0_2 : Int) (a0_3 : Int) (a0_4 : Int) (a0_5 : Int) (a0_6 : Int) (A0_7 : Option Addr) (c0_7 : Nat) (l0_7 : List Int) (A0_8 : Option Addr) (c0_8 : Nat) (l0_8 : List Int) (a1_0 : Int) (a1_1 : Int) (a1_2 : Int) (A1_3 : Option Addr) (c1_3 : Nat) (l1_3 : List Int) (a2 : Int) (a3 : Int) (a4 : Int) (r : Int) (w : World) (hr0_7 : Kd.C (Kd.int .i64) w A0_7 l0_7.length l0_7) (hc0_7 : l0_7.length ≤ c0_7) (hr0_8 : Kd.C (Kd.int .i64) w A0_8 l0_8.length l0_8) (hc0_8 : l0_8.length ≤ c0_8) (hr1_3 : Kd.C (Kd.int .i64) w A1_3 l1_3.length l1_3) (hc1_3 : l1_3.length ≤ c1_3) (h : impl_Layer_item.f k a0_0 a0_1 a0_2 a0_3 a0_4 a0_5 a0_6 l0_7 l0_8 a1_0 a1_1 a1_2 l1_3 a2 a3 a4 = some r) :
   Calls Try.prog 53 #[.agg #[.int .i64 a0_0, .int .i64 a0_1, .int .i64 a0_2, .int .i64 a0_3, .int .i64 a0_4, .int .i64 a0_5, .int .i64 a0_6, .slice A0_7 l0_7.length c0_7, .slice A0_8 l0_8.length c0_8], .agg #[.int .i64 a1_0, .int .i64 a1_1, .int .i64 a1_2, .slice A1_3 l1_3.length c1_3], .int .i64 a2, .int .i64 a3, .int .i64 a4] w fun e w' => e = .returned (.int .i64 r) ∧ Below w.heap.size w w' := by
  have hu37 := Try.underlying37;have hu33 := Try.underlying33;have hu31 := Try.underlying31;have HR0_7 := am hr0_7;have HC0_7 := am hc0_7;clear hr0_7 hc0_7;have HR0_8 := am hr0_8;have HC0_8 := am hc0_8;clear hr0_8 hc0_8;have HR1_3 := am hr1_3;have HC1_3 := am hc1_3;clear hr1_3 hc1_3;have HB := am (Below.refl w.heap.size w);have H : (if a0_0 = 0 then ((impl_Layer_scaled.f k a0_0 a0_1 a0_2 a0_3 a0_4 a0_5 a0_6 l0_7 l0_8 l1_3 a4).bind fun t438 => (some t438)) else (if a0_0 = 1 then ((impl_Layer_window.f k a0_0 a0_1 a0_2 a0_3 a0_4 a0_5 a0_6 l0_7 l0_8 a1_0 a1_1 a1_2 l1_3 a2 a3 (-1)).bind fun t439 => ((impl_Layer_scaled.f k a0_0 a0_1 a0_2 a0_3 a0_4 a0_5 a0_6 l0_7 l0_8 t439 a4).bind fun t442 => (some t442))) else (if a0_0 = 2 then ((impl_Layer_window.f k a0_0 a0_1 a0_2 a0_3 a0_4 a0_5 a0_6 l0_7 l0_8 a1_0 a1_1 a1_2 l1_3 a2 a3 a4).bind fun t443 => ((slices_Max_int_int.f k t443).bind fun t446 => (some t446))) else (if a0_0 = 3 then ((impl_Layer_window.f k a0_0 a0_1 a0_2 a0_3 a0_4 a0_5 a0_6 l0_7 l0_8 a1_0 a1_1 a1_2 l1_3 a2 a3 a4).bind fun t447 => (impl_Layer_item.l0 k 0 t447 (t447.length : Int) 0 a0_0 a0_1 a0_2 a0_3 a0_4 a0_5 a0_6 l0_7 l0_8)) else (if a0_0 = 4 then ((impl_Shape_place.f a1_0 a1_1 a1_2 a2 a3 a4).bind fun t452 => (if 0 ≤ t452 then (if t452 < (l1_3.length : Int) then (some (mx (rd l1_3 t452) a0_6)) else (none)) else (none))) else (if 0 ≤ a4 then (if a4 < (l1_3.length : Int) then (some (rd l1_3 a4)) else (none)) else (none))))))) = some r := h;clear h;by_cases c6 : a0_0 = 0;rw [if_pos c6] at H;have c6b0 : (a0_0 == 0) = true := beq_iff_eq.mpr c6;have c6b1 : (a0_0 != 0) = false := bne_eq_false_iff_eq.mpr c6;clear c6;obtain ⟨t438, A7, H⟩ := bnd H;(try dsimp only at H);obtain rfl := Option.some.inj H;rotate_left;rw [if_neg c6] at H;have c6b0 : (a0_0 == 0) = false := beq_eq_false_iff_ne.mpr c6;have c6b1 : (a0_0 != 0) = true := bne_iff_ne.mpr c6;by_cases c14 : a0_0 = 1;rw [if_pos c14] at H;have c14b0 : (a0_0 == 1) = true := beq_iff_eq.mpr c14;have c14b1 : (a0_0 != 1) = false := bne_eq_false_iff_eq.mpr c14;clear c14;obtain ⟨t439, A15, H⟩ := bnd H;(try dsimp only at H);obtain ⟨t442, A16, H⟩ := bnd H;(try dsimp only at H);obtain rfl := Option.some.inj H
  ·go_enter Try.func53, Try.ntmps53
   try go_wp2_with (first | ((with_reducible refine gate_dst (N := 5) rfl ?_); refine boxM 5 #[.int .i64 a0_0, .int .i64 a0_1, .int .i64 a0_2, .int .i64 a0_3, .int .i64 a0_4, .int .i64 a0_5, .int .i64 a0_6, .slice A0_7 l0_7.length c0_7, .slice A0_8 l0_8.length c0_8] 37 ?_; intro gb436 hg w_ BK436 hb; obtain ⟨HB, GW436, GE436⟩ := box_at w hb hg; clear hb hg) | ((with_reducible refine gate_dst (N := 6) rfl ?_); refine boxM 6 #[.int .i64 a1_0, .int .i64 a1_1, .int .i64 a1_2, .slice A1_3 l1_3.length c1_3] 33 ?_; intro gb437 hg w18 BK437 hb; obtain ⟨HB, GW437, GE437⟩ := box_at w hb hg; obtain ⟨BK436, NB436_437, NB437_436⟩ := box_on gb436 hb hg; clear hb hg; have hn_ := ne2 NB436_437; have hcz_ := cells9 BK436.out))
   replace BK436 := am (blk_drew BK436.out);replace BK437 := am (blk_drew BK437.out);replace HB := am (below_drew1 HB.out)
   refine start_ (n := 9) (S := fun w' => w'.cell? ⟨gb436, 0, none⟩ = some (.int .i64 a0_0) ∧ w'.cell? ⟨gb436, 1, none⟩ = some (.int .i64 a0_1) ∧ w'.cell? ⟨gb436, 2, none⟩ = some (.int .i64 a0_2) ∧ w'.cell? ⟨gb436, 3, none⟩ = some (.int .i64 a0_3) ∧ w'.cell? ⟨gb436, 4, none⟩ = some (.int .i64 a0_4) ∧ w'.cell? ⟨gb436, 5, none⟩ = some (.int .i64 a0_5) ∧ w'.cell? ⟨gb436, 6, none⟩ = some (.int .i64 a0_6) ∧ w'.cell? ⟨gb436, 7, none⟩ = some (.slice A0_7 l0_7.length c0_7) ∧ w'.cell? ⟨gb436, 8, none⟩ = some (.slice A0_8 l0_8.length c0_8) ∧ w'.cell? ⟨gb437, 0, none⟩ = some (.int .i64 a1_0) ∧ w'.cell? ⟨gb437, 1, none⟩ = some (.int .i64 a1_1) ∧ w'.cell? ⟨gb437, 2, none⟩ = some (.int .i64 a1_2) ∧ w'.cell? ⟨gb437, 3, none⟩ = some (.slice A1_3 l1_3.length c1_3)) (ds := []) #[O, O, O, O, O, O, O, O, O] (by kernel_rfl) rfl rfl ⟨bc BK436 0, bc BK436 1, bc BK436 2, bc BK436 3, bc BK436 4, bc BK436 5, bc BK436 6, bc BK436 7, bc BK436 8, bc BK437 0, bc BK437 1, bc BK437 2, bc BK437 3⟩ (fun hHeld => ?_); refine with_tabW impl_Layer_item.tab5 impl_Layer_item.bits5 (fun HT_ HW_ => ?_)
   generalize w18.drew = w_ at BK436 BK437 HB hHeld ⊢
   refine stepP 3 (some 28) (tk 9 8) (any_of HT_.out (by kernel_rfl)) ?_
   refine stepP 4 (some 29) (tk 9 24) (any_of HT_.out (by kernel_rfl)) ?_
   refine stepP 6 (some 31) (tk 9 88) (any_of HT_.out (by kernel_rfl)) ?_
   refine stepT 0 (some 25) (tk 9 89) (take_ofW HT_.out HW_.out (by kernel_rfl)) hHeld ?_
   refine stepT 1 (some 26) (tk 9 91) (take_ofW HT_.out HW_.out (by kernel_rfl)) hHeld ?_
   refine stepT 2 (some 27) (tk 9 95) (take_ofW HT_.out HW_.out (by kernel_rfl)) hHeld ?_
   refine one_ (i := 5) (N := some 30) #[I, I, I, I, I, I, I, O, O] rfl rfl (one_of HT_.out (by kernel_rfl)) (by decide) (fun K hK => ?_)
   refine goes_ Try.func103 (by kernel_rfl) rfl #[.agg #[.int .i64 a0_0, .int .i64 a0_1, .int .i64 a0_2, .int .i64 a0_3, .int .i64 a0_4, .int .i64 a0_5, .int .i64 a0_6, .slice A0_7 l0_7.length c0_7, .slice A0_8 l0_8.length c0_8], .agg #[.int .i64 a1_0, .int .i64 a1_1, .int .i64 a1_2, .slice A1_3 l1_3.length c1_3], .int .i64 a2, .int .i64 a3, .int .i64 (-1)] (by rfl) rfl rfl (by (try simp only [List.map_toArray, List.map_cons, List.map_nil]); first | done | rfl | (simp only [List.length_drop, List.length_take]; rfl)) ?_
   with_reducible refine (impl_Layer_window.calls k a0_0 a0_1 a0_2 a0_3 a0_4 a0_5 a0_6 _ _ l0_7 _ _ l0_8 a1_0 a1_1 a1_2 _ _ l1_3 a2 a3 (-1) t439 _ ?side1 ?side2 ?side3 ?side4 ?side5 ?side6 A15.out).mono ?_
   (case side1 => exact C_now HR0_7.out)
   (case side2 => exact HC0_7.out)
   (case side3 => exact C_now HR0_8.out)
   (case side4 => exact HC0_8.out)
   (case side5 => exact C_now HR1_3.out)
   (case side6 => exact HC1_3.out)
   rintro e w_ ⟨v440, rfl, ho0, hb⟩
   refine ⟨_, rfl, ?_⟩
   have n0_ := am (Kd.R_lower ho0 (below_size bel_now));replace BK436 := blk_on gb436 hb;replace BK437 := blk_on gb437 hb;replace HB := bel_on w hb;have HO441 := n0_;clear n0_;(try clear hb);(try clear ho0);obtain ⟨Ao23, co23, eo23⟩ := Kd.R_slice HO441.out
   (first | subst eo23 | (injection eo23 with f1_ f2_ f3_; have f4_ := f1_.symm; have f5_ := f3_.symm; clear f1_ f2_ f3_; subst f4_; subst f5_))
   refine hK.out _ _ ⟨bc BK436 0, bc BK436 1, bc BK436 2, bc BK436 3, bc BK436 4, bc BK436 5, bc BK436 6, bc BK436 7, bc BK436 8, bc BK437 0, bc BK437 1, bc BK437 2, bc BK437 3⟩ (fun hHeld => ?_)
   clear hK K
   refine normP 30 ?_
   refine one_ (i := 7) (N := some 32) #[I, I, I, I, I, I, I, I, O] rfl rfl (one_of HT_.out (by kernel_rfl)) (by decide) (fun K hK => ?_)
   refine goes_ Try.func102 (by kernel_rfl) rfl #[.agg #[.int .i64 a0_0, .int .i64 a0_1, .int .i64 a0_2, .int .i64 a0_3, .int .i64 a0_4, .int .i64 a0_5, .int .i64 a0_6, .slice A0_7 l0_7.length c0_7, .slice A0_8 l0_8.length c0_8], .slice Ao23 t439.length co23, .int .i64 a4] (by rfl) rfl rfl (by (try simp only [List.map_toArray, List.map_cons, List.map_nil]); first | done | rfl | (simp only [List.length_drop, List.length_take]; rfl)) ?_
   with_reducible refine (impl_Layer_scaled.calls k a0_0 a0_1 a0_2 a0_3 a0_4 a0_5 a0_6 _ _ l0_7 _ _ l0_8 _ _ t439 a4 t442 _ ?side1 ?side2 ?side3 ?side4 ?side5 ?side6 A16.out).mono ?_
   (case side1 => exact C_now HR0_7.out)
   (case side2 => exact HC0_7.out)
   (case side3 => exact C_now HR0_8.out)
   (case side4 => exact HC0_8.out)
   (case side5 => exact (Kd.R_reads' (R_at HO441.out)).2.2)
   (case side6 => exact (Kd.R_reads' HO441.out).2.1)
   rintro e w_ ⟨rfl, hb⟩
   refine ⟨_, rfl, ?_⟩
   replace HO441 := am (Kd.R_below (R_at HO441.out) hb);replace BK436 := blk_on gb436 hb;replace BK437 := blk_on gb437 hb;replace HB := bel_on w hb;(try clear hb)
   refine hK.out _ _ ⟨bc BK436 0, bc BK436 1, bc BK436 2, bc BK436 3, bc BK436 4, bc BK436 5, bc BK436 6, bc BK436 7, bc BK436 8, bc BK437 0, bc BK437 1, bc BK437 2, bc BK437 3⟩ (fun hHeld => ?_)
   clear hK K
   refine normP 32 ?_
   refine stepP 8 (some 10) (tk 9 511) (any_of HT_.out (by kernel_rfl)) ?_
   refine done_ (done_of HT_.out (by kernel_rfl)) ?_
   try go_wp2
   go_ret
   exact ⟨eqN, bel_now⟩
  rw [if_neg c14] at H;have c14b0 : (a0_0 == 1) = false := beq_eq_false_iff_ne.mpr c14;have c14b1 : (a0_0 != 1) = true := bne_iff_ne.mpr c14;by_cases c25 : a0_0 = 2;rw [if_pos c25] at H;have c25b0 : (a0_0 == 2) = true := beq_iff_eq.mpr c25;have c25b1 : (a0_0 != 2) = false := bne_eq_false_iff_eq.mpr c25;clear c25;obtain ⟨t443, A26, H⟩ := bnd H;(try dsimp only at H);obtain ⟨t446, A27, H⟩ := bnd H;(try dsimp only at H);obtain rfl := Option.some.inj H;rotate_left;rw [if_neg c25] at H;have c25b0 : (a0_0 == 2) = false := beq_eq_false_iff_ne.mpr c25;have c25b1 : (a0_0 != 2) = true := bne_iff_ne.mpr c25;by_cases c36 : a0_0 = 3;rw [if_pos c36] at H;have c36b0 : (a0_0 == 3) = true := beq_iff_eq.mpr c36;have c36b1 : (a0_0 != 3) = false := bne_eq_false_iff_eq.mpr c36;clear c36;obtain ⟨t447, A37, H⟩ := bnd H;(try dsimp only at H);have H' := am H;clear H;rotate_left;rw [if_neg c36] at H;have c36b0 : (a0_0 == 3) = false := beq_eq_false_iff_ne.mpr c36;have c36b1 : (a0_0 != 3) = true := bne_iff_ne.mpr c36;by_cases c51 : a0_0 = 4
  case' neg => skip
  rw [if_neg c51] at H;have c51b0 : (a0_0 == 4) = false := beq_eq_false_iff_ne.mpr c51;have c51b1 : (a0_0 != 4) = true := bne_iff_ne.mpr c51;obtain ⟨c62, H⟩ := gd H;have c62b0 : decide (0 ≤ a4) = true := decide_eq_true c62;clear c62;obtain ⟨c63, H⟩ := gd H;have c63b0 : decide (a4 < (l1_3.length : Int)) = true := decide_eq_true c63;clear c63;obtain rfl := Option.some.inj H;rotate_left;rw [if_pos c51] at H;have c51b0 : (a0_0 == 4) = true := beq_iff_eq.mpr c51;have c51b1 : (a0_0 != 4) = false := bne_eq_false_iff_eq.mpr c51;clear c51;obtain ⟨t452, A52, H⟩ := bnd H;(try dsimp only at H);obtain ⟨c53, H⟩ := gd H;have c53b0 : decide (0 ≤ t452) = true := decide_eq_true c53;clear c53;obtain ⟨c54, H⟩ := gd H;have c54b0 : decide (t452 < (l1_3.length : Int)) = true := decide_eq_true c54;clear c54;obtain ⟨ji55, hji55⟩ : ∃ j_ : Int, (mx (rd l1_3 t452) a0_6) = j_ := ⟨_, rfl⟩;replace H : (some ji55) = some r := by first | (rw [hji55] at H; exact H) | (simp only [hji55] at H ⊢; exact H)
  (try rw [hji55] at A52);have hji55_ : (if (rd l1_3 t452) < a0_6 then a0_6 else (rd l1_3 t452)) = ji55 := hji55;obtain rfl := Option.some.inj H
  ·go_enter Try.func53, Try.ntmps53
   try go_wp2_with (first | ((with_reducible refine gate_dst (N := 5) rfl ?_); refine boxM 5 #[.int .i64 a0_0, .int .i64 a0_1, .int .i64 a0_2, .int .i64 a0_3, .int .i64 a0_4, .int .i64 a0_5, .int .i64 a0_6, .slice A0_7 l0_7.length c0_7, .slice A0_8 l0_8.length c0_8] 37 ?_; intro gb436 hg w_ BK436 hb; obtain ⟨HB, GW436, GE436⟩ := box_at w hb hg; clear hb hg) | ((with_reducible refine gate_dst (N := 6) rfl ?_); refine boxM 6 #[.int .i64 a1_0, .int .i64 a1_1, .int .i64 a1_2, .slice A1_3 l1_3.length c1_3] 33 ?_; intro gb437 hg w57 BK437 hb; obtain ⟨HB, GW437, GE437⟩ := box_at w hb hg; obtain ⟨BK436, NB436_437, NB437_436⟩ := box_on gb436 hb hg; clear hb hg; have hn_ := ne2 NB436_437; have hcz_ := cells9 BK436.out))
   replace BK436 := am (blk_drew BK436.out);replace BK437 := am (blk_drew BK437.out);replace HB := am (below_drew1 HB.out);have p453 : 0 ≤ (t452 : Int) := of_decide_eq_true (by first | (with_reducible assumption) | assumption);have q453 : t452 < (l1_3.length : Int) := of_decide_eq_true (by first | (with_reducible assumption) | assumption);obtain ⟨ad453, e453, hx453_0⟩ := Kd.at_int HR1_3.out t452 p453 q453;have hw453_0 := hx453_0;cases e453;replace hx453_0 := (HB.out.cell (World.block_lt_of_cell? w _ hx453_0)).trans hx453_0;replace p453 := eq_true p453;replace q453 := eq_true q453
   refine start_ (n := 14) (S := fun w' => w'.cell? ⟨gb437, 0, none⟩ = some (.int .i64 a1_0) ∧ w'.cell? ⟨gb437, 1, none⟩ = some (.int .i64 a1_1) ∧ w'.cell? ⟨gb437, 2, none⟩ = some (.int .i64 a1_2) ∧ w'.cell? ⟨gb437, 3, none⟩ = some (.slice (some ad453) l1_3.length c1_3) ∧ w'.cell? ⟨gb436, 0, none⟩ = some (.int .i64 a0_0) ∧ w'.cell? ⟨gb436, 1, none⟩ = some (.int .i64 a0_1) ∧ w'.cell? ⟨gb436, 2, none⟩ = some (.int .i64 a0_2) ∧ w'.cell? ⟨gb436, 3, none⟩ = some (.int .i64 a0_3) ∧ w'.cell? ⟨gb436, 4, none⟩ = some (.int .i64 a0_4) ∧ w'.cell? ⟨gb436, 5, none⟩ = some (.int .i64 a0_5) ∧ w'.cell? ⟨gb436, 6, none⟩ = some (.int .i64 a0_6) ∧ w'.cell? ⟨gb436, 7, none⟩ = some (.slice A0_7 l0_7.length c0_7) ∧ w'.cell? ⟨gb436, 8, none⟩ = some (.slice A0_8 l0_8.length c0_8) ∧ w'.cell? (ad453.add (t452).toNat) = some (.int .i64 (rd l1_3 t452))) (ds := []) #[O, O, O, O, O, O, O, O, O, O, O, O, O, O] (by kernel_rfl) rfl rfl ⟨bc BK437 0, bc BK437 1, bc BK437 2, bc BK437 3, bc BK436 0, bc BK436 1, bc BK436 2, bc BK436 3, bc BK436 4, bc BK436 5, bc BK436 6, bc BK436 7, bc BK436 8, ((HB.out.cell (World.block_lt_of_cell? w _ hw453_0)).trans hw453_0)⟩ (fun hHeld => ?_); refine with_tabW impl_Layer_item.tab17 impl_Layer_item.bits17 (fun HT_ HW_ => ?_)
   generalize w57.drew = w_ at BK436 BK437 HB hx453_0 hHeld ⊢
   refine stepP 0 (some 68) (tk 14 1) (any_of HT_.out (by kernel_rfl)) ?_
   refine stepP 2 (some 70) (tk 14 5) (any_of HT_.out (by kernel_rfl)) ?_
   refine stepP 4 (some 72) (tk 14 21) (any_of HT_.out (by kernel_rfl)) ?_
   refine stepP 5 (some 73) (tk 14 53) (any_of HT_.out (by kernel_rfl)) ?_
   refine stepP 6 (some 74) (tk 14 117) (any_of HT_.out (by kernel_rfl)) ?_
   refine stepP 10 (some 78) (tk 14 1141) (any_of HT_.out (by kernel_rfl)) ?_
   refine stepT 1 (some 69) (tk 14 1143) (take_ofW HT_.out HW_.out (by kernel_rfl)) hHeld ?_
   refine stepT 3 (some 71) (tk 14 1151) (take_ofW HT_.out HW_.out (by kernel_rfl)) hHeld ?_
   refine stepT 11 (some 79) (tk 14 3199) (take_ofW HT_.out HW_.out (by kernel_rfl)) hHeld ?_
   refine one_ (i := 7) (N := some 75) #[I, I, I, I, I, I, I, I, O, O, I, I, O, O] rfl rfl (one_of HT_.out (by kernel_rfl)) (by decide) (fun K hK => ?_)
   refine goes_ Try.func106 (by kernel_rfl) rfl #[.agg #[.int .i64 a1_0, .int .i64 a1_1, .int .i64 a1_2], .int .i64 a2, .int .i64 a3, .int .i64 a4] (by rfl) rfl rfl (by (try simp only [List.map_toArray, List.map_cons, List.map_nil]); first | done | rfl | (simp only [List.length_drop, List.length_take]; rfl)) ?_
   with_reducible refine (impl_Shape_place.calls a1_0 a1_1 a1_2 a2 a3 a4 t452 _ A52.out).mono ?_
   rintro e w_ ⟨rfl, hb⟩
   refine ⟨_, rfl, ?_⟩
   replace BK436 := blk_on gb436 hb;replace BK437 := blk_on gb437 hb;replace HB := bel_on w hb;(try clear hb)
   refine hK.out _ _ ⟨bc BK437 0, bc BK437 1, bc BK437 2, bc BK437 3, bc BK436 0, bc BK436 1, bc BK436 2, bc BK436 3, bc BK436 4, bc BK436 5, bc BK436 6, bc BK436 7, bc BK436 8, ((HB.out.cell (World.block_lt_of_cell? w _ hw453_0)).trans hw453_0)⟩ (fun hHeld => ?_)
   clear hK K
   refine normP 75 ?_
   refine stepP 8 (some 76) (tk 14 3583) (any_of HT_.out (by kernel_rfl)) ?_
   refine stepT 9 (some 77) (tk 14 4095) (take_ofW HT_.out HW_.out (by kernel_rfl)) hHeld ?_
   refine stepP 12 (some 80) (tk 14 8191) (any_of HT_.out (by kernel_rfl)) ?_
   refine stepP 13 (some 10) (tk 14 16383) (any_of HT_.out (by kernel_rfl)) ?_
   refine done_ (done_of HT_.out (by kernel_rfl)) ?_
   try go_wp2
   go_ret
   exact ⟨by first | rfl | (simp [errW_none, errW_some] <;> rfl) | (simp only [← hji55]; first | rfl | (simp [errW_none, errW_some] <;> rfl)) | (simp [*, errW_none, errW_some] <;> rfl), bel_now⟩
  all_goals (go_enter Try.func53, Try.ntmps53; go_wp2_with (first | ((with_reducible refine gate_dst (N := 5) rfl ?_); refine boxM 5 #[.int .i64 a0_0, .int .i64 a0_1, .int .i64 a0_2, .int .i64 a0_3, .int .i64 a0_4, .int .i64 a0_5, .int .i64 a0_6, .slice A0_7 l0_7.length c0_7, .slice A0_8 l0_8.length c0_8] 37 ?_; intro gb436 hg w_ BK436 hb; obtain ⟨HB, GW436, GE436⟩ := box_at w hb hg; clear hb hg) | ((with_reducible refine gate_dst (N := 6) rfl ?_); refine boxM 6 #[.int .i64 a1_0, .int .i64 a1_1, .int .i64 a1_2, .slice A1_3 l1_3.length c1_3] 33 ?_; intro gb437 hg w_ BK437 hb; obtain ⟨HB, GW437, GE437⟩ := box_at w hb hg; obtain ⟨BK436, NB436_437, NB437_436⟩ := box_on gb436 hb hg; clear hb hg; (try (have p454 : 0 ≤ (a4 : Int) := of_decide_eq_true (by first | (with_reducible assumption) | assumption); have q454 : a4 < (l1_3.length : Int) := of_decide_eq_true (by first | (with_reducible assumption) | assumption); obtain ⟨ad454, e454, hx454_0⟩ := Kd.at_int HR1_3.out a4 p454 q454; cases e454; replace hx454_0 := (HB.out.cell (World.block_lt_of_cell? w _ hx454_0)).trans hx454_0; replace p454 := eq_true p454; replace q454 := eq_true q454)); have hn_ := ne2 NB436_437; have hcz_ := cells9 BK436.out; have hcz_ := cells4 BK437.out; have hcz41 := cells9 BK436.out; have hcz42 := cells4 BK437.out) | ((with_reducible refine gate_callee (f := 102) rfl ?_); refine gM 22 Try.func102 #[.agg #[.int .i64 a0_0, .int .i64 a0_1, .int .i64 a0_2, .int .i64 a0_3, .int .i64 a0_4, .int .i64 a0_5, .int .i64 a0_6, .slice A0_7 l0_7.length c0_7, .slice A0_8 l0_8.length c0_8], .slice A1_3 l1_3.length c1_3, .int .i64 a4] rfl ?_; (with_reducible refine (impl_Layer_scaled.calls k a0_0 a0_1 a0_2 a0_3 a0_4 a0_5 a0_6 _ _ l0_7 _ _ l0_8 _ _ l1_3 a4 t438 _ ?side1 HC0_7.out ?side3 HC0_8.out ?side5 HC1_3.out A7.out).mono ?_); (case side1 => exact C_now HR0_7.out); (case side3 => exact C_now HR0_8.out); (case side5 => exact C_now HR1_3.out); rintro e w_ ⟨rfl, hb⟩; refine ⟨_, rfl, ?_⟩; replace HB := bel_on w hb; replace BK436 := blk_on gb436 hb; replace BK437 := blk_on gb437 hb; (try clear hb)) | ((with_reducible refine gate_callee (f := 103) rfl ?_); refine gM 40 Try.func103 #[.agg #[.int .i64 a0_0, .int .i64 a0_1, .int .i64 a0_2, .int .i64 a0_3, .int .i64 a0_4, .int .i64 a0_5, .int .i64 a0_6, .slice A0_7 l0_7.length c0_7, .slice A0_8 l0_8.length c0_8], .agg #[.int .i64 a1_0, .int .i64 a1_1, .int .i64 a1_2, .slice A1_3 l1_3.length c1_3], .int .i64 a2, .int .i64 a3, .int .i64 a4] rfl ?_; (with_reducible refine (impl_Layer_window.calls k a0_0 a0_1 a0_2 a0_3 a0_4 a0_5 a0_6 _ _ l0_7 _ _ l0_8 a1_0 a1_1 a1_2 _ _ l1_3 a2 a3 a4 t443 _ ?side1 HC0_7.out ?side3 HC0_8.out ?side5 HC1_3.out A26.out).mono ?_); (case side1 => exact C_now HR0_7.out); (case side3 => exact C_now HR0_8.out); (case side5 => exact C_now HR1_3.out); rintro e w_ ⟨v444, rfl, ho0, hb⟩; refine ⟨_, rfl, ?_⟩; have n0_ := am (Kd.R_lower ho0 (below_size bel_now)); replace HB := bel_on w hb; replace BK436 := blk_on gb436 hb; replace BK437 := blk_on gb437 hb; have HO445 := n0_; clear n0_; (try clear hb); (try clear ho0); obtain ⟨Ao34, co34, eo34⟩ := Kd.R_slice HO445.out; subst eo34) | ((with_reducible refine gate_callee (f := 104) rfl ?_); refine gM 41 Try.func104 #[.slice Ao34 t443.length co34] rfl ?_; (with_reducible refine (slices_Max_int_int.calls k _ _ t443 t446 _ ?side1 ?side2 A27.out).mono ?_); (case side1 => exact (Kd.R_reads' (R_at HO445.out)).2.2); (case side2 => exact (Kd.R_reads' HO445.out).2.1); rintro e w_ ⟨rfl, hb⟩; refine ⟨_, rfl, ?_⟩; replace HO445 := am (Kd.R_below (R_at HO445.out) hb); replace HB := bel_on w hb; replace BK436 := blk_on gb436 hb; replace BK437 := blk_on gb437 hb; (try clear hb)) | ((with_reducible refine gate_callee (f := 103) rfl ?_); refine gM 49 Try.func103 #[.agg #[.int .i64 a0_0, .int .i64 a0_1, .int .i64 a0_2, .int .i64 a0_3, .int .i64 a0_4, .int .i64 a0_5, .int .i64 a0_6, .slice A0_7 l0_7.length c0_7, .slice A0_8 l0_8.length c0_8], .agg #[.int .i64 a1_0, .int .i64 a1_1, .int .i64 a1_2, .slice A1_3 l1_3.length c1_3], .int .i64 a2, .int .i64 a3, .int .i64 a4] rfl ?_; (with_reducible refine (impl_Layer_window.calls k a0_0 a0_1 a0_2 a0_3 a0_4 a0_5 a0_6 _ _ l0_7 _ _ l0_8 a1_0 a1_1 a1_2 _ _ l1_3 a2 a3 a4 t447 _ ?side1 HC0_7.out ?side3 HC0_8.out ?side5 HC1_3.out A37.out).mono ?_); (case side1 => exact C_now HR0_7.out); (case side3 => exact C_now HR0_8.out); (case side5 => exact C_now HR1_3.out); rintro e w_ ⟨v448, rfl, ho0, hb⟩; refine ⟨_, rfl, ?_⟩; have n0_ := am (Kd.R_lower ho0 (below_size bel_now)); replace HB := bel_on w hb; replace BK436 := blk_on gb436 hb; replace BK437 := blk_on gb437 hb; have HO449 := n0_; clear n0_; (try clear hb); (try clear ho0); obtain ⟨Ao44, co44, eo44⟩ := Kd.R_slice HO449.out; subst eo44)))
  ·go_ret
   exact ⟨eqN, bel_now⟩
  ·go_ret
   exact ⟨eqN, bel_now⟩
  ·go_loopg [11, 51] k (fun kq v11 v51 w' => ∃ (x11_1 : Int) (x51_1 : Int), v11 = .int .i64 x11_1 ∧ v51 = .int .i64 x51_1 ∧ Aside0 (impl_Layer_item.l0 kq x11_1 t447 (t447.length : Int) x51_1 a0_0 a0_1 a0_2 a0_3 a0_4 a0_5 a0_6 l0_7 l0_8 = some r) ∧ Aside0 (kq ≤ k) ∧ Aside0 (Kd.R (Kd.int .i64) 3 w' w.heap.size (fun _ => True) (.slice Ao44 t447.length co44) t447) ∧ Aside0 (w'.heap[gb436]? = some (.cells #[.int .i64 a0_0, .int .i64 a0_1, .int .i64 a0_2, .int .i64 a0_3, .int .i64 a0_4, .int .i64 a0_5, .int .i64 a0_6, (.slice A0_7 l0_7.length c0_7), (.slice A0_8 l0_8.length c0_8)] 37 (0, 0))) ∧ Aside0 (w'.heap[gb437]? = some (.cells #[.int .i64 a1_0, .int .i64 a1_1, .int .i64 a1_2, (.slice A1_3 l1_3.length c1_3)] 33 (0, 0))) ∧ Aside0 (Below w.heap.size w w'))
   case atStart => exact ⟨(0), (0), pv, pv, H', ⟨Nat.le_refl _⟩, ⟨R_at HO449.out⟩, ⟨bks BK436⟩, ⟨bks BK437⟩, ⟨bel_now⟩⟩
   case round =>
    clear H';try clear c6
    try clear c6b0
    try clear c6b1
    try clear c14
    try clear c14b0
    try clear c14b1
    try clear c25
    try clear c25b0
    try clear c25b1
    try clear c36
    try clear c36b0
    try clear c36b1
    try clear hcz41
    try clear hcz42
    obtain ⟨x11_1, x51_1, rfl, rfl, HA, HK1, HO_49, BK436, BK437, HB⟩ := hrel
    cases gk with
    | zero => exact absurd HA.out (by simp [impl_Layer_item.l0])
    | succ k1 =>
     have H := HA.out;clear HA;simp only [impl_Layer_item.l0] at H;by_cases c45 : x51_1 < (t447.length : Int);rotate_left
     ·rw [if_neg c45] at H;have c45b0 : decide (x51_1 < (t447.length : Int)) = false := decide_eq_false c45;clear c45;obtain ⟨t451, A48, H⟩ := bnd H;(try dsimp only at H);obtain rfl := Option.some.inj H;have hn_ := ne2 NB436_437;have hcz_ := cells9 BK436.out
      go_wp2_with (first | ((with_reducible refine gate_callee (f := 105) rfl ?_); refine gM 65 Try.func105 #[.int .i64 x11_1, .int .i64 (wrap64 (a0_2 * a0_2))] rfl ?_; (with_reducible refine (impl_rounded.calls k1 x11_1 (wrap64 (a0_2 * a0_2)) t451 _ A48.out).mono ?_); rintro e w' ⟨rfl, ⟨nd, rfl⟩⟩; refine ⟨_, rfl, ?_⟩))
      go_ret
      exact ⟨eqN, bel_now⟩
     rw [if_pos c45] at H;have c45b0 : decide (x51_1 < (t447.length : Int)) = true := decide_eq_true c45;clear c45;obtain ⟨c46, H⟩ := gd H;have c46b0 : decide (0 ≤ x51_1) = true := decide_eq_true c46;clear c46;obtain ⟨c47, H⟩ := gd H;have c47b0 : decide (x51_1 < (t447.length : Int)) = true := decide_eq_true c47;clear c47;have H' := am H;clear H;have p450 : 0 ≤ (x51_1 : Int) := of_decide_eq_true (by first | (with_reducible assumption) | assumption);have q450 : x51_1 < (t447.length : Int) := of_decide_eq_true (by first | (with_reducible assumption) | assumption);obtain ⟨ad450, e450, hx450_0⟩ := Kd.at_int (Kd.R_reads' HO_49.out).2.2 x51_1 p450 q450;cases e450;replace p450 := eq_true p450;replace q450 := eq_true q450
     go_wp2
     go_roundg k1
     case measure => have := HK1.out; omega
     case rel => exact ⟨(wrap64 (x11_1 + (rd t447 x51_1))), (wrap64 (x51_1 + 1)), pv, pv, H', ⟨by have := HK1.out; omega⟩, ⟨R_at HO_49.out⟩, ⟨bks BK436⟩, ⟨bks BK437⟩, ⟨bel_now⟩⟩
  ·go_ret
   exact ⟨eqN, bel_now⟩

end Go.Proofs.Ytclpojeofclbjaa.PFnExactEvalModel
