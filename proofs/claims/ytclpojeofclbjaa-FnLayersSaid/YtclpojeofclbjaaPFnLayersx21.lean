import Derived.Test.YtclpojeofclbjaaPFnLayersx0
import Derived.Test.YtclpojeofclbjaaPFnLayersx19
import Derived.Test.YtclpojeofclbjaaPFnLayersx20
namespace Go.Proofs.Ytclpojeofclbjaa.PFnLayers
open Go.RowKit Go.Proofs.YtclpojeofclbjaaW.PrintWords Go.Proofs.YtclpojeofclbjaaW.PrintLast Go.Proofs.YtclpojeofclbjaaW.PrintMore
attribute [local go_sem] max2_int min2_int max_two min_two max_three min_three max_four min_four
set_option maxHeartbeats 8000000
set_option maxRecDepth 100000
set_option linter.unusedVariables false
set_option linter.unusedSimpArgs false

def impl_Layer_item.l0 : Nat → Int → List Int → Int → Int → Int → Int → Int → Int → Int → Int → Int → List Int → List Int → Option (Int)
  | 0, _, _, _, _, _, _, _, _, _, _, _, _, _ => none
  | k + 1, x11, x49, x50, x51, x645000, x645001, x645002, x645003, x645004, x645005, x645006, x645007, x645008 => if x51 < x50 then (if 0 ≤ x51 then (if x51 < (x49.length : Int) then (impl_Layer_item.l0 k (wrap64 (x11 + (rd x49 x51))) x49 x50 (wrap64 (x51 + 1)) x645000 x645001 x645002 x645003 x645004 x645005 x645006 x645007 x645008) else (none)) else (none)) else ((impl_rounded.f k x11 (wrap64 (x645002 * x645002))).bind fun t659 => (some t659))
def impl_Layer_item.f (k : Nat) (a0_0 : Int) (a0_1 : Int) (a0_2 : Int) (a0_3 : Int) (a0_4 : Int) (a0_5 : Int) (a0_6 : Int) (l0_7 : List Int) (l0_8 : List Int) (a1_0 : Int) (a1_1 : Int) (a1_2 : Int) (l1_3 : List Int) (a2 : Int) (a3 : Int) (a4 : Int) : Option (Int) := if a0_0 = 0 then ((impl_Layer_scaled.f k a0_0 a0_1 a0_2 a0_3 a0_4 a0_5 a0_6 l0_7 l0_8 l1_3 a4).bind fun t646 => (some t646)) else (if a0_0 = 1 then ((impl_Layer_window.f k a0_0 a0_1 a0_2 a0_3 a0_4 a0_5 a0_6 l0_7 l0_8 a1_0 a1_1 a1_2 l1_3 a2 a3 (-1)).bind fun t647 => ((impl_Layer_scaled.f k a0_0 a0_1 a0_2 a0_3 a0_4 a0_5 a0_6 l0_7 l0_8 t647 a4).bind fun t650 => (some t650))) else (if a0_0 = 2 then ((impl_Layer_window.f k a0_0 a0_1 a0_2 a0_3 a0_4 a0_5 a0_6 l0_7 l0_8 a1_0 a1_1 a1_2 l1_3 a2 a3 a4).bind fun t651 => ((slices_Max_int_int.f k t651).bind fun t654 => (some t654))) else (if a0_0 = 3 then ((impl_Layer_window.f k a0_0 a0_1 a0_2 a0_3 a0_4 a0_5 a0_6 l0_7 l0_8 a1_0 a1_1 a1_2 l1_3 a2 a3 a4).bind fun t655 => (impl_Layer_item.l0 k 0 t655 (t655.length : Int) 0 a0_0 a0_1 a0_2 a0_3 a0_4 a0_5 a0_6 l0_7 l0_8)) else (if a0_0 = 4 then ((impl_Shape_place.f a1_0 a1_1 a1_2 a2 a3 a4).bind fun t660 => (if 0 ≤ t660 then (if t660 < (l1_3.length : Int) then (some (mx (rd l1_3 t660) a0_6)) else (none)) else (none))) else (if 0 ≤ a4 then (if a4 < (l1_3.length : Int) then (some (rd l1_3 a4)) else (none)) else (none))))))
def impl_Layer_item.T5 : Bool × List (List Nat × List Nat) := (true, [([], []), ([], []), ([], []), ([], []), ([], []), ([1, 2, 3, 4], [1, 2, 3, 4]), ([], []), ([0, 5, 6, 5], [0, 5, 6]), ([7, 7, 0, 1, 2, 3, 4, 5, 6, 7], [7])])
def impl_Layer_item.B5 : List Nat := [0, 0, 0, 0, 0, 30, 0, 127, 255]
theorem impl_Layer_item.tab5 : rtab .any (opsOf Try.f53 5) = impl_Layer_item.T5 := by kernel_rfl
theorem impl_Layer_item.bits5 : waitsOk impl_Layer_item.T5.2 impl_Layer_item.B5 = true := by kernel_rfl
def impl_Layer_item.T17 : Bool × List (List Nat × List Nat) := (true, [([], []), ([0], [0]), ([], []), ([2], [2]), ([], []), ([], []), ([], []), ([3, 4, 5, 6], [3, 4, 5, 6]), ([1, 7], [1, 7]), ([8], [8]), ([], []), ([10], [10]), ([9, 11], [9, 11]), ([12, 7, 0, 1, 2, 3, 4, 5, 6, 7, 8, 9, 10, 11, 12], [12])])
def impl_Layer_item.B17 : List Nat := [0, 1, 0, 4, 0, 0, 0, 124, 255, 511, 0, 1024, 4095, 8191]
theorem impl_Layer_item.tab17 : rtab .any (opsOf Try.f53 17) = impl_Layer_item.T17 := by kernel_rfl
theorem impl_Layer_item.bits17 : waitsOk impl_Layer_item.T17.2 impl_Layer_item.B17 = true := by kernel_rfl
theorem impl_Layer_item.calls (k : Nat) (a0_0 : Int) (a0_1 : Int) (a0_2 : Int) (a0_3 : Int) (a0_4 : Int) (a0_5 : Int) (a0_6 : Int) (A0_7 : Option Addr) (c0_7 : Nat) (l0_7 : List Int) (A0_8 : Option Addr) (c0_8 : Nat) (l0_8 : List Int) (a1_0 : Int) (a1_1 : Int) (a1_2 : Int) (A1_3 : Option Addr) (c1_3 : Nat) (l1_3 : List Int) (a2 : Int) (a3 : Int) (a4 : Int) (r : Int) (w : World) (hr0_7 : Kd.C (Kd.int .i64) w A0_7 l0_7.length l0_7) (hc0_7 : l0_7.length ≤ c0_7) (hr0_8 : Kd.C (Kd.int .i64) w A0_8 l0_8.length l0_8) (hc0_8 : l0_8.length ≤ c0_8) (hr1_3 : Kd.C (Kd.int .i64) w A1_3 l1_3.length l1_3) (hc1_3 : l1_3.length ≤ c1_3) (h : impl_Layer_item.f k a0_0 a0_1 a0_2 a0_3 a0_4 a0_5 a0_6 l0_7 l0_8 a1_0 a1_1 a1_2 l1_3 a2 a3 a4 = some r) :
   Calls Try.prog 53 #[.agg #[.int .i64 a0_0, .int .i64 a0_1, .int .i64 a0_2, .int .i64 a0_3, .int .i64 a0_4, .int .i64 a0_5, .int .i64 a0_6, .slice A0_7 l0_7.length c0_7, .slice A0_8 l0_8.length c0_8], .agg #[.int .i64 a1_0, .int .i64 a1_1, .int .i64 a1_2, .slice A1_3 l1_3.length c1_3], .int .i64 a2, .int .i64 a3, .int .i64 a4] w fun e w' => e = .returned (.int .i64 r) ∧ Below w.heap.size w w' := by
  have hu37 := Try.underlying37;have hu33 := Try.underlying33;have hu31 := Try.underlying31;have HR0_7 := am hr0_7;have HC0_7 := am hc0_7;clear hr0_7 hc0_7;have HR0_8 := am hr0_8;have HC0_8 := am hc0_8;clear hr0_8 hc0_8;have HR1_3 := am hr1_3;have HC1_3 := am hc1_3;clear hr1_3 hc1_3;have HB := am (Below.refl w.heap.size w);have H : (if a0_0 = 0 then ((impl_Layer_scaled.f k a0_0 a0_1 a0_2 a0_3 a0_4 a0_5 a0_6 l0_7 l0_8 l1_3 a4).bind fun t646 => (some t646)) else (if a0_0 = 1 then ((impl_Layer_window.f k a0_0 a0_1 a0_2 a0_3 a0_4 a0_5 a0_6 l0_7 l0_8 a1_0 a1_1 a1_2 l1_3 a2 a3 (-1)).bind fun t647 => ((impl_Layer_scaled.f k a0_0 a0_1 a0_2 a0_3 a0_4 a0_5 a0_6 l0_7 l0_8 t647 a4).bind fun t650 => (some t650))) else (if a0_0 = 2 then ((impl_Layer_window.f k a0_0 a0_1 a0_2 a0_3 a0_4 a0_5 a0_6 l0_7 l0_8 a1_0 a1_1 a1_2 l1_3 a2 a3 a4).bind fun t651 => ((slices_Max_int_int.f k t651).bind fun t654 => (some t654))) else (if a0_0 = 3 then ((impl_Layer_window.f k a0_0 a0_1 a0_2 a0_3 a0_4 a0_5 a0_6 l0_7 l0_8 a1_0 a1_1 a1_2 l1_3 a2 a3 a4).bind fun t655 => (impl_Layer_item.l0 k 0 t655 (t655.length : Int) 0 a0_0 a0_1 a0_2 a0_3 a0_4 a0_5 a0_6 l0_7 l0_8)) else (if a0_0 = 4 then ((impl_Shape_place.f a1_0 a1_1 a1_2 a2 a3 a4).bind fun t660 => (if 0 ≤ t660 then (if t660 < (l1_3.length : Int) then (some (mx (rd l1_3 t660) a0_6)) else (none)) else (none))) else (if 0 ≤ a4 then (if a4 < (l1_3.length : Int) then (some (rd l1_3 a4)) else (none)) else (none))))))) = some r := h;clear h;by_cases c6 : a0_0 = 0;rw [if_pos c6] at H;have c6b0 : (a0_0 == 0) = true := beq_iff_eq.mpr c6;have c6b1 : (a0_0 != 0) = false := bne_eq_false_iff_eq.mpr c6;clear c6;obtain ⟨t646, A7, H⟩ := bnd H;(try dsimp only at H);obtain rfl := Option.some.inj H;rotate_left;rw [if_neg c6] at H;have c6b0 : (a0_0 == 0) = false := beq_eq_false_iff_ne.mpr c6;have c6b1 : (a0_0 != 0) = true := bne_iff_ne.mpr c6;by_cases c14 : a0_0 = 1;rw [if_pos c14] at H;have c14b0 : (a0_0 == 1) = true := beq_iff_eq.mpr c14;have c14b1 : (a0_0 != 1) = false := bne_eq_false_iff_eq.mpr c14;clear c14;obtain ⟨t647, A15, H⟩ := bnd H;(try dsimp only at H);obtain ⟨t650, A16, H⟩ := bnd H;(try dsimp only at H);obtain rfl := Option.some.inj H
  ·go_enter Try.func53, Try.ntmps53
   try go_wp2_with (first | ((with_reducible refine gate_dst (N := 5) rfl ?_); refine boxM 5 #[.int .i64 a0_0, .int .i64 a0_1, .int .i64 a0_2, .int .i64 a0_3, .int .i64 a0_4, .int .i64 a0_5, .int .i64 a0_6, .slice A0_7 l0_7.length c0_7, .slice A0_8 l0_8.length c0_8] 37 ?_; intro gb644 hg w_ BK644 hb; obtain ⟨HB, GW644, GE644⟩ := box_at w hb hg; clear hb hg) | ((with_reducible refine gate_dst (N := 6) rfl ?_); refine boxM 6 #[.int .i64 a1_0, .int .i64 a1_1, .int .i64 a1_2, .slice A1_3 l1_3.length c1_3] 33 ?_; intro gb645 hg w18 BK645 hb; obtain ⟨HB, GW645, GE645⟩ := box_at w hb hg; obtain ⟨BK644, NB644_645, NB645_644⟩ := box_on gb644 hb hg; clear hb hg; have hn_ := ne2 NB644_645; have hcz_ := cells9 BK644.out))
   replace BK644 := am (blk_drew BK644.out);replace BK645 := am (blk_drew BK645.out);replace HB := am (below_drew1 HB.out)
   refine start_ (n := 9) (S := fun w' => w'.cell? ⟨gb644, 0, none⟩ = some (.int .i64 a0_0) ∧ w'.cell? ⟨gb644, 1, none⟩ = some (.int .i64 a0_1) ∧ w'.cell? ⟨gb644, 2, none⟩ = some (.int .i64 a0_2) ∧ w'.cell? ⟨gb644, 3, none⟩ = some (.int .i64 a0_3) ∧ w'.cell? ⟨gb644, 4, none⟩ = some (.int .i64 a0_4) ∧ w'.cell? ⟨gb644, 5, none⟩ = some (.int .i64 a0_5) ∧ w'.cell? ⟨gb644, 6, none⟩ = some (.int .i64 a0_6) ∧ w'.cell? ⟨gb644, 7, none⟩ = some (.slice A0_7 l0_7.length c0_7) ∧ w'.cell? ⟨gb644, 8, none⟩ = some (.slice A0_8 l0_8.length c0_8) ∧ w'.cell? ⟨gb645, 0, none⟩ = some (.int .i64 a1_0) ∧ w'.cell? ⟨gb645, 1, none⟩ = some (.int .i64 a1_1) ∧ w'.cell? ⟨gb645, 2, none⟩ = some (.int .i64 a1_2) ∧ w'.cell? ⟨gb645, 3, none⟩ = some (.slice A1_3 l1_3.length c1_3)) (ds := []) #[O, O, O, O, O, O, O, O, O] (by kernel_rfl) rfl rfl ⟨bc BK644 0, bc BK644 1, bc BK644 2, bc BK644 3, bc BK644 4, bc BK644 5, bc BK644 6, bc BK644 7, bc BK644 8, bc BK645 0, bc BK645 1, bc BK645 2, bc BK645 3⟩ (fun hHeld => ?_); refine with_tabW impl_Layer_item.tab5 impl_Layer_item.bits5 (fun HT_ HW_ => ?_)
   generalize w18.drew = w_ at BK644 BK645 HB hHeld ⊢
   refine stepP 3 (some 28) (tk 9 8) (any_of HT_.out (by kernel_rfl)) ?_
   refine stepP 4 (some 29) (tk 9 24) (any_of HT_.out (by kernel_rfl)) ?_
   refine stepP 6 (some 31) (tk 9 88) (any_of HT_.out (by kernel_rfl)) ?_
   refine stepT 0 (some 25) (tk 9 89) (take_ofW HT_.out HW_.out (by kernel_rfl)) hHeld ?_
   refine stepT 1 (some 26) (tk 9 91) (take_ofW HT_.out HW_.out (by kernel_rfl)) hHeld ?_
   refine stepT 2 (some 27) (tk 9 95) (take_ofW HT_.out HW_.out (by kernel_rfl)) hHeld ?_
   refine one_ (i := 5) (N := some 30) #[I, I, I, I, I, I, I, O, O] rfl rfl (one_of HT_.out (by kernel_rfl)) (by decide) (fun K hK => ?_)
   refine goes_ Try.func103 (by kernel_rfl) rfl #[.agg #[.int .i64 a0_0, .int .i64 a0_1, .int .i64 a0_2, .int .i64 a0_3, .int .i64 a0_4, .int .i64 a0_5, .int .i64 a0_6, .slice A0_7 l0_7.length c0_7, .slice A0_8 l0_8.length c0_8], .agg #[.int .i64 a1_0, .int .i64 a1_1, .int .i64 a1_2, .slice A1_3 l1_3.length c1_3], .int .i64 a2, .int .i64 a3, .int .i64 (-1)] (by rfl) rfl rfl (by (try simp only [List.map_toArray, List.map_cons, List.map_nil]); first | done | rfl | (simp only [List.length_drop, List.length_take]; rfl)) ?_
   with_reducible refine (impl_Layer_window.calls k a0_0 a0_1 a0_2 a0_3 a0_4 a0_5 a0_6 _ _ l0_7 _ _ l0_8 a1_0 a1_1 a1_2 _ _ l1_3 a2 a3 (-1) t647 _ ?side1 ?side2 ?side3 ?side4 ?side5 ?side6 A15.out).mono ?_
   (case side1 => exact C_now HR0_7.out)
   (case side2 => exact HC0_7.out)
   (case side3 => exact C_now HR0_8.out)
   (case side4 => exact HC0_8.out)
   (case side5 => exact C_now HR1_3.out)
   (case side6 => exact HC1_3.out)
   rintro e w_ ⟨v648, rfl, ho0, hb⟩
   refine ⟨_, rfl, ?_⟩
   have n0_ := am (Kd.R_lower ho0 (below_size bel_now));replace BK644 := blk_on gb644 hb;replace BK645 := blk_on gb645 hb;replace HB := bel_on w hb;have HO649 := n0_;clear n0_;(try clear hb);(try clear hb2);(try clear hb3);(try clear hk);(try clear hi);(try clear ho0);obtain ⟨Ao23, co23, eo23⟩ := Kd.R_slice HO649.out
   (first | subst eo23 | (injection eo23 with f1_ f2_ f3_; have f4_ := f1_.symm; have f5_ := f3_.symm; clear f1_ f2_ f3_; subst f4_; subst f5_))
   refine hK.out _ _ ⟨bc BK644 0, bc BK644 1, bc BK644 2, bc BK644 3, bc BK644 4, bc BK644 5, bc BK644 6, bc BK644 7, bc BK644 8, bc BK645 0, bc BK645 1, bc BK645 2, bc BK645 3⟩ (fun hHeld => ?_)
   clear hK K
   refine normP 30 ?_
   refine one_ (i := 7) (N := some 32) #[I, I, I, I, I, I, I, I, O] rfl rfl (one_of HT_.out (by kernel_rfl)) (by decide) (fun K hK => ?_)
   refine goes_ Try.func102 (by kernel_rfl) rfl #[.agg #[.int .i64 a0_0, .int .i64 a0_1, .int .i64 a0_2, .int .i64 a0_3, .int .i64 a0_4, .int .i64 a0_5, .int .i64 a0_6, .slice A0_7 l0_7.length c0_7, .slice A0_8 l0_8.length c0_8], .slice Ao23 t647.length co23, .int .i64 a4] (by rfl) rfl rfl (by (try simp only [List.map_toArray, List.map_cons, List.map_nil]); first | done | rfl | (simp only [List.length_drop, List.length_take]; rfl)) ?_
   with_reducible refine (impl_Layer_scaled.calls k a0_0 a0_1 a0_2 a0_3 a0_4 a0_5 a0_6 _ _ l0_7 _ _ l0_8 _ _ t647 a4 t650 _ ?side1 ?side2 ?side3 ?side4 ?side5 ?side6 A16.out).mono ?_
   (case side1 => exact C_now HR0_7.out)
   (case side2 => exact HC0_7.out)
   (case side3 => exact C_now HR0_8.out)
   (case side4 => exact HC0_8.out)
   (case side5 => exact (Kd.R_reads' (R_at HO649.out)).2.2)
   (case side6 => exact (Kd.R_reads' HO649.out).2.1)
   rintro e w_ ⟨rfl, hb⟩
   refine ⟨_, rfl, ?_⟩
   replace HO649 := am (Kd.R_below (R_at HO649.out) hb);replace BK644 := blk_on gb644 hb;replace BK645 := blk_on gb645 hb;replace HB := bel_on w hb;(try clear hb);(try clear hb2);(try clear hb3);(try clear hk);(try clear hi)
   refine hK.out _ _ ⟨bc BK644 0, bc BK644 1, bc BK644 2, bc BK644 3, bc BK644 4, bc BK644 5, bc BK644 6, bc BK644 7, bc BK644 8, bc BK645 0, bc BK645 1, bc BK645 2, bc BK645 3⟩ (fun hHeld => ?_)
   clear hK K
   refine normP 32 ?_
   refine stepP 8 (some 10) (tk 9 511) (any_of HT_.out (by kernel_rfl)) ?_
   refine done_ (done_of HT_.out (by kernel_rfl)) ?_
   try go_wp2
   go_ret
   exact ⟨eqN, bel_now⟩
  rw [if_neg c14] at H;have c14b0 : (a0_0 == 1) = false := beq_eq_false_iff_ne.mpr c14;have c14b1 : (a0_0 != 1) = true := bne_iff_ne.mpr c14;by_cases c25 : a0_0 = 2;rw [if_pos c25] at H;have c25b0 : (a0_0 == 2) = true := beq_iff_eq.mpr c25;have c25b1 : (a0_0 != 2) = false := bne_eq_false_iff_eq.mpr c25;clear c25;obtain ⟨t651, A26, H⟩ := bnd H;(try dsimp only at H);obtain ⟨t654, A27, H⟩ := bnd H;(try dsimp only at H);obtain rfl := Option.some.inj H;rotate_left;rw [if_neg c25] at H;have c25b0 : (a0_0 == 2) = false := beq_eq_false_iff_ne.mpr c25;have c25b1 : (a0_0 != 2) = true := bne_iff_ne.mpr c25;by_cases c36 : a0_0 = 3;rw [if_pos c36] at H;have c36b0 : (a0_0 == 3) = true := beq_iff_eq.mpr c36;have c36b1 : (a0_0 != 3) = false := bne_eq_false_iff_eq.mpr c36;clear c36;obtain ⟨t655, A37, H⟩ := bnd H;(try dsimp only at H);have H' := am H;clear H;rotate_left;rw [if_neg c36] at H;have c36b0 : (a0_0 == 3) = false := beq_eq_false_iff_ne.mpr c36;have c36b1 : (a0_0 != 3) = true := bne_iff_ne.mpr c36;by_cases c51 : a0_0 = 4
  case' neg => skip
  rw [if_neg c51] at H;have c51b0 : (a0_0 == 4) = false := beq_eq_false_iff_ne.mpr c51;have c51b1 : (a0_0 != 4) = true := bne_iff_ne.mpr c51;obtain ⟨c62, H⟩ := gd H;have c62b0 : decide (0 ≤ a4) = true := decide_eq_true c62;clear c62;obtain ⟨c63, H⟩ := gd H;have c63b0 : decide (a4 < (l1_3.length : Int)) = true := decide_eq_true c63;clear c63;obtain rfl := Option.some.inj H;rotate_left;rw [if_pos c51] at H;have c51b0 : (a0_0 == 4) = true := beq_iff_eq.mpr c51;have c51b1 : (a0_0 != 4) = false := bne_eq_false_iff_eq.mpr c51;clear c51;obtain ⟨t660, A52, H⟩ := bnd H;(try dsimp only at H);obtain ⟨c53, H⟩ := gd H;have c53b0 : decide (0 ≤ t660) = true := decide_eq_true c53;clear c53;obtain ⟨c54, H⟩ := gd H;have c54b0 : decide (t660 < (l1_3.length : Int)) = true := decide_eq_true c54;clear c54;obtain ⟨ji55, hji55⟩ : ∃ j_ : Int, (mx (rd l1_3 t660) a0_6) = j_ := ⟨_, rfl⟩;replace H : (some ji55) = some r := by first | (rw [hji55] at H; exact H) | (simp only [hji55] at H ⊢; exact H)
  (try rw [hji55] at A52);have hji55_ : (if (rd l1_3 t660) < a0_6 then a0_6 else (rd l1_3 t660)) = ji55 := hji55;obtain rfl := Option.some.inj H
  ·go_enter Try.func53, Try.ntmps53
   try go_wp2_with (first | ((with_reducible refine gate_dst (N := 5) rfl ?_); refine boxM 5 #[.int .i64 a0_0, .int .i64 a0_1, .int .i64 a0_2, .int .i64 a0_3, .int .i64 a0_4, .int .i64 a0_5, .int .i64 a0_6, .slice A0_7 l0_7.length c0_7, .slice A0_8 l0_8.length c0_8] 37 ?_; intro gb644 hg w_ BK644 hb; obtain ⟨HB, GW644, GE644⟩ := box_at w hb hg; clear hb hg) | ((with_reducible refine gate_dst (N := 6) rfl ?_); refine boxM 6 #[.int .i64 a1_0, .int .i64 a1_1, .int .i64 a1_2, .slice A1_3 l1_3.length c1_3] 33 ?_; intro gb645 hg w57 BK645 hb; obtain ⟨HB, GW645, GE645⟩ := box_at w hb hg; obtain ⟨BK644, NB644_645, NB645_644⟩ := box_on gb644 hb hg; clear hb hg; have hn_ := ne2 NB644_645; have hcz_ := cells9 BK644.out))
   replace BK644 := am (blk_drew BK644.out);replace BK645 := am (blk_drew BK645.out);replace HB := am (below_drew1 HB.out);have p661 : 0 ≤ (t660 : Int) := of_decide_eq_true (by first | (with_reducible assumption) | assumption);have q661 : t660 < (l1_3.length : Int) := of_decide_eq_true (by first | (with_reducible assumption) | assumption);obtain ⟨ad661, e661, hx661_0⟩ := Kd.at_int HR1_3.out t660 p661 q661;have hw661_0 := hx661_0;cases e661;replace hx661_0 := (HB.out.cell (World.block_lt_of_cell? w _ hx661_0)).trans hx661_0;replace p661 := eq_true p661;replace q661 := eq_true q661
   refine start_ (n := 14) (S := fun w' => w'.cell? ⟨gb645, 0, none⟩ = some (.int .i64 a1_0) ∧ w'.cell? ⟨gb645, 1, none⟩ = some (.int .i64 a1_1) ∧ w'.cell? ⟨gb645, 2, none⟩ = some (.int .i64 a1_2) ∧ w'.cell? ⟨gb645, 3, none⟩ = some (.slice (some ad661) l1_3.length c1_3) ∧ w'.cell? ⟨gb644, 0, none⟩ = some (.int .i64 a0_0) ∧ w'.cell? ⟨gb644, 1, none⟩ = some (.int .i64 a0_1) ∧ w'.cell? ⟨gb644, 2, none⟩ = some (.int .i64 a0_2) ∧ w'.cell? ⟨gb644, 3, none⟩ = some (.int .i64 a0_3) ∧ w'.cell? ⟨gb644, 4, none⟩ = some (.int .i64 a0_4) ∧ w'.cell? ⟨gb644, 5, none⟩ = some (.int .i64 a0_5) ∧ w'.cell? ⟨gb644, 6, none⟩ = some (.int .i64 a0_6) ∧ w'.cell? ⟨gb644, 7, none⟩ = some (.slice A0_7 l0_7.length c0_7) ∧ w'.cell? ⟨gb644, 8, none⟩ = some (.slice A0_8 l0_8.length c0_8) ∧ w'.cell? (ad661.add (t660).toNat) = some (.int .i64 (rd l1_3 t660))) (ds := []) #[O, O, O, O, O, O, O, O, O, O, O, O, O, O] (by kernel_rfl) rfl rfl ⟨bc BK645 0, bc BK645 1, bc BK645 2, bc BK645 3, bc BK644 0, bc BK644 1, bc BK644 2, bc BK644 3, bc BK644 4, bc BK644 5, bc BK644 6, bc BK644 7, bc BK644 8, ((HB.out.cell (World.block_lt_of_cell? w _ hw661_0)).trans hw661_0)⟩ (fun hHeld => ?_); refine with_tabW impl_Layer_item.tab17 impl_Layer_item.bits17 (fun HT_ HW_ => ?_)
   generalize w57.drew = w_ at BK644 BK645 HB hx661_0 hHeld ⊢
   refine stepP 0 (some 68) (tk 14 1) (any_of HT_.out (by kernel_rfl)) ?_
   refine stepP 2 (some 70) (tk 14 5) (any_of HT_.out (by kernel_rfl)) ?_
   refine stepP 4 (some 72) (tk 14 21) (any_of HT_.out (by kernel_rfl)) ?_
   refine stepP 5 (some 73) (tk 14 53) (any_of HT_.out (by kernel_rfl)) ?_
   refine stepP 6 (some 74) (tk 14 117) (any_of HT_.out (by kernel_rfl)) ?_
   refine stepP 10 (some 78) (tk 14 1141) (any_of HT_.out (by kernel_rfl)) ?_
   refine stepT 1 (some 69) (tk 14 1143) (take_ofW HT_.out HW_.out (by kernel_rfl)) hHeld ?_
   refine stepT 3 (some 71) (tk 14 1151) (take_ofW HT_.out HW_.out (by kernel_rfl)) hHeld ?_
   refine stepT 11 (some 79) (tk 14 3199) (take_ofW HT_.out HW_.out (by kernel_rfl)) hHeld ?_
   refine one_ (i := 7) (N := some 75) #[I, I, I, I, I, I, I, I, O, O, I, I, O, O] rfl rfl (one_of HT_.out (by kernel_rfl)) (by decide) (fun K hK => ?_)
   refine goes_ Try.func106 (by kernel_rfl) rfl #[.agg #[.int .i64 a1_0, .int .i64 a1_1, .int .i64 a1_2], .int .i64 a2, .int .i64 a3, .int .i64 a4] (by rfl) rfl rfl (by (try simp only [List.map_toArray, List.map_cons, List.map_nil]); first | done | rfl | (simp only [List.length_drop, List.length_take]; rfl)) ?_
   with_reducible refine (impl_Shape_place.calls a1_0 a1_1 a1_2 a2 a3 a4 t660 _ A52.out).mono ?_
   rintro e w_ ⟨rfl, hb⟩
   refine ⟨_, rfl, ?_⟩
   replace BK644 := blk_on gb644 hb;replace BK645 := blk_on gb645 hb;replace HB := bel_on w hb;(try clear hb);(try clear hb2);(try clear hb3);(try clear hk);(try clear hi)
   refine hK.out _ _ ⟨bc BK645 0, bc BK645 1, bc BK645 2, bc BK645 3, bc BK644 0, bc BK644 1, bc BK644 2, bc BK644 3, bc BK644 4, bc BK644 5, bc BK644 6, bc BK644 7, bc BK644 8, ((HB.out.cell (World.block_lt_of_cell? w _ hw661_0)).trans hw661_0)⟩ (fun hHeld => ?_)
   clear hK K
   refine normP 75 ?_
   refine stepP 8 (some 76) (tk 14 3583) (any_of HT_.out (by kernel_rfl)) ?_
   refine stepT 9 (some 77) (tk 14 4095) (take_ofW HT_.out HW_.out (by kernel_rfl)) hHeld ?_
   refine stepP 12 (some 80) (tk 14 8191) (any_of HT_.out (by kernel_rfl)) ?_
   refine stepP 13 (some 10) (tk 14 16383) (any_of HT_.out (by kernel_rfl)) ?_
   refine done_ (done_of HT_.out (by kernel_rfl)) ?_
   try go_wp2
   go_ret
   exact ⟨by first | rfl | (simp [errW_none, errW_some] <;> rfl) | (simp only [← hji55]; first | rfl | (simp [errW_none, errW_some] <;> rfl)) | (simp [*, errW_none, errW_some] <;> rfl), bel_now⟩
  all_goals (go_enter Try.func53, Try.ntmps53; go_wp2_with (first | ((with_reducible refine gate_dst (N := 5) rfl ?_); refine boxM 5 #[.int .i64 a0_0, .int .i64 a0_1, .int .i64 a0_2, .int .i64 a0_3, .int .i64 a0_4, .int .i64 a0_5, .int .i64 a0_6, .slice A0_7 l0_7.length c0_7, .slice A0_8 l0_8.length c0_8] 37 ?_; intro gb644 hg w_ BK644 hb; obtain ⟨HB, GW644, GE644⟩ := box_at w hb hg; clear hb hg) | ((with_reducible refine gate_dst (N := 6) rfl ?_); refine boxM 6 #[.int .i64 a1_0, .int .i64 a1_1, .int .i64 a1_2, .slice A1_3 l1_3.length c1_3] 33 ?_; intro gb645 hg w_ BK645 hb; obtain ⟨HB, GW645, GE645⟩ := box_at w hb hg; obtain ⟨BK644, NB644_645, NB645_644⟩ := box_on gb644 hb hg; clear hb hg; (try (have p662 : 0 ≤ (a4 : Int) := of_decide_eq_true (by first | (with_reducible assumption) | assumption); have q662 : a4 < (l1_3.length : Int) := of_decide_eq_true (by first | (with_reducible assumption) | assumption); obtain ⟨ad662, e662, hx662_0⟩ := Kd.at_int HR1_3.out a4 p662 q662; cases e662; replace hx662_0 := (HB.out.cell (World.block_lt_of_cell? w _ hx662_0)).trans hx662_0; replace p662 := eq_true p662; replace q662 := eq_true q662)); have hn_ := ne2 NB644_645; have hcz_ := cells9 BK644.out; have hcz_ := cells4 BK645.out; have hcz41 := cells9 BK644.out; have hcz42 := cells4 BK645.out) | ((with_reducible refine gate_callee (f := 102) rfl ?_); refine gM 22 Try.func102 #[.agg #[.int .i64 a0_0, .int .i64 a0_1, .int .i64 a0_2, .int .i64 a0_3, .int .i64 a0_4, .int .i64 a0_5, .int .i64 a0_6, .slice A0_7 l0_7.length c0_7, .slice A0_8 l0_8.length c0_8], .slice A1_3 l1_3.length c1_3, .int .i64 a4] rfl ?_; (with_reducible refine (impl_Layer_scaled.calls k a0_0 a0_1 a0_2 a0_3 a0_4 a0_5 a0_6 _ _ l0_7 _ _ l0_8 _ _ l1_3 a4 t646 _ ?side1 HC0_7.out ?side3 HC0_8.out ?side5 HC1_3.out A7.out).mono ?_); (case side1 => exact C_now HR0_7.out); (case side3 => exact C_now HR0_8.out); (case side5 => exact C_now HR1_3.out); rintro e w_ ⟨rfl, hb⟩; refine ⟨_, rfl, ?_⟩; replace HB := bel_on w hb; replace BK644 := blk_on gb644 hb; replace BK645 := blk_on gb645 hb; (try clear hb)) | ((with_reducible refine gate_callee (f := 103) rfl ?_); refine gM 40 Try.func103 #[.agg #[.int .i64 a0_0, .int .i64 a0_1, .int .i64 a0_2, .int .i64 a0_3, .int .i64 a0_4, .int .i64 a0_5, .int .i64 a0_6, .slice A0_7 l0_7.length c0_7, .slice A0_8 l0_8.length c0_8], .agg #[.int .i64 a1_0, .int .i64 a1_1, .int .i64 a1_2, .slice A1_3 l1_3.length c1_3], .int .i64 a2, .int .i64 a3, .int .i64 a4] rfl ?_; (with_reducible refine (impl_Layer_window.calls k a0_0 a0_1 a0_2 a0_3 a0_4 a0_5 a0_6 _ _ l0_7 _ _ l0_8 a1_0 a1_1 a1_2 _ _ l1_3 a2 a3 a4 t651 _ ?side1 HC0_7.out ?side3 HC0_8.out ?side5 HC1_3.out A26.out).mono ?_); (case side1 => exact C_now HR0_7.out); (case side3 => exact C_now HR0_8.out); (case side5 => exact C_now HR1_3.out); rintro e w_ ⟨v652, rfl, ho0, hb⟩; refine ⟨_, rfl, ?_⟩; have n0_ := am (Kd.R_lower ho0 (below_size bel_now)); replace HB := bel_on w hb; replace BK644 := blk_on gb644 hb; replace BK645 := blk_on gb645 hb; have HO653 := n0_; clear n0_; (try clear hb ho0); obtain ⟨Ao34, co34, eo34⟩ := Kd.R_slice HO653.out; subst eo34) | ((with_reducible refine gate_callee (f := 104) rfl ?_); refine gM 41 Try.func104 #[.slice Ao34 t651.length co34] rfl ?_; (with_reducible refine (slices_Max_int_int.calls k _ _ t651 t654 _ ?side1 ?side2 A27.out).mono ?_); (case side1 => exact (Kd.R_reads' (R_at HO653.out)).2.2); (case side2 => exact (Kd.R_reads' HO653.out).2.1); rintro e w_ ⟨rfl, hb⟩; refine ⟨_, rfl, ?_⟩; replace HO653 := am (Kd.R_below (R_at HO653.out) hb); replace HB := bel_on w hb; replace BK644 := blk_on gb644 hb; replace BK645 := blk_on gb645 hb; (try clear hb)) | ((with_reducible refine gate_callee (f := 103) rfl ?_); refine gM 49 Try.func103 #[.agg #[.int .i64 a0_0, .int .i64 a0_1, .int .i64 a0_2, .int .i64 a0_3, .int .i64 a0_4, .int .i64 a0_5, .int .i64 a0_6, .slice A0_7 l0_7.length c0_7, .slice A0_8 l0_8.length c0_8], .agg #[.int .i64 a1_0, .int .i64 a1_1, .int .i64 a1_2, .slice A1_3 l1_3.length c1_3], .int .i64 a2, .int .i64 a3, .int .i64 a4] rfl ?_; (with_reducible refine (impl_Layer_window.calls k a0_0 a0_1 a0_2 a0_3 a0_4 a0_5 a0_6 _ _ l0_7 _ _ l0_8 a1_0 a1_1 a1_2 _ _ l1_3 a2 a3 a4 t655 _ ?side1 HC0_7.out ?side3 HC0_8.out ?side5 HC1_3.out A37.out).mono ?_); (case side1 => exact C_now HR0_7.out); (case side3 => exact C_now HR0_8.out); (case side5 => exact C_now HR1_3.out); rintro e w_ ⟨v656, rfl, ho0, hb⟩; refine ⟨_, rfl, ?_⟩; have n0_ := am (Kd.R_lower ho0 (below_size bel_now)); replace HB := bel_on w hb; replace BK644 := blk_on gb644 hb; replace BK645 := blk_on gb645 hb; have HO657 := n0_; clear n0_; (try clear hb ho0); obtain ⟨Ao44, co44, eo44⟩ := Kd.R_slice HO657.out; subst eo44)))
  ·go_ret
   exact ⟨eqN, bel_now⟩
  ·go_ret
   exact ⟨eqN, bel_now⟩
  ·go_loopg [11, 51] k (fun kq v11 v51 w' => ∃ (x11_1 : Int) (x51_1 : Int), v11 = .int .i64 x11_1 ∧ v51 = .int .i64 x51_1 ∧ Aside0 (impl_Layer_item.l0 kq x11_1 t655 (t655.length : Int) x51_1 a0_0 a0_1 a0_2 a0_3 a0_4 a0_5 a0_6 l0_7 l0_8 = some r) ∧ Aside0 (kq ≤ k) ∧ Aside0 (Kd.R (Kd.int .i64) 3 w' w.heap.size (fun _ => True) (.slice Ao44 t655.length co44) t655) ∧ Aside0 (w'.heap[gb644]? = some (.cells #[.int .i64 a0_0, .int .i64 a0_1, .int .i64 a0_2, .int .i64 a0_3, .int .i64 a0_4, .int .i64 a0_5, .int .i64 a0_6, (.slice A0_7 l0_7.length c0_7), (.slice A0_8 l0_8.length c0_8)] 37 (0, 0))) ∧ Aside0 (w'.heap[gb645]? = some (.cells #[.int .i64 a1_0, .int .i64 a1_1, .int .i64 a1_2, (.slice A1_3 l1_3.length c1_3)] 33 (0, 0))) ∧ Aside0 (Below w.heap.size w w'))
   case atStart => exact ⟨(0), (0), pv, pv, H', ⟨Nat.le_refl _⟩, ⟨R_at HO657.out⟩, ⟨bks BK644⟩, ⟨bks BK645⟩, ⟨bel_now⟩⟩
   case round =>
    clear H';try clear c6
    try clear c6b0
    try clear c6b1
    try clear c14
    try clear c14b0
    try clear c14b1
    try clear c25
    try clear c25b0
    try clear c25b1
    try clear c36
    try clear c36b0
    try clear c36b1
    try clear hcz41
    try clear hcz42
    obtain ⟨x11_1, x51_1, rfl, rfl, HA, HK1, HO_49, BK644, BK645, HB⟩ := hrel
    cases gk with
    | zero => exact absurd HA.out (by simp [impl_Layer_item.l0])
    | succ k1 =>
     have H := HA.out;clear HA;simp only [impl_Layer_item.l0] at H;by_cases c45 : x51_1 < (t655.length : Int);rotate_left
     ·rw [if_neg c45] at H;have c45b0 : decide (x51_1 < (t655.length : Int)) = false := decide_eq_false c45;clear c45;obtain ⟨t659, A48, H⟩ := bnd H;(try dsimp only at H);obtain rfl := Option.some.inj H;have hn_ := ne2 NB644_645;have hcz_ := cells9 BK644.out
      go_wp2_with (first | ((with_reducible refine gate_callee (f := 105) rfl ?_); refine gM 65 Try.func105 #[.int .i64 x11_1, .int .i64 (wrap64 (a0_2 * a0_2))] rfl ?_; (with_reducible refine (impl_rounded.calls k1 x11_1 (wrap64 (a0_2 * a0_2)) t659 _ A48.out).mono ?_); rintro e w' ⟨rfl, ⟨nd, rfl⟩⟩; refine ⟨_, rfl, ?_⟩))
      go_ret
      exact ⟨eqN, bel_now⟩
     rw [if_pos c45] at H;have c45b0 : decide (x51_1 < (t655.length : Int)) = true := decide_eq_true c45;clear c45;obtain ⟨c46, H⟩ := gd H;have c46b0 : decide (0 ≤ x51_1) = true := decide_eq_true c46;clear c46;obtain ⟨c47, H⟩ := gd H;have c47b0 : decide (x51_1 < (t655.length : Int)) = true := decide_eq_true c47;clear c47;have H' := am H;clear H;have p658 : 0 ≤ (x51_1 : Int) := of_decide_eq_true (by first | (with_reducible assumption) | assumption);have q658 : x51_1 < (t655.length : Int) := of_decide_eq_true (by first | (with_reducible assumption) | assumption);obtain ⟨ad658, e658, hx658_0⟩ := Kd.at_int (Kd.R_reads' HO_49.out).2.2 x51_1 p658 q658;cases e658;replace p658 := eq_true p658;replace q658 := eq_true q658
     go_wp2
     go_roundg k1
     case measure => have := HK1.out; omega
     case rel => exact ⟨(wrap64 (x11_1 + (rd t655 x51_1))), (wrap64 (x51_1 + 1)), pv, pv, H', ⟨by have := HK1.out; omega⟩, ⟨R_at HO_49.out⟩, ⟨bks BK644⟩, ⟨bks BK645⟩, ⟨bel_now⟩⟩
  ·go_ret
   exact ⟨eqN, bel_now⟩

end Go.Proofs.Ytclpojeofclbjaa.PFnLayers
