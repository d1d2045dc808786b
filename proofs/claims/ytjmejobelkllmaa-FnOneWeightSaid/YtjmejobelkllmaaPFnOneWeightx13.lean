import Derived.Test.YtjmejobelkllmaaPFnOneWeightx0
import Derived.Test.YtjmejobelkllmaaPFnOneWeightx11
import Derived.Test.YtjmejobelkllmaaPFnOneWeightx12
namespace Go.Proofs.Ytjmejobelkllmaa.PFnOneWeight
open Go.RowKit Go.Proofs.YtjmejobelkllmaaW.PrintWords Go.Proofs.YtjmejobelkllmaaW.PrintLast Go.Proofs.YtjmejobelkllmaaW.PrintMore
attribute [local go_sem] max2_int min2_int max_two min_two max_three min_three max_four min_four
set_option maxHeartbeats 8000000
set_option maxRecDepth 100000
set_option linter.unusedVariables false
set_option linter.unusedSimpArgs false

def impl_Layer_item.l0 : Nat → Int → List Int → Int → Int → Int → Int → Int → Int → Int → Int → Int → List Int → List Int → Option (Int)
  | 0, _, _, _, _, _, _, _, _, _, _, _, _, _ => none
  | k + 1, x11, x49, x50, x51, x539000, x539001, x539002, x539003, x539004, x539005, x539006, x539007, x539008 => if x51 < x50 then (if 0 ≤ x51 then (if x51 < (x49.length : Int) then (impl_Layer_item.l0 k (wrap64 (x11 + (rd x49 x51))) x49 x50 (wrap64 (x51 + 1)) x539000 x539001 x539002 x539003 x539004 x539005 x539006 x539007 x539008) else (none)) else (none)) else ((impl_rounded.f k x11 (wrap64 (x539002 * x539002))).bind fun t553 => (some t553))
def impl_Layer_item.f (k : Nat) (a0_0 : Int) (a0_1 : Int) (a0_2 : Int) (a0_3 : Int) (a0_4 : Int) (a0_5 : Int) (a0_6 : Int) (l0_7 : List Int) (l0_8 : List Int) (a1_0 : Int) (a1_1 : Int) (a1_2 : Int) (l1_3 : List Int) (a2 : Int) (a3 : Int) (a4 : Int) : Option (Int) := if a0_0 = 0 then ((impl_Layer_scaled.f k a0_0 a0_1 a0_2 a0_3 a0_4 a0_5 a0_6 l0_7 l0_8 l1_3 a4).bind fun t540 => (some t540)) else (if a0_0 = 1 then ((impl_Layer_window.f k a0_0 a0_1 a0_2 a0_3 a0_4 a0_5 a0_6 l0_7 l0_8 a1_0 a1_1 a1_2 l1_3 a2 a3 (-1)).bind fun t541 => ((impl_Layer_scaled.f k a0_0 a0_1 a0_2 a0_3 a0_4 a0_5 a0_6 l0_7 l0_8 t541 a4).bind fun t544 => (some t544))) else (if a0_0 = 2 then ((impl_Layer_window.f k a0_0 a0_1 a0_2 a0_3 a0_4 a0_5 a0_6 l0_7 l0_8 a1_0 a1_1 a1_2 l1_3 a2 a3 a4).bind fun t545 => ((slices_Max_int_int.f k t545).bind fun t548 => (some t548))) else (if a0_0 = 3 then ((impl_Layer_window.f k a0_0 a0_1 a0_2 a0_3 a0_4 a0_5 a0_6 l0_7 l0_8 a1_0 a1_1 a1_2 l1_3 a2 a3 a4).bind fun t549 => (impl_Layer_item.l0 k 0 t549 (t549.length : Int) 0 a0_0 a0_1 a0_2 a0_3 a0_4 a0_5 a0_6 l0_7 l0_8)) else (if a0_0 = 4 then ((impl_Shape_place.f a1_0 a1_1 a1_2 a2 a3 a4).bind fun t554 => (if 0 ≤ t554 then (if t554 < (l1_3.length : Int) then (some (mx (rd l1_3 t554) a0_6)) else (none)) else (none))) else (if 0 ≤ a4 then (if a4 < (l1_3.length : Int) then (some (rd l1_3 a4)) else (none)) else (none))))))
def impl_Layer_item.T5 : Bool × List (List Nat × List Nat) := (true, [([], []), ([], []), ([], []), ([], []), ([], []), ([1, 2, 3, 4], [1, 2, 3, 4]), ([], []), ([0, 5, 6, 5], [0, 5, 6]), ([7, 7, 0, 1, 2, 3, 4, 5, 6, 7], [7])])
def impl_Layer_item.B5 : List Nat := [0, 0, 0, 0, 0, 30, 0, 127, 255]
theorem impl_Layer_item.tab5 : rtab .any (opsOf Try.f50 5) = impl_Layer_item.T5 := by kernel_rfl
theorem impl_Layer_item.bits5 : waitsOk impl_Layer_item.T5.2 impl_Layer_item.B5 = true := by kernel_rfl
def impl_Layer_item.T17 : Bool × List (List Nat × List Nat) := (true, [([], []), ([0], [0]), ([], []), ([2], [2]), ([], []), ([], []), ([], []), ([3, 4, 5, 6], [3, 4, 5, 6]), ([1, 7], [1, 7]), ([8], [8]), ([], []), ([10], [10]), ([9, 11], [9, 11]), ([12, 7, 0, 1, 2, 3, 4, 5, 6, 7, 8, 9, 10, 11, 12], [12])])
def impl_Layer_item.B17 : List Nat := [0, 1, 0, 4, 0, 0, 0, 124, 255, 511, 0, 1024, 4095, 8191]
theorem impl_Layer_item.tab17 : rtab .any (opsOf Try.f50 17) = impl_Layer_item.T17 := by kernel_rfl
theorem impl_Layer_item.bits17 : waitsOk impl_Layer_item.T17.2 impl_Layer_item.B17 = true := by kernel_rfl
theorem impl_Layer_item.calls (k : Nat) (a0_0 : Int) (a0_1 : Int) (a0_2 : Int) (a0_3 : Int) (a0_4 : Int) (a0_5 : Int) (a0_6 : Int) (A0_7 : Option Addr) (c0_7 : Nat) (l0_7 : List Int) (A0_8 : Option Addr) (c0_8 : Nat) (l0_8 : List Int) (a1_0 : Int) (a1_1 : Int) (a1_2 : Int) (A1_3 : Option Addr) (c1_3 : Nat) (l1_3 : List Int) (a2 : Int) (a3 : Int) (a4 : Int) (r : Int) (w : World) (hr0_7 : Kd.C (Kd.int .i64) w A0_7 l0_7.length l0_7) (hc0_7 : l0_7.length ≤ c0_7) (hr0_8 : Kd.C (Kd.int .i64) w A0_8 l0_8.length l0_8) (hc0_8 : l0_8.length ≤ c0_8) (hr1_3 : Kd.C (Kd.int .i64) w A1_3 l1_3.length l1_3) (hc1_3 : l1_3.length ≤ c1_3) (h : impl_Layer_item.f k a0_0 a0_1 a0_2 a0_3 a0_4 a0_5 a0_6 l0_7 l0_8 a1_0 a1_1 a1_2 l1_3 a2 a3 a4 = some r) :
   Calls Try.prog 50 #[.agg #[.int .i64 a0_0, .int .i64 a0_1, .int .i64 a0_2, .int .i64 a0_3, .int .i64 a0_4, .int .i64 a0_5, .int .i64 a0_6, .slice A0_7 l0_7.length c0_7, .slice A0_8 l0_8.length c0_8], .agg #[.int .i64 a1_0, .int .i64 a1_1, .int .i64 a1_2, .slice A1_3 l1_3.length c1_3], .int .i64 a2, .int .i64 a3, .int .i64 a4] w fun e w' => e = .returned (.int .i64 r) ∧ Below w.heap.size w w' := by
  have hu46 := Try.underlying46;have hu44 := Try.underlying44;have hu24 := Try.underlying24;have HR0_7 := am hr0_7;have HC0_7 := am hc0_7;clear hr0_7 hc0_7;have HR0_8 := am hr0_8;have HC0_8 := am hc0_8;clear hr0_8 hc0_8;have HR1_3 := am hr1_3;have HC1_3 := am hc1_3;clear hr1_3 hc1_3;have HB := am (Below.refl w.heap.size w);have H : (if a0_0 = 0 then ((impl_Layer_scaled.f k a0_0 a0_1 a0_2 a0_3 a0_4 a0_5 a0_6 l0_7 l0_8 l1_3 a4).bind fun t540 => (some t540)) else (if a0_0 = 1 then ((impl_Layer_window.f k a0_0 a0_1 a0_2 a0_3 a0_4 a0_5 a0_6 l0_7 l0_8 a1_0 a1_1 a1_2 l1_3 a2 a3 (-1)).bind fun t541 => ((impl_Layer_scaled.f k a0_0 a0_1 a0_2 a0_3 a0_4 a0_5 a0_6 l0_7 l0_8 t541 a4).bind fun t544 => (some t544))) else (if a0_0 = 2 then ((impl_Layer_window.f k a0_0 a0_1 a0_2 a0_3 a0_4 a0_5 a0_6 l0_7 l0_8 a1_0 a1_1 a1_2 l1_3 a2 a3 a4).bind fun t545 => ((slices_Max_int_int.f k t545).bind fun t548 => (some t548))) else (if a0_0 = 3 then ((impl_Layer_window.f k a0_0 a0_1 a0_2 a0_3 a0_4 a0_5 a0_6 l0_7 l0_8 a1_0 a1_1 a1_2 l1_3 a2 a3 a4).bind fun t549 => (impl_Layer_item.l0 k 0 t549 (t549.length : Int) 0 a0_0 a0_1 a0_2 a0_3 a0_4 a0_5 a0_6 l0_7 l0_8)) else (if a0_0 = 4 then ((impl_Shape_place.f a1_0 a1_1 a1_2 a2 a3 a4).bind fun t554 => (if 0 ≤ t554 then (if t554 < (l1_3.length : Int) then (some (mx (rd l1_3 t554) a0_6)) else (none)) else (none))) else (if 0 ≤ a4 then (if a4 < (l1_3.length : Int) then (some (rd l1_3 a4)) else (none)) else (none))))))) = some r := h;clear h;by_cases c6 : a0_0 = 0;rw [if_pos c6] at H;have c6b0 : (a0_0 == 0) = true := beq_iff_eq.mpr c6;have c6b1 : (a0_0 != 0) = false := bne_eq_false_iff_eq.mpr c6;clear c6;obtain ⟨t540, A7, H⟩ := bnd H;(try dsimp only at H);obtain rfl := Option.some.inj H;rotate_left;rw [if_neg c6] at H;have c6b0 : (a0_0 == 0) = false := beq_eq_false_iff_ne.mpr c6;have c6b1 : (a0_0 != 0) = true := bne_iff_ne.mpr c6;by_cases c14 : a0_0 = 1;rw [if_pos c14] at H;have c14b0 : (a0_0 == 1) = true := beq_iff_eq.mpr c14;have c14b1 : (a0_0 != 1) = false := bne_eq_false_iff_eq.mpr c14;clear c14;obtain ⟨t541, A15, H⟩ := bnd H;(try dsimp only at H);obtain ⟨t544, A16, H⟩ := bnd H;(try dsimp only at H);obtain rfl := Option.some.inj H
  ·go_enter Try.func50, Try.ntmps50
   try go_wp2_with (first | ((with_reducible refine gate_dst (N := 5) rfl ?_); refine boxM 5 #[.int .i64 a0_0, .int .i64 a0_1, .int .i64 a0_2, .int .i64 a0_3, .int .i64 a0_4, .int .i64 a0_5, .int .i64 a0_6, .slice A0_7 l0_7.length c0_7, .slice A0_8 l0_8.length c0_8] 46 ?_; intro gb538 hg w_ BK538 hb; obtain ⟨HB, GW538, GE538⟩ := box_at w hb hg; clear hb hg) | ((with_reducible refine gate_dst (N := 6) rfl ?_); refine boxM 6 #[.int .i64 a1_0, .int .i64 a1_1, .int .i64 a1_2, .slice A1_3 l1_3.length c1_3] 44 ?_; intro gb539 hg w18 BK539 hb; obtain ⟨HB, GW539, GE539⟩ := box_at w hb hg; obtain ⟨BK538, NB538_539, NB539_538⟩ := box_on gb538 hb hg; clear hb hg; have hn_ := ne2 NB538_539; have hcz_ := cells9 BK538.out))
   replace BK538 := am (blk_drew BK538.out);replace BK539 := am (blk_drew BK539.out);replace HB := am (below_drew1 HB.out)
   refine start_ (n := 9) (S := fun w' => w'.cell? ⟨gb538, 0, none⟩ = some (.int .i64 a0_0) ∧ w'.cell? ⟨gb538, 1, none⟩ = some (.int .i64 a0_1) ∧ w'.cell? ⟨gb538, 2, none⟩ = some (.int .i64 a0_2) ∧ w'.cell? ⟨gb538, 3, none⟩ = some (.int .i64 a0_3) ∧ w'.cell? ⟨gb538, 4, none⟩ = some (.int .i64 a0_4) ∧ w'.cell? ⟨gb538, 5, none⟩ = some (.int .i64 a0_5) ∧ w'.cell? ⟨gb538, 6, none⟩ = some (.int .i64 a0_6) ∧ w'.cell? ⟨gb538, 7, none⟩ = some (.slice A0_7 l0_7.length c0_7) ∧ w'.cell? ⟨gb538, 8, none⟩ = some (.slice A0_8 l0_8.length c0_8) ∧ w'.cell? ⟨gb539, 0, none⟩ = some (.int .i64 a1_0) ∧ w'.cell? ⟨gb539, 1, none⟩ = some (.int .i64 a1_1) ∧ w'.cell? ⟨gb539, 2, none⟩ = some (.int .i64 a1_2) ∧ w'.cell? ⟨gb539, 3, none⟩ = some (.slice A1_3 l1_3.length c1_3)) (ds := []) #[O, O, O, O, O, O, O, O, O] (by kernel_rfl) rfl rfl ⟨bc BK538 0, bc BK538 1, bc BK538 2, bc BK538 3, bc BK538 4, bc BK538 5, bc BK538 6, bc BK538 7, bc BK538 8, bc BK539 0, bc BK539 1, bc BK539 2, bc BK539 3⟩ (fun hHeld => ?_); refine with_tabW impl_Layer_item.tab5 impl_Layer_item.bits5 (fun HT_ HW_ => ?_)
   generalize w18.drew = w_ at BK538 BK539 HB hHeld ⊢
   refine stepP 3 (some 28) (tk 9 8) (any_of HT_.out (by kernel_rfl)) ?_
   refine stepP 4 (some 29) (tk 9 24) (any_of HT_.out (by kernel_rfl)) ?_
   refine stepP 6 (some 31) (tk 9 88) (any_of HT_.out (by kernel_rfl)) ?_
   refine stepT 0 (some 25) (tk 9 89) (take_ofW HT_.out HW_.out (by kernel_rfl)) hHeld ?_
   refine stepT 1 (some 26) (tk 9 91) (take_ofW HT_.out HW_.out (by kernel_rfl)) hHeld ?_
   refine stepT 2 (some 27) (tk 9 95) (take_ofW HT_.out HW_.out (by kernel_rfl)) hHeld ?_
   refine one_ (i := 5) (N := some 30) #[I, I, I, I, I, I, I, O, O] rfl rfl (one_of HT_.out (by kernel_rfl)) (by decide) (fun K hK => ?_)
   refine goes_ Try.func78 (by kernel_rfl) rfl #[.agg #[.int .i64 a0_0, .int .i64 a0_1, .int .i64 a0_2, .int .i64 a0_3, .int .i64 a0_4, .int .i64 a0_5, .int .i64 a0_6, .slice A0_7 l0_7.length c0_7, .slice A0_8 l0_8.length c0_8], .agg #[.int .i64 a1_0, .int .i64 a1_1, .int .i64 a1_2, .slice A1_3 l1_3.length c1_3], .int .i64 a2, .int .i64 a3, .int .i64 (-1)] (by rfl) rfl rfl (by (try simp only [List.map_toArray, List.map_cons, List.map_nil]); first | done | rfl | (simp only [List.length_drop, List.length_take]; rfl)) ?_
   with_reducible refine (impl_Layer_window.calls k a0_0 a0_1 a0_2 a0_3 a0_4 a0_5 a0_6 _ _ l0_7 _ _ l0_8 a1_0 a1_1 a1_2 _ _ l1_3 a2 a3 (-1) t541 _ ?side1 ?side2 ?side3 ?side4 ?side5 ?side6 A15.out).mono ?_
   (case side1 => exact C_now HR0_7.out)
   (case side2 => exact HC0_7.out)
   (case side3 => exact C_now HR0_8.out)
   (case side4 => exact HC0_8.out)
   (case side5 => exact C_now HR1_3.out)
   (case side6 => exact HC1_3.out)
   rintro e w_ ⟨v542, rfl, ho0, hb⟩
   refine ⟨_, rfl, ?_⟩
   have n0_ := am (Kd.R_lower ho0 (below_size bel_now));replace BK538 := blk_on gb538 hb;replace BK539 := blk_on gb539 hb;replace HB := bel_on w hb;have HO543 := n0_;clear n0_;(try clear hb);(try clear hb2);(try clear hb3);(try clear hk);(try clear hi);(try clear ho0);obtain ⟨Ao23, co23, eo23⟩ := Kd.R_slice HO543.out
   (first | subst eo23 | (injection eo23 with f1_ f2_ f3_; have f4_ := f1_.symm; have f5_ := f3_.symm; clear f1_ f2_ f3_; subst f4_; subst f5_))
   refine hK.out _ _ ⟨bc BK538 0, bc BK538 1, bc BK538 2, bc BK538 3, bc BK538 4, bc BK538 5, bc BK538 6, bc BK538 7, bc BK538 8, bc BK539 0, bc BK539 1, bc BK539 2, bc BK539 3⟩ (fun hHeld => ?_)
   clear hK K
   refine normP 30 ?_
   refine one_ (i := 7) (N := some 32) #[I, I, I, I, I, I, I, I, O] rfl rfl (one_of HT_.out (by kernel_rfl)) (by decide) (fun K hK => ?_)
   refine goes_ Try.func77 (by kernel_rfl) rfl #[.agg #[.int .i64 a0_0, .int .i64 a0_1, .int .i64 a0_2, .int .i64 a0_3, .int .i64 a0_4, .int .i64 a0_5, .int .i64 a0_6, .slice A0_7 l0_7.length c0_7, .slice A0_8 l0_8.length c0_8], .slice Ao23 t541.length co23, .int .i64 a4] (by rfl) rfl rfl (by (try simp only [List.map_toArray, List.map_cons, List.map_nil]); first | done | rfl | (simp only [List.length_drop, List.length_take]; rfl)) ?_
   with_reducible refine (impl_Layer_scaled.calls k a0_0 a0_1 a0_2 a0_3 a0_4 a0_5 a0_6 _ _ l0_7 _ _ l0_8 _ _ t541 a4 t544 _ ?side1 ?side2 ?side3 ?side4 ?side5 ?side6 A16.out).mono ?_
   (case side1 => exact C_now HR0_7.out)
   (case side2 => exact HC0_7.out)
   (case side3 => exact C_now HR0_8.out)
   (case side4 => exact HC0_8.out)
   (case side5 => exact (Kd.R_reads' (R_at HO543.out)).2.2)
   (case side6 => exact (Kd.R_reads' HO543.out).2.1)
   rintro e w_ ⟨rfl, hb⟩
   refine ⟨_, rfl, ?_⟩
   replace HO543 := am (Kd.R_below (R_at HO543.out) hb);replace BK538 := blk_on gb538 hb;replace BK539 := blk_on gb539 hb;replace HB := bel_on w hb;(try clear hb);(try clear hb2);(try clear hb3);(try clear hk);(try clear hi)
   refine hK.out _ _ ⟨bc BK538 0, bc BK538 1, bc BK538 2, bc BK538 3, bc BK538 4, bc BK538 5, bc BK538 6, bc BK538 7, bc BK538 8, bc BK539 0, bc BK539 1, bc BK539 2, bc BK539 3⟩ (fun hHeld => ?_)
   clear hK K
   refine normP 32 ?_
   refine stepP 8 (some 10) (tk 9 511) (any_of HT_.out (by kernel_rfl)) ?_
   refine done_ (done_of HT_.out (by kernel_rfl)) ?_
   try go_wp2
   go_ret
   exact ⟨eqN, bel_now⟩
  rw [if_neg c14] at H;have c14b0 : (a0_0 == 1) = false := beq_eq_false_iff_ne.mpr c14;have c14b1 : (a0_0 != 1) = true := bne_iff_ne.mpr c14;by_cases c25 : a0_0 = 2;rw [if_pos c25] at H;have c25b0 : (a0_0 == 2) = true := beq_iff_eq.mpr c25;have c25b1 : (a0_0 != 2) = false := bne_eq_false_iff_eq.mpr c25;clear c25;obtain ⟨t545, A26, H⟩ := bnd H;(try dsimp only at H);obtain ⟨t548, A27, H⟩ := bnd H;(try dsimp only at H);obtain rfl := Option.some.inj H;rotate_left;rw [if_neg c25] at H;have c25b0 : (a0_0 == 2) = false := beq_eq_false_iff_ne.mpr c25;have c25b1 : (a0_0 != 2) = true := bne_iff_ne.mpr c25;by_cases c36 : a0_0 = 3;rw [if_pos c36] at H;have c36b0 : (a0_0 == 3) = true := beq_iff_eq.mpr c36;have c36b1 : (a0_0 != 3) = false := bne_eq_false_iff_eq.mpr c36;clear c36;obtain ⟨t549, A37, H⟩ := bnd H;(try dsimp only at H);have H' := am H;clear H;rotate_left;rw [if_neg c36] at H;have c36b0 : (a0_0 == 3) = false := beq_eq_false_iff_ne.mpr c36;have c36b1 : (a0_0 != 3) = true := bne_iff_ne.mpr c36;by_cases c51 : a0_0 = 4
  case' neg => skip
  rw [if_neg c51] at H;have c51b0 : (a0_0 == 4) = false := beq_eq_false_iff_ne.mpr c51;have c51b1 : (a0_0 != 4) = true := bne_iff_ne.mpr c51;obtain ⟨c62, H⟩ := gd H;have c62b0 : decide (0 ≤ a4) = true := decide_eq_true c62;clear c62;obtain ⟨c63, H⟩ := gd H;have c63b0 : decide (a4 < (l1_3.length : Int)) = true := decide_eq_true c63;clear c63;obtain rfl := Option.some.inj H;rotate_left;rw [if_pos c51] at H;have c51b0 : (a0_0 == 4) = true := beq_iff_eq.mpr c51;have c51b1 : (a0_0 != 4) = false := bne_eq_false_iff_eq.mpr c51;clear c51;obtain ⟨t554, A52, H⟩ := bnd H;(try dsimp only at H);obtain ⟨c53, H⟩ := gd H;have c53b0 : decide (0 ≤ t554) = true := decide_eq_true c53;clear c53;obtain ⟨c54, H⟩ := gd H;have c54b0 : decide (t554 < (l1_3.length : Int)) = true := decide_eq_true c54;clear c54;obtain ⟨ji55, hji55⟩ : ∃ j_ : Int, (mx (rd l1_3 t554) a0_6) = j_ := ⟨_, rfl⟩;replace H : (some ji55) = some r := by first | (rw [hji55] at H; exact H) | (simp only [hji55] at H ⊢; exact H)
  (try rw [hji55] at A52);have hji55_ : (if (rd l1_3 t554) < a0_6 then a0_6 else (rd l1_3 t554)) = ji55 := hji55;obtain rfl := Option.some.inj H
  ·go_enter Try.func50, Try.ntmps50
   try go_wp2_with (first | ((with_reducible refine gate_dst (N := 5) rfl ?_); refine boxM 5 #[.int .i64 a0_0, .int .i64 a0_1, .int .i64 a0_2, .int .i64 a0_3, .int .i64 a0_4, .int .i64 a0_5, .int .i64 a0_6, .slice A0_7 l0_7.length c0_7, .slice A0_8 l0_8.length c0_8] 46 ?_; intro gb538 hg w_ BK538 hb; obtain ⟨HB, GW538, GE538⟩ := box_at w hb hg; clear hb hg) | ((with_reducible refine gate_dst (N := 6) rfl ?_); refine boxM 6 #[.int .i64 a1_0, .int .i64 a1_1, .int .i64 a1_2, .slice A1_3 l1_3.length c1_3] 44 ?_; intro gb539 hg w57 BK539 hb; obtain ⟨HB, GW539, GE539⟩ := box_at w hb hg; obtain ⟨BK538, NB538_539, NB539_538⟩ := box_on gb538 hb hg; clear hb hg; have hn_ := ne2 NB538_539; have hcz_ := cells9 BK538.out))
   replace BK538 := am (blk_drew BK538.out);replace BK539 := am (blk_drew BK539.out);replace HB := am (below_drew1 HB.out);have p555 : 0 ≤ (t554 : Int) := of_decide_eq_true (by first | (with_reducible assumption) | assumption);have q555 : t554 < (l1_3.length : Int) := of_decide_eq_true (by first | (with_reducible assumption) | assumption);obtain ⟨ad555, e555, hx555_0⟩ := Kd.at_int HR1_3.out t554 p555 q555;have hw555_0 := hx555_0;cases e555;replace hx555_0 := (HB.out.cell (World.block_lt_of_cell? w _ hx555_0)).trans hx555_0;replace p555 := eq_true p555;replace q555 := eq_true q555
   refine start_ (n := 14) (S := fun w' => w'.cell? ⟨gb539, 0, none⟩ = some (.int .i64 a1_0) ∧ w'.cell? ⟨gb539, 1, none⟩ = some (.int .i64 a1_1) ∧ w'.cell? ⟨gb539, 2, none⟩ = some (.int .i64 a1_2) ∧ w'.cell? ⟨gb539, 3, none⟩ = some (.slice (some ad555) l1_3.length c1_3) ∧ w'.cell? ⟨gb538, 0, none⟩ = some (.int .i64 a0_0) ∧ w'.cell? ⟨gb538, 1, none⟩ = some (.int .i64 a0_1) ∧ w'.cell? ⟨gb538, 2, none⟩ = some (.int .i64 a0_2) ∧ w'.cell? ⟨gb538, 3, none⟩ = some (.int .i64 a0_3) ∧ w'.cell? ⟨gb538, 4, none⟩ = some (.int .i64 a0_4) ∧ w'.cell? ⟨gb538, 5, none⟩ = some (.int .i64 a0_5) ∧ w'.cell? ⟨gb538, 6, none⟩ = some (.int .i64 a0_6) ∧ w'.cell? ⟨gb538, 7, none⟩ = some (.slice A0_7 l0_7.length c0_7) ∧ w'.cell? ⟨gb538, 8, none⟩ = some (.slice A0_8 l0_8.length c0_8) ∧ w'.cell? (ad555.add (t554).toNat) = some (.int .i64 (rd l1_3 t554))) (ds := []) #[O, O, O, O, O, O, O, O, O, O, O, O, O, O] (by kernel_rfl) rfl rfl ⟨bc BK539 0, bc BK539 1, bc BK539 2, bc BK539 3, bc BK538 0, bc BK538 1, bc BK538 2, bc BK538 3, bc BK538 4, bc BK538 5, bc BK538 6, bc BK538 7, bc BK538 8, ((HB.out.cell (World.block_lt_of_cell? w _ hw555_0)).trans hw555_0)⟩ (fun hHeld => ?_); refine with_tabW impl_Layer_item.tab17 impl_Layer_item.bits17 (fun HT_ HW_ => ?_)
   generalize w57.drew = w_ at BK538 BK539 HB hx555_0 hHeld ⊢
   refine stepP 0 (some 68) (tk 14 1) (any_of HT_.out (by kernel_rfl)) ?_
   refine stepP 2 (some 70) (tk 14 5) (any_of HT_.out (by kernel_rfl)) ?_
   refine stepP 4 (some 72) (tk 14 21) (any_of HT_.out (by kernel_rfl)) ?_
   refine stepP 5 (some 73) (tk 14 53) (any_of HT_.out (by kernel_rfl)) ?_
   refine stepP 6 (some 74) (tk 14 117) (any_of HT_.out (by kernel_rfl)) ?_
   refine stepP 10 (some 78) (tk 14 1141) (any_of HT_.out (by kernel_rfl)) ?_
   refine stepT 1 (some 69) (tk 14 1143) (take_ofW HT_.out HW_.out (by kernel_rfl)) hHeld ?_
   refine stepT 3 (some 71) (tk 14 1151) (take_ofW HT_.out HW_.out (by kernel_rfl)) hHeld ?_
   refine stepT 11 (some 79) (tk 14 3199) (take_ofW HT_.out HW_.out (by kernel_rfl)) hHeld ?_
   refine one_ (i := 7) (N := some 75) #[I, I, I, I, I, I, I, I, O, O, I, I, O, O] rfl rfl (one_of HT_.out (by kernel_rfl)) (by decide) (fun K hK => ?_)
   refine goes_ Try.func81 (by kernel_rfl) rfl #[.agg #[.int .i64 a1_0, .int .i64 a1_1, .int .i64 a1_2], .int .i64 a2, .int .i64 a3, .int .i64 a4] (by rfl) rfl rfl (by (try simp only [List.map_toArray, List.map_cons, List.map_nil]); first | done | rfl | (simp only [List.length_drop, List.length_take]; rfl)) ?_
   with_reducible refine (impl_Shape_place.calls a1_0 a1_1 a1_2 a2 a3 a4 t554 _ A52.out).mono ?_
   rintro e w_ ⟨rfl, hb⟩
   refine ⟨_, rfl, ?_⟩
   replace BK538 := blk_on gb538 hb;replace BK539 := blk_on gb539 hb;replace HB := bel_on w hb;(try clear hb);(try clear hb2);(try clear hb3);(try clear hk);(try clear hi)
   refine hK.out _ _ ⟨bc BK539 0, bc BK539 1, bc BK539 2, bc BK539 3, bc BK538 0, bc BK538 1, bc BK538 2, bc BK538 3, bc BK538 4, bc BK538 5, bc BK538 6, bc BK538 7, bc BK538 8, ((HB.out.cell (World.block_lt_of_cell? w _ hw555_0)).trans hw555_0)⟩ (fun hHeld => ?_)
   clear hK K
   refine normP 75 ?_
   refine stepP 8 (some 76) (tk 14 3583) (any_of HT_.out (by kernel_rfl)) ?_
   refine stepT 9 (some 77) (tk 14 4095) (take_ofW HT_.out HW_.out (by kernel_rfl)) hHeld ?_
   refine stepP 12 (some 80) (tk 14 8191) (any_of HT_.out (by kernel_rfl)) ?_
   refine stepP 13 (some 10) (tk 14 16383) (any_of HT_.out (by kernel_rfl)) ?_
   refine done_ (done_of HT_.out (by kernel_rfl)) ?_
   try go_wp2
   go_ret
   exact ⟨by first | rfl | (simp [errW_none, errW_some] <;> rfl) | (simp only [← hji55]; first | rfl | (simp [errW_none, errW_some] <;> rfl)) | (simp [*, errW_none, errW_some] <;> rfl), bel_now⟩
  all_goals (go_enter Try.func50, Try.ntmps50; go_wp2_with (first | ((with_reducible refine gate_dst (N := 5) rfl ?_); refine boxM 5 #[.int .i64 a0_0, .int .i64 a0_1, .int .i64 a0_2, .int .i64 a0_3, .int .i64 a0_4, .int .i64 a0_5, .int .i64 a0_6, .slice A0_7 l0_7.length c0_7, .slice A0_8 l0_8.length c0_8] 46 ?_; intro gb538 hg w_ BK538 hb; obtain ⟨HB, GW538, GE538⟩ := box_at w hb hg; clear hb hg) | ((with_reducible refine gate_dst (N := 6) rfl ?_); refine boxM 6 #[.int .i64 a1_0, .int .i64 a1_1, .int .i64 a1_2, .slice A1_3 l1_3.length c1_3] 44 ?_; intro gb539 hg w_ BK539 hb; obtain ⟨HB, GW539, GE539⟩ := box_at w hb hg; obtain ⟨BK538, NB538_539, NB539_538⟩ := box_on gb538 hb hg; clear hb hg; (try (have p556 : 0 ≤ (a4 : Int) := of_decide_eq_true (by first | (with_reducible assumption) | assumption); have q556 : a4 < (l1_3.length : Int) := of_decide_eq_true (by first | (with_reducible assumption) | assumption); obtain ⟨ad556, e556, hx556_0⟩ := Kd.at_int HR1_3.out a4 p556 q556; cases e556; replace hx556_0 := (HB.out.cell (World.block_lt_of_cell? w _ hx556_0)).trans hx556_0; replace p556 := eq_true p556; replace q556 := eq_true q556)); have hn_ := ne2 NB538_539; have hcz_ := cells9 BK538.out; have hcz_ := cells4 BK539.out; have hcz41 := cells9 BK538.out; have hcz42 := cells4 BK539.out) | ((with_reducible refine gate_callee (f := 77) rfl ?_); refine gM 22 Try.func77 #[.agg #[.int .i64 a0_0, .int .i64 a0_1, .int .i64 a0_2, .int .i64 a0_3, .int .i64 a0_4, .int .i64 a0_5, .int .i64 a0_6, .slice A0_7 l0_7.length c0_7, .slice A0_8 l0_8.length c0_8], .slice A1_3 l1_3.length c1_3, .int .i64 a4] rfl ?_; (with_reducible refine (impl_Layer_scaled.calls k a0_0 a0_1 a0_2 a0_3 a0_4 a0_5 a0_6 _ _ l0_7 _ _ l0_8 _ _ l1_3 a4 t540 _ ?side1 HC0_7.out ?side3 HC0_8.out ?side5 HC1_3.out A7.out).mono ?_); (case side1 => exact C_now HR0_7.out); (case side3 => exact C_now HR0_8.out); (case side5 => exact C_now HR1_3.out); rintro e w_ ⟨rfl, hb⟩; refine ⟨_, rfl, ?_⟩; replace HB := bel_on w hb; replace BK538 := blk_on gb538 hb; replace BK539 := blk_on gb539 hb; (try clear hb); (try clear hb2); (try clear hb3); (try clear hk); (try clear hi)) | ((with_reducible refine gate_callee (f := 78) rfl ?_); refine gM 40 Try.func78 #[.agg #[.int .i64 a0_0, .int .i64 a0_1, .int .i64 a0_2, .int .i64 a0_3, .int .i64 a0_4, .int .i64 a0_5, .int .i64 a0_6, .slice A0_7 l0_7.length c0_7, .slice A0_8 l0_8.length c0_8], .agg #[.int .i64 a1_0, .int .i64 a1_1, .int .i64 a1_2, .slice A1_3 l1_3.length c1_3], .int .i64 a2, .int .i64 a3, .int .i64 a4] rfl ?_; (with_reducible refine (impl_Layer_window.calls k a0_0 a0_1 a0_2 a0_3 a0_4 a0_5 a0_6 _ _ l0_7 _ _ l0_8 a1_0 a1_1 a1_2 _ _ l1_3 a2 a3 a4 t545 _ ?side1 HC0_7.out ?side3 HC0_8.out ?side5 HC1_3.out A26.out).mono ?_); (case side1 => exact C_now HR0_7.out); (case side3 => exact C_now HR0_8.out); (case side5 => exact C_now HR1_3.out); rintro e w_ ⟨v546, rfl, ho0, hb⟩; refine ⟨_, rfl, ?_⟩; have n0_ := am (Kd.R_lower ho0 (below_size bel_now)); replace HB := bel_on w hb; replace BK538 := blk_on gb538 hb; replace BK539 := blk_on gb539 hb; have HO547 := n0_; clear n0_; (try clear hb); (try clear hb2); (try clear hb3); (try clear hk); (try clear hi); (try clear ho0); obtain ⟨Ao34, co34, eo34⟩ := Kd.R_slice HO547.out; subst eo34) | ((with_reducible refine gate_callee (f := 79) rfl ?_); refine gM 41 Try.func79 #[.slice Ao34 t545.length co34] rfl ?_; (with_reducible refine (slices_Max_int_int.calls k _ _ t545 t548 _ ?side1 ?side2 A27.out).mono ?_); (case side1 => exact (Kd.R_reads' (R_at HO547.out)).2.2); (case side2 => exact (Kd.R_reads' HO547.out).2.1); rintro e w_ ⟨rfl, hb⟩; refine ⟨_, rfl, ?_⟩; replace HO547 := am (Kd.R_below (R_at HO547.out) hb); replace HB := bel_on w hb; replace BK538 := blk_on gb538 hb; replace BK539 := blk_on gb539 hb; (try clear hb); (try clear hb2); (try clear hb3); (try clear hk); (try clear hi)) | ((with_reducible refine gate_callee (f := 78) rfl ?_); refine gM 49 Try.func78 #[.agg #[.int .i64 a0_0, .int .i64 a0_1, .int .i64 a0_2, .int .i64 a0_3, .int .i64 a0_4, .int .i64 a0_5, .int .i64 a0_6, .slice A0_7 l0_7.length c0_7, .slice A0_8 l0_8.length c0_8], .agg #[.int .i64 a1_0, .int .i64 a1_1, .int .i64 a1_2, .slice A1_3 l1_3.length c1_3], .int .i64 a2, .int .i64 a3, .int .i64 a4] rfl ?_; (with_reducible refine (impl_Layer_window.calls k a0_0 a0_1 a0_2 a0_3 a0_4 a0_5 a0_6 _ _ l0_7 _ _ l0_8 a1_0 a1_1 a1_2 _ _ l1_3 a2 a3 a4 t549 _ ?side1 HC0_7.out ?side3 HC0_8.out ?side5 HC1_3.out A37.out).mono ?_); (case side1 => exact C_now HR0_7.out); (case side3 => exact C_now HR0_8.out); (case side5 => exact C_now HR1_3.out); rintro e w_ ⟨v550, rfl, ho0, hb⟩; refine ⟨_, rfl, ?_⟩; have n0_ := am (Kd.R_lower ho0 (below_size bel_now)); replace HB := bel_on w hb; replace BK538 := blk_on gb538 hb; replace BK539 := blk_on gb539 hb; have HO551 := n0_; clear n0_; (try clear hb); (try clear hb2); (try clear hb3); (try clear hk); (try clear hi); (try clear ho0); obtain ⟨Ao44, co44, eo44⟩ := Kd.R_slice HO551.out; subst eo44)))
  ·go_ret
   exact ⟨eqN, bel_now⟩
  ·go_ret
   exact ⟨eqN, bel_now⟩
  ·go_loopg [11, 51] k (fun kq v11 v51 w' => ∃ (x11_1 : Int) (x51_1 : Int), v11 = .int .i64 x11_1 ∧ v51 = .int .i64 x51_1 ∧ Aside0 (impl_Layer_item.l0 kq x11_1 t549 (t549.length : Int) x51_1 a0_0 a0_1 a0_2 a0_3 a0_4 a0_5 a0_6 l0_7 l0_8 = some r) ∧ Aside0 (kq ≤ k) ∧ Aside0 (Kd.R (Kd.int .i64) 3 w' w.heap.size (fun _ => True) (.slice Ao44 t549.length co44) t549) ∧ Aside0 (w'.heap[gb538]? = some (.cells #[.int .i64 a0_0, .int .i64 a0_1, .int .i64 a0_2, .int .i64 a0_3, .int .i64 a0_4, .int .i64 a0_5, .int .i64 a0_6, (.slice A0_7 l0_7.length c0_7), (.slice A0_8 l0_8.length c0_8)] 46 (0, 0))) ∧ Aside0 (w'.heap[gb539]? = some (.cells #[.int .i64 a1_0, .int .i64 a1_1, .int .i64 a1_2, (.slice A1_3 l1_3.length c1_3)] 44 (0, 0))) ∧ Aside0 (Below w.heap.size w w'))
   case atStart => exact ⟨(0), (0), pv, pv, H', ⟨Nat.le_refl _⟩, ⟨R_at HO551.out⟩, ⟨bks BK538⟩, ⟨bks BK539⟩, ⟨bel_now⟩⟩
   case round =>
    clear H';try clear c6
    try clear c6b0
    try clear c6b1
    try clear c14
    try clear c14b0
    try clear c14b1
    try clear c25
    try clear c25b0
    try clear c25b1
    try clear c36
    try clear c36b0
    try clear c36b1
    try clear hcz41
    try clear hcz42
    obtain ⟨x11_1, x51_1, rfl, rfl, HA, HK1, HO_49, BK538, BK539, HB⟩ := hrel
    cases gk with
    | zero => exact absurd HA.out (by simp [impl_Layer_item.l0])
    | succ k1 =>
     have H := HA.out;clear HA;simp only [impl_Layer_item.l0] at H;by_cases c45 : x51_1 < (t549.length : Int);rotate_left
     ·rw [if_neg c45] at H;have c45b0 : decide (x51_1 < (t549.length : Int)) = false := decide_eq_false c45;clear c45;obtain ⟨t553, A48, H⟩ := bnd H;(try dsimp only at H);obtain rfl := Option.some.inj H;have hn_ := ne2 NB538_539;have hcz_ := cells9 BK538.out
      go_wp2_with (first | ((with_reducible refine gate_callee (f := 80) rfl ?_); refine gM 65 Try.func80 #[.int .i64 x11_1, .int .i64 (wrap64 (a0_2 * a0_2))] rfl ?_; (with_reducible refine (impl_rounded.calls k1 x11_1 (wrap64 (a0_2 * a0_2)) t553 _ A48.out).mono ?_); rintro e w' ⟨rfl, ⟨nd, rfl⟩⟩; refine ⟨_, rfl, ?_⟩))
      go_ret
      exact ⟨eqN, bel_now⟩
     rw [if_pos c45] at H;have c45b0 : decide (x51_1 < (t549.length : Int)) = true := decide_eq_true c45;clear c45;obtain ⟨c46, H⟩ := gd H;have c46b0 : decide (0 ≤ x51_1) = true := decide_eq_true c46;clear c46;obtain ⟨c47, H⟩ := gd H;have c47b0 : decide (x51_1 < (t549.length : Int)) = true := decide_eq_true c47;clear c47;have H' := am H;clear H;have p552 : 0 ≤ (x51_1 : Int) := of_decide_eq_true (by first | (with_reducible assumption) | assumption);have q552 : x51_1 < (t549.length : Int) := of_decide_eq_true (by first | (with_reducible assumption) | assumption);obtain ⟨ad552, e552, hx552_0⟩ := Kd.at_int (Kd.R_reads' HO_49.out).2.2 x51_1 p552 q552;cases e552;replace p552 := eq_true p552;replace q552 := eq_true q552
     go_wp2
     go_roundg k1
     case measure => have := HK1.out; omega
     case rel => exact ⟨(wrap64 (x11_1 + (rd t549 x51_1))), (wrap64 (x51_1 + 1)), pv, pv, H', ⟨by have := HK1.out; omega⟩, ⟨R_at HO_49.out⟩, ⟨bks BK538⟩, ⟨bks BK539⟩, ⟨bel_now⟩⟩
  ·go_ret
   exact ⟨eqN, bel_now⟩

end Go.Proofs.Ytjmejobelkllmaa.PFnOneWeight
