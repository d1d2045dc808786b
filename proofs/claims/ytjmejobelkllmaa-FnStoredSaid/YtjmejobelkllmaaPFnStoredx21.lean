import Derived.Test.YtjmejobelkllmaaPFnStoredx0
import Derived.Test.YtjmejobelkllmaaPFnStoredx13
import Derived.Test.YtjmejobelkllmaaPFnStoredx20
namespace Go.Proofs.Ytjmejobelkllmaa.PFnStored
open Go.RowKit Go.Proofs.YtjmejobelkllmaaW.PrintWords Go.Proofs.YtjmejobelkllmaaW.PrintLast Go.Proofs.YtjmejobelkllmaaW.PrintMore
attribute [local go_sem] max2_int min2_int max_two min_two max_three min_three max_four min_four
set_option maxHeartbeats 8000000
set_option maxRecDepth 100000
set_option linter.unusedVariables false
set_option linter.unusedSimpArgs false

def impl_SameLayer.f (k : Nat) (a0_0 : Int) (a0_1 : Int) (a0_2 : Int) (a0_3 : Int) (a0_4 : Int) (a0_5 : Int) (a0_6 : Int) (l0_7 : List Int) (l0_8 : List Int) (a1_0 : Int) (a1_1 : Int) (a1_2 : Int) (a1_3 : Int) (a1_4 : Int) (a1_5 : Int) (a1_6 : Int) (l1_7 : List Int) (l1_8 : List Int) : Option (Bool) := (impl_Layer_numbers.f a0_0 a0_1 a0_2 a0_3 a0_4 a0_5 a0_6 l0_7 l0_8).bind fun t685 => ((impl_Layer_numbers.f a1_0 a1_1 a1_2 a1_3 a1_4 a1_5 a1_6 l1_7 l1_8).bind fun t688 => ((slices_Equal_int_int.f k t685 t688).bind fun t691 => (if t691 = true then ((slices_Equal_int_int.f k l0_7 l1_7).bind fun t692 => (if t692 = true then ((slices_Equal_int_int.f k l0_8 l1_8).bind fun t693 => (some t693)) else (some false))) else (some false))))
def impl_SameLayer.T1 : Bool × List (List Nat × List Nat) := (true, [([], []), ([0], [0]), ([], []), ([2, 1], [2]), ([1, 3, 3], [1, 3]), ([4, 4], [4]), ([5], [5]), ([6, 5], [5, 6]), ([5], [5]), ([8, 5], [5, 8]), ([7, 9, 5, 5], [5, 7, 9]), ([5, 10], [5, 10]), ([11, 10], [11]), ([12], [12]), ([13, 12], [12, 13]), ([12], [12]), ([15, 12], [12, 15]), ([14, 16, 12, 12], [12, 14, 16]), ([12, 17], [12, 17]), ([18, 17, 0, 1, 2, 3, 4, 5, 6, 7, 8, 9, 10, 11, 12, 13, 14, 15, 16, 17, 18], [18])])
def impl_SameLayer.B1 : List Nat := [0, 1, 0, 7, 15, 31, 63, 127, 63, 319, 1023, 2047, 4095, 8191, 16383, 8191, 40959, 131071, 262143, 524287]
theorem impl_SameLayer.tab1 : rtab .any (opsOf Try.f40 1) = impl_SameLayer.T1 := by kernel_rfl
theorem impl_SameLayer.bits1 : waitsOk impl_SameLayer.T1.2 impl_SameLayer.B1 = true := by kernel_rfl
theorem impl_SameLayer.calls (k : Nat) (a0_0 : Int) (a0_1 : Int) (a0_2 : Int) (a0_3 : Int) (a0_4 : Int) (a0_5 : Int) (a0_6 : Int) (A0_7 : Option Addr) (c0_7 : Nat) (l0_7 : List Int) (A0_8 : Option Addr) (c0_8 : Nat) (l0_8 : List Int) (a1_0 : Int) (a1_1 : Int) (a1_2 : Int) (a1_3 : Int) (a1_4 : Int) (a1_5 : Int) (a1_6 : Int) (A1_7 : Option Addr) (c1_7 : Nat) (l1_7 : List Int) (A1_8 : Option Addr) (c1_8 : Nat) (l1_8 : List Int) (r : Bool) (w : World) (hr0_7 : Kd.C (Kd.int .i64) w A0_7 l0_7.length l0_7) (hc0_7 : l0_7.length ≤ c0_7) (hr0_8 : Kd.C (Kd.int .i64) w A0_8 l0_8.length l0_8) (hc0_8 : l0_8.length ≤ c0_8) (hr1_7 : Kd.C (Kd.int .i64) w A1_7 l1_7.length l1_7) (hc1_7 : l1_7.length ≤ c1_7) (hr1_8 : Kd.C (Kd.int .i64) w A1_8 l1_8.length l1_8) (hc1_8 : l1_8.length ≤ c1_8) (h : impl_SameLayer.f k a0_0 a0_1 a0_2 a0_3 a0_4 a0_5 a0_6 l0_7 l0_8 a1_0 a1_1 a1_2 a1_3 a1_4 a1_5 a1_6 l1_7 l1_8 = some r) :
   Calls Try.prog 40 #[.agg #[.int .i64 a0_0, .int .i64 a0_1, .int .i64 a0_2, .int .i64 a0_3, .int .i64 a0_4, .int .i64 a0_5, .int .i64 a0_6, .slice A0_7 l0_7.length c0_7, .slice A0_8 l0_8.length c0_8], .agg #[.int .i64 a1_0, .int .i64 a1_1, .int .i64 a1_2, .int .i64 a1_3, .int .i64 a1_4, .int .i64 a1_5, .int .i64 a1_6, .slice A1_7 l1_7.length c1_7, .slice A1_8 l1_8.length c1_8]] w fun e w' => e = .returned (.bool r) ∧ Below w.heap.size w w' := by
  have hu46 := Try.underlying46;have HR0_7 := am hr0_7;have HC0_7 := am hc0_7;clear hr0_7 hc0_7;have HR0_8 := am hr0_8;have HC0_8 := am hc0_8;clear hr0_8 hc0_8;have HR1_7 := am hr1_7;have HC1_7 := am hc1_7;clear hr1_7 hc1_7;have HR1_8 := am hr1_8;have HC1_8 := am hc1_8;clear hr1_8 hc1_8;have HB := am (Below.refl w.heap.size w);have H : ((impl_Layer_numbers.f a0_0 a0_1 a0_2 a0_3 a0_4 a0_5 a0_6 l0_7 l0_8).bind fun t685 => ((impl_Layer_numbers.f a1_0 a1_1 a1_2 a1_3 a1_4 a1_5 a1_6 l1_7 l1_8).bind fun t688 => ((slices_Equal_int_int.f k t685 t688).bind fun t691 => (if t691 = true then ((slices_Equal_int_int.f k l0_7 l1_7).bind fun t692 => (if t692 = true then ((slices_Equal_int_int.f k l0_8 l1_8).bind fun t693 => (some t693)) else (some false))) else (some false))))) = some r := h;clear h;obtain ⟨t685, A3, H⟩ := bnd H;(try dsimp only at H);obtain ⟨t688, A4, H⟩ := bnd H;(try dsimp only at H);obtain ⟨t691, A5, H⟩ := bnd H;(try dsimp only at H);by_cases c6 : t691 = true;rotate_left
  ·replace c6 := Bool.eq_false_iff.mpr c6;subst c6
   rw [if_neg (show ¬ (false = true) by decide)] at H
   obtain rfl := Option.some.inj H
   go_enter Try.func40, Try.ntmps40
   try go_wp2_with (first | ((with_reducible refine gate_dst (N := 2) rfl ?_); refine boxM 2 #[.int .i64 a0_0, .int .i64 a0_1, .int .i64 a0_2, .int .i64 a0_3, .int .i64 a0_4, .int .i64 a0_5, .int .i64 a0_6, .slice A0_7 l0_7.length c0_7, .slice A0_8 l0_8.length c0_8] 46 ?_; intro gb683 hg w24 BK683 hb; obtain ⟨HB, GW683, GE683⟩ := box_at w hb hg; clear hb hg) | ((with_reducible refine gate_dst (N := 3) rfl ?_); refine boxM 3 #[.int .i64 a1_0, .int .i64 a1_1, .int .i64 a1_2, .int .i64 a1_3, .int .i64 a1_4, .int .i64 a1_5, .int .i64 a1_6, .slice A1_7 l1_7.length c1_7, .slice A1_8 l1_8.length c1_8] 46 ?_; intro gb684 hg w25 BK684 hb; obtain ⟨HB, GW684, GE684⟩ := box_at w hb hg; obtain ⟨BK683, NB683_684, NB684_683⟩ := box_on gb683 hb hg; clear hb hg))
   replace BK683 := am (blk_drew BK683.out);replace BK684 := am (blk_drew BK684.out);replace HB := am (below_drew1 HB.out)
   refine start_ (n := 20) (S := fun w' => w'.cell? ⟨gb683, 0, none⟩ = some (.int .i64 a0_0) ∧ w'.cell? ⟨gb683, 1, none⟩ = some (.int .i64 a0_1) ∧ w'.cell? ⟨gb683, 2, none⟩ = some (.int .i64 a0_2) ∧ w'.cell? ⟨gb683, 3, none⟩ = some (.int .i64 a0_3) ∧ w'.cell? ⟨gb683, 4, none⟩ = some (.int .i64 a0_4) ∧ w'.cell? ⟨gb683, 5, none⟩ = some (.int .i64 a0_5) ∧ w'.cell? ⟨gb683, 6, none⟩ = some (.int .i64 a0_6) ∧ w'.cell? ⟨gb683, 7, none⟩ = some (.slice A0_7 l0_7.length c0_7) ∧ w'.cell? ⟨gb683, 8, none⟩ = some (.slice A0_8 l0_8.length c0_8) ∧ w'.cell? ⟨gb684, 0, none⟩ = some (.int .i64 a1_0) ∧ w'.cell? ⟨gb684, 1, none⟩ = some (.int .i64 a1_1) ∧ w'.cell? ⟨gb684, 2, none⟩ = some (.int .i64 a1_2) ∧ w'.cell? ⟨gb684, 3, none⟩ = some (.int .i64 a1_3) ∧ w'.cell? ⟨gb684, 4, none⟩ = some (.int .i64 a1_4) ∧ w'.cell? ⟨gb684, 5, none⟩ = some (.int .i64 a1_5) ∧ w'.cell? ⟨gb684, 6, none⟩ = some (.int .i64 a1_6) ∧ w'.cell? ⟨gb684, 7, none⟩ = some (.slice A1_7 l1_7.length c1_7) ∧ w'.cell? ⟨gb684, 8, none⟩ = some (.slice A1_8 l1_8.length c1_8)) (ds := []) #[O, O, O, O, O, O, O, O, O, O, O, O, O, O, O, O, O, O, O, O] (by kernel_rfl) rfl rfl ⟨bc BK683 0, bc BK683 1, bc BK683 2, bc BK683 3, bc BK683 4, bc BK683 5, bc BK683 6, bc BK683 7, bc BK683 8, bc BK684 0, bc BK684 1, bc BK684 2, bc BK684 3, bc BK684 4, bc BK684 5, bc BK684 6, bc BK684 7, bc BK684 8⟩ (fun hHeld => ?_); refine with_tabW impl_SameLayer.tab1 impl_SameLayer.bits1 (fun HT_ HW_ => ?_)
   generalize w25.drew = w26 at BK683 BK684 HB hHeld ⊢
   refine stepT 0 (some 5) (tk 20 1) (take_ofW HT_.out HW_.out (by kernel_rfl)) hHeld ?_
   refine stepT 2 (some 7) (tk 20 5) (take_ofW HT_.out HW_.out (by kernel_rfl)) hHeld ?_
   refine one_ (i := 1) (N := some 6) #[I, I, I, O, O, O, O, O, O, O, O, O, O, O, O, O, O, O, O, O] rfl rfl (one_of HT_.out (by kernel_rfl)) (by decide) (fun K hK => ?_)
   refine goes_ Try.func32 (by kernel_rfl) rfl #[.agg #[.int .i64 a0_0, .int .i64 a0_1, .int .i64 a0_2, .int .i64 a0_3, .int .i64 a0_4, .int .i64 a0_5, .int .i64 a0_6, .slice A0_7 l0_7.length c0_7, .slice A0_8 l0_8.length c0_8]] (by rfl) rfl rfl (by (try simp only [List.map_toArray, List.map_cons, List.map_nil]); first | done | rfl | (simp only [List.length_drop, List.length_take]; rfl)) ?_
   with_reducible refine (impl_Layer_numbers.calls a0_0 a0_1 a0_2 a0_3 a0_4 a0_5 a0_6 _ _ l0_7 _ _ l0_8 t685 _ ?side1 ?side2 ?side3 ?side4 A3.out).mono ?_
   (case side1 => exact C_now HR0_7.out)
   (case side2 => exact HC0_7.out)
   (case side3 => exact C_now HR0_8.out)
   (case side4 => exact HC0_8.out)
   rintro e w27 ⟨v686, rfl, ho0, hb⟩
   refine ⟨_, rfl, ?_⟩
   have n0_ := am (Kd.R_lower ho0 (below_size bel_now));replace BK683 := blk_on gb683 hb;replace BK684 := blk_on gb684 hb;replace HB := bel_on w hb;have HO687 := n0_;clear n0_;(try clear hb);(try clear hb2);(try clear hb3);(try clear hk);(try clear hi);(try clear ho0)
   refine hK.out _ _ ⟨bc BK683 0, bc BK683 1, bc BK683 2, bc BK683 3, bc BK683 4, bc BK683 5, bc BK683 6, bc BK683 7, bc BK683 8, bc BK684 0, bc BK684 1, bc BK684 2, bc BK684 3, bc BK684 4, bc BK684 5, bc BK684 6, bc BK684 7, bc BK684 8⟩ (fun hHeld => ?_)
   clear hK K
   refine normP 6 ?_
   refine one_ (i := 3) (N := some 8) #[I, I, I, I, O, O, O, O, O, O, O, O, O, O, O, O, O, O, O, O] rfl rfl (one_of HT_.out (by kernel_rfl)) (by decide) (fun K hK => ?_)
   refine goes_ Try.func32 (by kernel_rfl) rfl #[.agg #[.int .i64 a1_0, .int .i64 a1_1, .int .i64 a1_2, .int .i64 a1_3, .int .i64 a1_4, .int .i64 a1_5, .int .i64 a1_6, .slice A1_7 l1_7.length c1_7, .slice A1_8 l1_8.length c1_8]] (by rfl) rfl rfl (by (try simp only [List.map_toArray, List.map_cons, List.map_nil]); first | done | rfl | (simp only [List.length_drop, List.length_take]; rfl)) ?_
   with_reducible refine (impl_Layer_numbers.calls a1_0 a1_1 a1_2 a1_3 a1_4 a1_5 a1_6 _ _ l1_7 _ _ l1_8 t688 _ ?side1 ?side2 ?side3 ?side4 A4.out).mono ?_
   (case side1 => exact C_now HR1_7.out)
   (case side2 => exact HC1_7.out)
   (case side3 => exact C_now HR1_8.out)
   (case side4 => exact HC1_8.out)
   rintro e w28 ⟨v689, rfl, ho0, hb⟩
   refine ⟨_, rfl, ?_⟩
   have n1_ := am (Kd.R_lower (Kd.R_new' ho0 (Kd.R_lt (R_at HO687.out))) (below_size bel_now));replace HO687 := am (Kd.R_elder' (R_at HO687.out) (Kd.R_base ho0) hb);replace BK683 := blk_on gb683 hb;replace BK684 := blk_on gb684 hb;replace HB := bel_on w hb;have HO690 := n1_;clear n1_;(try clear hb);(try clear hb2);(try clear hb3);(try clear hk);(try clear hi);(try clear ho0);obtain ⟨Ao29, co29, eo29⟩ := Kd.R_slice HO687.out
   (first | subst eo29 | (injection eo29 with f1_ f2_ f3_; have f4_ := f1_.symm; have f5_ := f3_.symm; clear f1_ f2_ f3_; subst f4_; subst f5_))
   obtain ⟨Ao30, co30, eo30⟩ := Kd.R_slice HO690.out
   (first | subst eo30 | (injection eo30 with f1_ f2_ f3_; have f4_ := f1_.symm; have f5_ := f3_.symm; clear f1_ f2_ f3_; subst f4_; subst f5_))
   refine hK.out _ _ ⟨bc BK683 0, bc BK683 1, bc BK683 2, bc BK683 3, bc BK683 4, bc BK683 5, bc BK683 6, bc BK683 7, bc BK683 8, bc BK684 0, bc BK684 1, bc BK684 2, bc BK684 3, bc BK684 4, bc BK684 5, bc BK684 6, bc BK684 7, bc BK684 8⟩ (fun hHeld => ?_)
   clear hK K
   refine normP 8 ?_
   refine one_ (i := 4) (N := some 9) #[I, I, I, I, I, O, O, O, O, O, O, O, O, O, O, O, O, O, O, O] rfl rfl (one_of HT_.out (by kernel_rfl)) (by decide) (fun K hK => ?_)
   refine goes_ Try.func61 (by kernel_rfl) rfl #[.slice Ao29 t685.length co29, .slice Ao30 t688.length co30] (by rfl) rfl rfl (by (try simp only [List.map_toArray, List.map_cons, List.map_nil]); first | done | rfl | (simp only [List.length_drop, List.length_take]; rfl)) ?_
   with_reducible refine (slices_Equal_int_int.calls k _ _ t685 _ _ t688 false _ ?side1 ?side2 ?side3 ?side4 A5.out).mono ?_
   (case side1 => exact (Kd.R_reads' (R_at HO687.out)).2.2)
   (case side2 => exact (Kd.R_reads' HO687.out).2.1)
   (case side3 => exact (Kd.R_reads' (R_at HO690.out)).2.2)
   (case side4 => exact (Kd.R_reads' HO690.out).2.1)
   rintro e w' ⟨rfl, ⟨nd, rfl⟩⟩
   refine ⟨_, rfl, ?_⟩
   refine hK.out _ _ ⟨bc BK683 0, bc BK683 1, bc BK683 2, bc BK683 3, bc BK683 4, bc BK683 5, bc BK683 6, bc BK683 7, bc BK683 8, bc BK684 0, bc BK684 1, bc BK684 2, bc BK684 3, bc BK684 4, bc BK684 5, bc BK684 6, bc BK684 7, bc BK684 8⟩ (fun hHeld => ?_)
   clear hK K
   refine normP 9 ?_
   refine stepP 5 (some 10) (tk 20 63) (any_of HT_.out (by kernel_rfl)) ?_
   refine stepU 6 (some 11) (tk 20 127) (any_of HT_.out (by kernel_rfl)) ?_
   refine stepU 7 (some 12) (tk 20 255) (any_of HT_.out (by kernel_rfl)) ?_
   refine stepU 8 (some 13) (tk 20 511) (any_of HT_.out (by kernel_rfl)) ?_
   refine stepU 9 (some 14) (tk 20 1023) (any_of HT_.out (by kernel_rfl)) ?_
   refine stepU 10 (some 15) (tk 20 2047) (any_of HT_.out (by kernel_rfl)) ?_
   refine stepP 11 (some 16) (tk 20 4095) (any_of HT_.out (by kernel_rfl)) ?_
   refine stepP 12 (some 17) (tk 20 8191) (any_of HT_.out (by kernel_rfl)) ?_
   refine stepU 13 (some 18) (tk 20 16383) (any_of HT_.out (by kernel_rfl)) ?_
   refine stepU 14 (some 19) (tk 20 32767) (any_of HT_.out (by kernel_rfl)) ?_
   refine stepU 15 (some 20) (tk 20 65535) (any_of HT_.out (by kernel_rfl)) ?_
   refine stepU 16 (some 21) (tk 20 131071) (any_of HT_.out (by kernel_rfl)) ?_
   refine stepU 17 (some 22) (tk 20 262143) (any_of HT_.out (by kernel_rfl)) ?_
   refine stepP 18 (some 23) (tk 20 524287) (any_of HT_.out (by kernel_rfl)) ?_
   refine stepP 19 (some 4) (tk 20 1048575) (any_of HT_.out (by kernel_rfl)) ?_
   refine done_ (done_of HT_.out (by kernel_rfl)) ?_
   try go_wp2
   go_ret
   exact ⟨eqN, bel_now⟩
  subst c6;rw [if_pos rfl] at H;obtain ⟨t692, A7, H⟩ := bnd H;(try dsimp only at H);by_cases c8 : t692 = true;rotate_left
  ·replace c8 := Bool.eq_false_iff.mpr c8;subst c8
   rw [if_neg (show ¬ (false = true) by decide)] at H
   obtain rfl := Option.some.inj H
   go_enter Try.func40, Try.ntmps40
   try go_wp2_with (first | ((with_reducible refine gate_dst (N := 2) rfl ?_); refine boxM 2 #[.int .i64 a0_0, .int .i64 a0_1, .int .i64 a0_2, .int .i64 a0_3, .int .i64 a0_4, .int .i64 a0_5, .int .i64 a0_6, .slice A0_7 l0_7.length c0_7, .slice A0_8 l0_8.length c0_8] 46 ?_; intro gb683 hg w17 BK683 hb; obtain ⟨HB, GW683, GE683⟩ := box_at w hb hg; clear hb hg) | ((with_reducible refine gate_dst (N := 3) rfl ?_); refine boxM 3 #[.int .i64 a1_0, .int .i64 a1_1, .int .i64 a1_2, .int .i64 a1_3, .int .i64 a1_4, .int .i64 a1_5, .int .i64 a1_6, .slice A1_7 l1_7.length c1_7, .slice A1_8 l1_8.length c1_8] 46 ?_; intro gb684 hg w18 BK684 hb; obtain ⟨HB, GW684, GE684⟩ := box_at w hb hg; obtain ⟨BK683, NB683_684, NB684_683⟩ := box_on gb683 hb hg; clear hb hg))
   replace BK683 := am (blk_drew BK683.out);replace BK684 := am (blk_drew BK684.out);replace HB := am (below_drew1 HB.out)
   refine start_ (n := 20) (S := fun w' => w'.cell? ⟨gb683, 0, none⟩ = some (.int .i64 a0_0) ∧ w'.cell? ⟨gb683, 1, none⟩ = some (.int .i64 a0_1) ∧ w'.cell? ⟨gb683, 2, none⟩ = some (.int .i64 a0_2) ∧ w'.cell? ⟨gb683, 3, none⟩ = some (.int .i64 a0_3) ∧ w'.cell? ⟨gb683, 4, none⟩ = some (.int .i64 a0_4) ∧ w'.cell? ⟨gb683, 5, none⟩ = some (.int .i64 a0_5) ∧ w'.cell? ⟨gb683, 6, none⟩ = some (.int .i64 a0_6) ∧ w'.cell? ⟨gb683, 7, none⟩ = some (.slice A0_7 l0_7.length c0_7) ∧ w'.cell? ⟨gb683, 8, none⟩ = some (.slice A0_8 l0_8.length c0_8) ∧ w'.cell? ⟨gb684, 0, none⟩ = some (.int .i64 a1_0) ∧ w'.cell? ⟨gb684, 1, none⟩ = some (.int .i64 a1_1) ∧ w'.cell? ⟨gb684, 2, none⟩ = some (.int .i64 a1_2) ∧ w'.cell? ⟨gb684, 3, none⟩ = some (.int .i64 a1_3) ∧ w'.cell? ⟨gb684, 4, none⟩ = some (.int .i64 a1_4) ∧ w'.cell? ⟨gb684, 5, none⟩ = some (.int .i64 a1_5) ∧ w'.cell? ⟨gb684, 6, none⟩ = some (.int .i64 a1_6) ∧ w'.cell? ⟨gb684, 7, none⟩ = some (.slice A1_7 l1_7.length c1_7) ∧ w'.cell? ⟨gb684, 8, none⟩ = some (.slice A1_8 l1_8.length c1_8)) (ds := []) #[O, O, O, O, O, O, O, O, O, O, O, O, O, O, O, O, O, O, O, O] (by kernel_rfl) rfl rfl ⟨bc BK683 0, bc BK683 1, bc BK683 2, bc BK683 3, bc BK683 4, bc BK683 5, bc BK683 6, bc BK683 7, bc BK683 8, bc BK684 0, bc BK684 1, bc BK684 2, bc BK684 3, bc BK684 4, bc BK684 5, bc BK684 6, bc BK684 7, bc BK684 8⟩ (fun hHeld => ?_); refine with_tabW impl_SameLayer.tab1 impl_SameLayer.bits1 (fun HT_ HW_ => ?_)
   generalize w18.drew = w19 at BK683 BK684 HB hHeld ⊢
   refine stepT 0 (some 5) (tk 20 1) (take_ofW HT_.out HW_.out (by kernel_rfl)) hHeld ?_
   refine stepT 2 (some 7) (tk 20 5) (take_ofW HT_.out HW_.out (by kernel_rfl)) hHeld ?_
   refine one_ (i := 1) (N := some 6) #[I, I, I, O, O, O, O, O, O, O, O, O, O, O, O, O, O, O, O, O] rfl rfl (one_of HT_.out (by kernel_rfl)) (by decide) (fun K hK => ?_)
   refine goes_ Try.func32 (by kernel_rfl) rfl #[.agg #[.int .i64 a0_0, .int .i64 a0_1, .int .i64 a0_2, .int .i64 a0_3, .int .i64 a0_4, .int .i64 a0_5, .int .i64 a0_6, .slice A0_7 l0_7.length c0_7, .slice A0_8 l0_8.length c0_8]] (by rfl) rfl rfl (by (try simp only [List.map_toArray, List.map_cons, List.map_nil]); first | done | rfl | (simp only [List.length_drop, List.length_take]; rfl)) ?_
   with_reducible refine (impl_Layer_numbers.calls a0_0 a0_1 a0_2 a0_3 a0_4 a0_5 a0_6 _ _ l0_7 _ _ l0_8 t685 _ ?side1 ?side2 ?side3 ?side4 A3.out).mono ?_
   (case side1 => exact C_now HR0_7.out)
   (case side2 => exact HC0_7.out)
   (case side3 => exact C_now HR0_8.out)
   (case side4 => exact HC0_8.out)
   rintro e w20 ⟨v686, rfl, ho0, hb⟩
   refine ⟨_, rfl, ?_⟩
   have n0_ := am (Kd.R_lower ho0 (below_size bel_now));replace BK683 := blk_on gb683 hb;replace BK684 := blk_on gb684 hb;replace HB := bel_on w hb;have HO687 := n0_;clear n0_;(try clear hb);(try clear hb2);(try clear hb3);(try clear hk);(try clear hi);(try clear ho0)
   refine hK.out _ _ ⟨bc BK683 0, bc BK683 1, bc BK683 2, bc BK683 3, bc BK683 4, bc BK683 5, bc BK683 6, bc BK683 7, bc BK683 8, bc BK684 0, bc BK684 1, bc BK684 2, bc BK684 3, bc BK684 4, bc BK684 5, bc BK684 6, bc BK684 7, bc BK684 8⟩ (fun hHeld => ?_)
   clear hK K
   refine normP 6 ?_
   refine one_ (i := 3) (N := some 8) #[I, I, I, I, O, O, O, O, O, O, O, O, O, O, O, O, O, O, O, O] rfl rfl (one_of HT_.out (by kernel_rfl)) (by decide) (fun K hK => ?_)
   refine goes_ Try.func32 (by kernel_rfl) rfl #[.agg #[.int .i64 a1_0, .int .i64 a1_1, .int .i64 a1_2, .int .i64 a1_3, .int .i64 a1_4, .int .i64 a1_5, .int .i64 a1_6, .slice A1_7 l1_7.length c1_7, .slice A1_8 l1_8.length c1_8]] (by rfl) rfl rfl (by (try simp only [List.map_toArray, List.map_cons, List.map_nil]); first | done | rfl | (simp only [List.length_drop, List.length_take]; rfl)) ?_
   with_reducible refine (impl_Layer_numbers.calls a1_0 a1_1 a1_2 a1_3 a1_4 a1_5 a1_6 _ _ l1_7 _ _ l1_8 t688 _ ?side1 ?side2 ?side3 ?side4 A4.out).mono ?_
   (case side1 => exact C_now HR1_7.out)
   (case side2 => exact HC1_7.out)
   (case side3 => exact C_now HR1_8.out)
   (case side4 => exact HC1_8.out)
   rintro e w21 ⟨v689, rfl, ho0, hb⟩
   refine ⟨_, rfl, ?_⟩
   have n1_ := am (Kd.R_lower (Kd.R_new' ho0 (Kd.R_lt (R_at HO687.out))) (below_size bel_now));replace HO687 := am (Kd.R_elder' (R_at HO687.out) (Kd.R_base ho0) hb);replace BK683 := blk_on gb683 hb;replace BK684 := blk_on gb684 hb;replace HB := bel_on w hb;have HO690 := n1_;clear n1_;(try clear hb);(try clear hb2);(try clear hb3);(try clear hk);(try clear hi);(try clear ho0);obtain ⟨Ao22, co22, eo22⟩ := Kd.R_slice HO687.out
   (first | subst eo22 | (injection eo22 with f1_ f2_ f3_; have f4_ := f1_.symm; have f5_ := f3_.symm; clear f1_ f2_ f3_; subst f4_; subst f5_))
   obtain ⟨Ao23, co23, eo23⟩ := Kd.R_slice HO690.out
   (first | subst eo23 | (injection eo23 with f1_ f2_ f3_; have f4_ := f1_.symm; have f5_ := f3_.symm; clear f1_ f2_ f3_; subst f4_; subst f5_))
   refine hK.out _ _ ⟨bc BK683 0, bc BK683 1, bc BK683 2, bc BK683 3, bc BK683 4, bc BK683 5, bc BK683 6, bc BK683 7, bc BK683 8, bc BK684 0, bc BK684 1, bc BK684 2, bc BK684 3, bc BK684 4, bc BK684 5, bc BK684 6, bc BK684 7, bc BK684 8⟩ (fun hHeld => ?_)
   clear hK K
   refine normP 8 ?_
   refine one_ (i := 4) (N := some 9) #[I, I, I, I, I, O, O, O, O, O, O, O, O, O, O, O, O, O, O, O] rfl rfl (one_of HT_.out (by kernel_rfl)) (by decide) (fun K hK => ?_)
   refine goes_ Try.func61 (by kernel_rfl) rfl #[.slice Ao22 t685.length co22, .slice Ao23 t688.length co23] (by rfl) rfl rfl (by (try simp only [List.map_toArray, List.map_cons, List.map_nil]); first | done | rfl | (simp only [List.length_drop, List.length_take]; rfl)) ?_
   with_reducible refine (slices_Equal_int_int.calls k _ _ t685 _ _ t688 true _ ?side1 ?side2 ?side3 ?side4 A5.out).mono ?_
   (case side1 => exact (Kd.R_reads' (R_at HO687.out)).2.2)
   (case side2 => exact (Kd.R_reads' HO687.out).2.1)
   (case side3 => exact (Kd.R_reads' (R_at HO690.out)).2.2)
   (case side4 => exact (Kd.R_reads' HO690.out).2.1)
   rintro e w' ⟨rfl, ⟨nd, rfl⟩⟩
   refine ⟨_, rfl, ?_⟩
   refine hK.out _ _ ⟨bc BK683 0, bc BK683 1, bc BK683 2, bc BK683 3, bc BK683 4, bc BK683 5, bc BK683 6, bc BK683 7, bc BK683 8, bc BK684 0, bc BK684 1, bc BK684 2, bc BK684 3, bc BK684 4, bc BK684 5, bc BK684 6, bc BK684 7, bc BK684 8⟩ (fun hHeld => ?_)
   clear hK K
   refine normP 9 ?_
   refine stepP 5 (some 10) (tk 20 63) (any_of HT_.out (by kernel_rfl)) ?_
   refine stepP 6 (some 11) (tk 20 127) (any_of HT_.out (by kernel_rfl)) ?_
   refine stepP 8 (some 13) (tk 20 383) (any_of HT_.out (by kernel_rfl)) ?_
   refine stepT 7 (some 12) (tk 20 511) (take_ofW HT_.out HW_.out (by kernel_rfl)) hHeld ?_
   refine stepT 9 (some 14) (tk 20 1023) (take_ofW HT_.out HW_.out (by kernel_rfl)) hHeld ?_
   refine one_ (i := 10) (N := some 15) #[I, I, I, I, I, I, I, I, I, I, I, O, O, O, O, O, O, O, O, O] rfl rfl (one_of HT_.out (by kernel_rfl)) (by decide) (fun K hK => ?_)
   refine goes_ Try.func61 (by kernel_rfl) rfl #[.slice A0_7 l0_7.length c0_7, .slice A1_7 l1_7.length c1_7] (by rfl) rfl rfl (by (try simp only [List.map_toArray, List.map_cons, List.map_nil]); first | done | rfl | (simp only [List.length_drop, List.length_take]; rfl)) ?_
   with_reducible refine (slices_Equal_int_int.calls k _ _ l0_7 _ _ l1_7 false _ ?side1 ?side2 ?side3 ?side4 A7.out).mono ?_
   (case side1 => exact C_now HR0_7.out)
   (case side2 => exact HC0_7.out)
   (case side3 => exact C_now HR1_7.out)
   (case side4 => exact HC1_7.out)
   rintro e w' ⟨rfl, ⟨nd, rfl⟩⟩
   refine ⟨_, rfl, ?_⟩
   refine hK.out _ _ ⟨bc BK683 0, bc BK683 1, bc BK683 2, bc BK683 3, bc BK683 4, bc BK683 5, bc BK683 6, bc BK683 7, bc BK683 8, bc BK684 0, bc BK684 1, bc BK684 2, bc BK684 3, bc BK684 4, bc BK684 5, bc BK684 6, bc BK684 7, bc BK684 8⟩ (fun hHeld => ?_)
   clear hK K
   refine normP 15 ?_
   refine stepP 11 (some 16) (tk 20 4095) (any_of HT_.out (by kernel_rfl)) ?_
   refine stepP 12 (some 17) (tk 20 8191) (any_of HT_.out (by kernel_rfl)) ?_
   refine stepU 13 (some 18) (tk 20 16383) (any_of HT_.out (by kernel_rfl)) ?_
   refine stepU 14 (some 19) (tk 20 32767) (any_of HT_.out (by kernel_rfl)) ?_
   refine stepU 15 (some 20) (tk 20 65535) (any_of HT_.out (by kernel_rfl)) ?_
   refine stepU 16 (some 21) (tk 20 131071) (any_of HT_.out (by kernel_rfl)) ?_
   refine stepU 17 (some 22) (tk 20 262143) (any_of HT_.out (by kernel_rfl)) ?_
   refine stepP 18 (some 23) (tk 20 524287) (any_of HT_.out (by kernel_rfl)) ?_
   refine stepP 19 (some 4) (tk 20 1048575) (any_of HT_.out (by kernel_rfl)) ?_
   refine done_ (done_of HT_.out (by kernel_rfl)) ?_
   try go_wp2
   go_ret
   exact ⟨eqN, bel_now⟩
  subst c8;rw [if_pos rfl] at H;obtain ⟨t693, A9, H⟩ := bnd H;(try dsimp only at H);obtain rfl := Option.some.inj H
  go_enter Try.func40, Try.ntmps40
  try go_wp2_with (first | ((with_reducible refine gate_dst (N := 2) rfl ?_); refine boxM 2 #[.int .i64 a0_0, .int .i64 a0_1, .int .i64 a0_2, .int .i64 a0_3, .int .i64 a0_4, .int .i64 a0_5, .int .i64 a0_6, .slice A0_7 l0_7.length c0_7, .slice A0_8 l0_8.length c0_8] 46 ?_; intro gb683 hg w10 BK683 hb; obtain ⟨HB, GW683, GE683⟩ := box_at w hb hg; clear hb hg) | ((with_reducible refine gate_dst (N := 3) rfl ?_); refine boxM 3 #[.int .i64 a1_0, .int .i64 a1_1, .int .i64 a1_2, .int .i64 a1_3, .int .i64 a1_4, .int .i64 a1_5, .int .i64 a1_6, .slice A1_7 l1_7.length c1_7, .slice A1_8 l1_8.length c1_8] 46 ?_; intro gb684 hg w11 BK684 hb; obtain ⟨HB, GW684, GE684⟩ := box_at w hb hg; obtain ⟨BK683, NB683_684, NB684_683⟩ := box_on gb683 hb hg; clear hb hg))
  replace BK683 := am (blk_drew BK683.out);replace BK684 := am (blk_drew BK684.out);replace HB := am (below_drew1 HB.out)
  refine start_ (n := 20) (S := fun w' => w'.cell? ⟨gb683, 0, none⟩ = some (.int .i64 a0_0) ∧ w'.cell? ⟨gb683, 1, none⟩ = some (.int .i64 a0_1) ∧ w'.cell? ⟨gb683, 2, none⟩ = some (.int .i64 a0_2) ∧ w'.cell? ⟨gb683, 3, none⟩ = some (.int .i64 a0_3) ∧ w'.cell? ⟨gb683, 4, none⟩ = some (.int .i64 a0_4) ∧ w'.cell? ⟨gb683, 5, none⟩ = some (.int .i64 a0_5) ∧ w'.cell? ⟨gb683, 6, none⟩ = some (.int .i64 a0_6) ∧ w'.cell? ⟨gb683, 7, none⟩ = some (.slice A0_7 l0_7.length c0_7) ∧ w'.cell? ⟨gb683, 8, none⟩ = some (.slice A0_8 l0_8.length c0_8) ∧ w'.cell? ⟨gb684, 0, none⟩ = some (.int .i64 a1_0) ∧ w'.cell? ⟨gb684, 1, none⟩ = some (.int .i64 a1_1) ∧ w'.cell? ⟨gb684, 2, none⟩ = some (.int .i64 a1_2) ∧ w'.cell? ⟨gb684, 3, none⟩ = some (.int .i64 a1_3) ∧ w'.cell? ⟨gb684, 4, none⟩ = some (.int .i64 a1_4) ∧ w'.cell? ⟨gb684, 5, none⟩ = some (.int .i64 a1_5) ∧ w'.cell? ⟨gb684, 6, none⟩ = some (.int .i64 a1_6) ∧ w'.cell? ⟨gb684, 7, none⟩ = some (.slice A1_7 l1_7.length c1_7) ∧ w'.cell? ⟨gb684, 8, none⟩ = some (.slice A1_8 l1_8.length c1_8)) (ds := []) #[O, O, O, O, O, O, O, O, O, O, O, O, O, O, O, O, O, O, O, O] (by kernel_rfl) rfl rfl ⟨bc BK683 0, bc BK683 1, bc BK683 2, bc BK683 3, bc BK683 4, bc BK683 5, bc BK683 6, bc BK683 7, bc BK683 8, bc BK684 0, bc BK684 1, bc BK684 2, bc BK684 3, bc BK684 4, bc BK684 5, bc BK684 6, bc BK684 7, bc BK684 8⟩ (fun hHeld => ?_); refine with_tabW impl_SameLayer.tab1 impl_SameLayer.bits1 (fun HT_ HW_ => ?_)
  generalize w11.drew = w12 at BK683 BK684 HB hHeld ⊢
  refine stepT 0 (some 5) (tk 20 1) (take_ofW HT_.out HW_.out (by kernel_rfl)) hHeld ?_
  refine stepT 2 (some 7) (tk 20 5) (take_ofW HT_.out HW_.out (by kernel_rfl)) hHeld ?_
  refine one_ (i := 1) (N := some 6) #[I, I, I, O, O, O, O, O, O, O, O, O, O, O, O, O, O, O, O, O] rfl rfl (one_of HT_.out (by kernel_rfl)) (by decide) (fun K hK => ?_)
  refine goes_ Try.func32 (by kernel_rfl) rfl #[.agg #[.int .i64 a0_0, .int .i64 a0_1, .int .i64 a0_2, .int .i64 a0_3, .int .i64 a0_4, .int .i64 a0_5, .int .i64 a0_6, .slice A0_7 l0_7.length c0_7, .slice A0_8 l0_8.length c0_8]] (by rfl) rfl rfl (by (try simp only [List.map_toArray, List.map_cons, List.map_nil]); first | done | rfl | (simp only [List.length_drop, List.length_take]; rfl)) ?_
  with_reducible refine (impl_Layer_numbers.calls a0_0 a0_1 a0_2 a0_3 a0_4 a0_5 a0_6 _ _ l0_7 _ _ l0_8 t685 _ ?side1 ?side2 ?side3 ?side4 A3.out).mono ?_
  (case side1 => exact C_now HR0_7.out)
  (case side2 => exact HC0_7.out)
  (case side3 => exact C_now HR0_8.out)
  (case side4 => exact HC0_8.out)
  rintro e w13 ⟨v686, rfl, ho0, hb⟩
  refine ⟨_, rfl, ?_⟩
  have n0_ := am (Kd.R_lower ho0 (below_size bel_now));replace BK683 := blk_on gb683 hb;replace BK684 := blk_on gb684 hb;replace HB := bel_on w hb;have HO687 := n0_;clear n0_;(try clear hb);(try clear hb2);(try clear hb3);(try clear hk);(try clear hi);(try clear ho0)
  refine hK.out _ _ ⟨bc BK683 0, bc BK683 1, bc BK683 2, bc BK683 3, bc BK683 4, bc BK683 5, bc BK683 6, bc BK683 7, bc BK683 8, bc BK684 0, bc BK684 1, bc BK684 2, bc BK684 3, bc BK684 4, bc BK684 5, bc BK684 6, bc BK684 7, bc BK684 8⟩ (fun hHeld => ?_)
  clear hK K
  refine normP 6 ?_
  refine one_ (i := 3) (N := some 8) #[I, I, I, I, O, O, O, O, O, O, O, O, O, O, O, O, O, O, O, O] rfl rfl (one_of HT_.out (by kernel_rfl)) (by decide) (fun K hK => ?_)
  refine goes_ Try.func32 (by kernel_rfl) rfl #[.agg #[.int .i64 a1_0, .int .i64 a1_1, .int .i64 a1_2, .int .i64 a1_3, .int .i64 a1_4, .int .i64 a1_5, .int .i64 a1_6, .slice A1_7 l1_7.length c1_7, .slice A1_8 l1_8.length c1_8]] (by rfl) rfl rfl (by (try simp only [List.map_toArray, List.map_cons, List.map_nil]); first | done | rfl | (simp only [List.length_drop, List.length_take]; rfl)) ?_
  with_reducible refine (impl_Layer_numbers.calls a1_0 a1_1 a1_2 a1_3 a1_4 a1_5 a1_6 _ _ l1_7 _ _ l1_8 t688 _ ?side1 ?side2 ?side3 ?side4 A4.out).mono ?_
  (case side1 => exact C_now HR1_7.out)
  (case side2 => exact HC1_7.out)
  (case side3 => exact C_now HR1_8.out)
  (case side4 => exact HC1_8.out)
  rintro e w14 ⟨v689, rfl, ho0, hb⟩
  refine ⟨_, rfl, ?_⟩
  have n1_ := am (Kd.R_lower (Kd.R_new' ho0 (Kd.R_lt (R_at HO687.out))) (below_size bel_now));replace HO687 := am (Kd.R_elder' (R_at HO687.out) (Kd.R_base ho0) hb);replace BK683 := blk_on gb683 hb;replace BK684 := blk_on gb684 hb;replace HB := bel_on w hb;have HO690 := n1_;clear n1_;(try clear hb);(try clear hb2);(try clear hb3);(try clear hk);(try clear hi);(try clear ho0);obtain ⟨Ao15, co15, eo15⟩ := Kd.R_slice HO687.out
  (first | subst eo15 | (injection eo15 with f1_ f2_ f3_; have f4_ := f1_.symm; have f5_ := f3_.symm; clear f1_ f2_ f3_; subst f4_; subst f5_))
  obtain ⟨Ao16, co16, eo16⟩ := Kd.R_slice HO690.out
  (first | subst eo16 | (injection eo16 with f1_ f2_ f3_; have f4_ := f1_.symm; have f5_ := f3_.symm; clear f1_ f2_ f3_; subst f4_; subst f5_))
  refine hK.out _ _ ⟨bc BK683 0, bc BK683 1, bc BK683 2, bc BK683 3, bc BK683 4, bc BK683 5, bc BK683 6, bc BK683 7, bc BK683 8, bc BK684 0, bc BK684 1, bc BK684 2, bc BK684 3, bc BK684 4, bc BK684 5, bc BK684 6, bc BK684 7, bc BK684 8⟩ (fun hHeld => ?_)
  clear hK K
  refine normP 8 ?_
  refine one_ (i := 4) (N := some 9) #[I, I, I, I, I, O, O, O, O, O, O, O, O, O, O, O, O, O, O, O] rfl rfl (one_of HT_.out (by kernel_rfl)) (by decide) (fun K hK => ?_)
  refine goes_ Try.func61 (by kernel_rfl) rfl #[.slice Ao15 t685.length co15, .slice Ao16 t688.length co16] (by rfl) rfl rfl (by (try simp only [List.map_toArray, List.map_cons, List.map_nil]); first | done | rfl | (simp only [List.length_drop, List.length_take]; rfl)) ?_
  with_reducible refine (slices_Equal_int_int.calls k _ _ t685 _ _ t688 true _ ?side1 ?side2 ?side3 ?side4 A5.out).mono ?_
  (case side1 => exact (Kd.R_reads' (R_at HO687.out)).2.2)
  (case side2 => exact (Kd.R_reads' HO687.out).2.1)
  (case side3 => exact (Kd.R_reads' (R_at HO690.out)).2.2)
  (case side4 => exact (Kd.R_reads' HO690.out).2.1)
  rintro e w' ⟨rfl, ⟨nd, rfl⟩⟩
  refine ⟨_, rfl, ?_⟩
  refine hK.out _ _ ⟨bc BK683 0, bc BK683 1, bc BK683 2, bc BK683 3, bc BK683 4, bc BK683 5, bc BK683 6, bc BK683 7, bc BK683 8, bc BK684 0, bc BK684 1, bc BK684 2, bc BK684 3, bc BK684 4, bc BK684 5, bc BK684 6, bc BK684 7, bc BK684 8⟩ (fun hHeld => ?_)
  clear hK K
  refine normP 9 ?_
  refine stepP 5 (some 10) (tk 20 63) (any_of HT_.out (by kernel_rfl)) ?_
  refine stepP 6 (some 11) (tk 20 127) (any_of HT_.out (by kernel_rfl)) ?_
  refine stepP 8 (some 13) (tk 20 383) (any_of HT_.out (by kernel_rfl)) ?_
  refine stepT 7 (some 12) (tk 20 511) (take_ofW HT_.out HW_.out (by kernel_rfl)) hHeld ?_
  refine stepT 9 (some 14) (tk 20 1023) (take_ofW HT_.out HW_.out (by kernel_rfl)) hHeld ?_
  refine one_ (i := 10) (N := some 15) #[I, I, I, I, I, I, I, I, I, I, I, O, O, O, O, O, O, O, O, O] rfl rfl (one_of HT_.out (by kernel_rfl)) (by decide) (fun K hK => ?_)
  refine goes_ Try.func61 (by kernel_rfl) rfl #[.slice A0_7 l0_7.length c0_7, .slice A1_7 l1_7.length c1_7] (by rfl) rfl rfl (by (try simp only [List.map_toArray, List.map_cons, List.map_nil]); first | done | rfl | (simp only [List.length_drop, List.length_take]; rfl)) ?_
  with_reducible refine (slices_Equal_int_int.calls k _ _ l0_7 _ _ l1_7 true _ ?side1 ?side2 ?side3 ?side4 A7.out).mono ?_
  (case side1 => exact C_now HR0_7.out)
  (case side2 => exact HC0_7.out)
  (case side3 => exact C_now HR1_7.out)
  (case side4 => exact HC1_7.out)
  rintro e w' ⟨rfl, ⟨nd, rfl⟩⟩
  refine ⟨_, rfl, ?_⟩
  refine hK.out _ _ ⟨bc BK683 0, bc BK683 1, bc BK683 2, bc BK683 3, bc BK683 4, bc BK683 5, bc BK683 6, bc BK683 7, bc BK683 8, bc BK684 0, bc BK684 1, bc BK684 2, bc BK684 3, bc BK684 4, bc BK684 5, bc BK684 6, bc BK684 7, bc BK684 8⟩ (fun hHeld => ?_)
  clear hK K
  refine normP 15 ?_
  refine stepP 11 (some 16) (tk 20 4095) (any_of HT_.out (by kernel_rfl)) ?_
  refine stepP 12 (some 17) (tk 20 8191) (any_of HT_.out (by kernel_rfl)) ?_
  refine stepP 13 (some 18) (tk 20 16383) (any_of HT_.out (by kernel_rfl)) ?_
  refine stepP 15 (some 20) (tk 20 49151) (any_of HT_.out (by kernel_rfl)) ?_
  refine stepT 14 (some 19) (tk 20 65535) (take_ofW HT_.out HW_.out (by kernel_rfl)) hHeld ?_
  refine stepT 16 (some 21) (tk 20 131071) (take_ofW HT_.out HW_.out (by kernel_rfl)) hHeld ?_
  refine one_ (i := 17) (N := some 22) #[I, I, I, I, I, I, I, I, I, I, I, I, I, I, I, I, I, I, O, O] rfl rfl (one_of HT_.out (by kernel_rfl)) (by decide) (fun K hK => ?_)
  refine goes_ Try.func61 (by kernel_rfl) rfl #[.slice A0_8 l0_8.length c0_8, .slice A1_8 l1_8.length c1_8] (by rfl) rfl rfl (by (try simp only [List.map_toArray, List.map_cons, List.map_nil]); first | done | rfl | (simp only [List.length_drop, List.length_take]; rfl)) ?_
  with_reducible refine (slices_Equal_int_int.calls k _ _ l0_8 _ _ l1_8 t693 _ ?side1 ?side2 ?side3 ?side4 A9.out).mono ?_
  (case side1 => exact C_now HR0_8.out)
  (case side2 => exact HC0_8.out)
  (case side3 => exact C_now HR1_8.out)
  (case side4 => exact HC1_8.out)
  rintro e w' ⟨rfl, ⟨nd, rfl⟩⟩
  refine ⟨_, rfl, ?_⟩
  refine hK.out _ _ ⟨bc BK683 0, bc BK683 1, bc BK683 2, bc BK683 3, bc BK683 4, bc BK683 5, bc BK683 6, bc BK683 7, bc BK683 8, bc BK684 0, bc BK684 1, bc BK684 2, bc BK684 3, bc BK684 4, bc BK684 5, bc BK684 6, bc BK684 7, bc BK684 8⟩ (fun hHeld => ?_)
  clear hK K
  refine normP 22 ?_
  refine stepP 18 (some 23) (tk 20 524287) (any_of HT_.out (by kernel_rfl)) ?_
  refine stepP 19 (some 4) (tk 20 1048575) (any_of HT_.out (by kernel_rfl)) ?_
  refine done_ (done_of HT_.out (by kernel_rfl)) ?_
  try go_wp2
  go_ret
  exact ⟨eqN, bel_now⟩

end Go.Proofs.Ytjmejobelkllmaa.PFnStored
