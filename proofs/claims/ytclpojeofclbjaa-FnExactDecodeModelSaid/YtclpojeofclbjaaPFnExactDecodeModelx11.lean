import Derived.Test.YtclpojeofclbjaaPFnExactDecodeModelx0
import Derived.Test.YtclpojeofclbjaaPFnExactDecodeModelx9
import Derived.Test.YtclpojeofclbjaaPFnExactDecodeModelx10
namespace Go.Proofs.Ytclpojeofclbjaa.PFnExactDecodeModel
open Go.RowKit Go.Proofs.YtclpojeofclbjaaW.PrintWords Go.Proofs.YtclpojeofclbjaaW.PrintLast Go.Proofs.YtclpojeofclbjaaW.PrintMore
attribute [local go_sem] max2_int min2_int max_two min_two max_three min_three max_four min_four
set_option maxHeartbeats 8000000
set_option maxRecDepth 100000
set_option linter.unusedVariables false
set_option linter.unusedSimpArgs false

def impl_Layer_isScaled.f (k : Nat) (a0_0 : Int) (a0_1 : Int) (a0_2 : Int) (a0_3 : Int) (a0_4 : Int) (a0_5 : Int) (a0_6 : Int) (l0_7 : List Int) (l0_8 : List Int) (a1 : Int) : Option (Bool) := (impl_in.f a0_1 1 8).bind fun t296 => (if t296 = true then ((impl_in.f a0_4 0 2147483647).bind fun t297 => (if t297 = true then ((impl_in.f a0_5 0 31).bind fun t298 => (if t298 = true then ((impl_in.f a0_6 (-128) 127).bind fun t299 => (if t299 = true then (if (l0_7.length : Int) = (wrap64 (a0_1 * a1)) then ((impl_areItems.f k l0_7).bind fun t300 => (if t300 = true then (if (l0_8.length : Int) = a0_1 then ((slices_ContainsFunc_int_int_impl_Layer_isScaled_1.f k l0_8).bind fun t301 => (some (!t301))) else (some false)) else (some false))) else (some false)) else (some false))) else (some false))) else (some false))) else (some false))
theorem impl_Layer_isScaled.calls (k : Nat) (a0_0 : Int) (a0_1 : Int) (a0_2 : Int) (a0_3 : Int) (a0_4 : Int) (a0_5 : Int) (a0_6 : Int) (A0_7 : Option Addr) (c0_7 : Nat) (l0_7 : List Int) (A0_8 : Option Addr) (c0_8 : Nat) (l0_8 : List Int) (a1 : Int) (r : Bool) (w : World) (hr0_7 : Kd.C (Kd.int .i64) w A0_7 l0_7.length l0_7) (hc0_7 : l0_7.length ≤ c0_7) (hr0_8 : Kd.C (Kd.int .i64) w A0_8 l0_8.length l0_8) (hc0_8 : l0_8.length ≤ c0_8) (h : impl_Layer_isScaled.f k a0_0 a0_1 a0_2 a0_3 a0_4 a0_5 a0_6 l0_7 l0_8 a1 = some r) :
   Calls Try.prog 66 #[.agg #[.int .i64 a0_0, .int .i64 a0_1, .int .i64 a0_2, .int .i64 a0_3, .int .i64 a0_4, .int .i64 a0_5, .int .i64 a0_6, .slice A0_7 l0_7.length c0_7, .slice A0_8 l0_8.length c0_8], .int .i64 a1] w fun e w' => e = .returned (.bool r) ∧ Below w.heap.size w w' := by
  have hu37 := Try.underlying37;have HR0_7 := am hr0_7;have HC0_7 := am hc0_7;clear hr0_7 hc0_7;have HR0_8 := am hr0_8;have HC0_8 := am hc0_8;clear hr0_8 hc0_8;have HB := am (Below.refl w.heap.size w);have H : ((impl_in.f a0_1 1 8).bind fun t296 => (if t296 = true then ((impl_in.f a0_4 0 2147483647).bind fun t297 => (if t297 = true then ((impl_in.f a0_5 0 31).bind fun t298 => (if t298 = true then ((impl_in.f a0_6 (-128) 127).bind fun t299 => (if t299 = true then (if (l0_7.length : Int) = (wrap64 (a0_1 * a1)) then ((impl_areItems.f k l0_7).bind fun t300 => (if t300 = true then (if (l0_8.length : Int) = a0_1 then ((slices_ContainsFunc_int_int_impl_Layer_isScaled_1.f k l0_8).bind fun t301 => (some (!t301))) else (some false)) else (some false))) else (some false)) else (some false))) else (some false))) else (some false))) else (some false))) = some r := h;clear h;obtain ⟨t296, A3, H⟩ := bnd H;(try dsimp only at H);by_cases c4 : t296 = true
  case' neg => skip
  replace c4 := Bool.eq_false_iff.mpr c4;subst c4
  rw [if_neg (show ¬ (false = true) by decide)] at H
  obtain rfl := Option.some.inj H;rotate_left;subst c4;rw [if_pos rfl] at H;obtain ⟨t297, A5, H⟩ := bnd H;(try dsimp only at H);by_cases c6 : t297 = true
  case' neg => skip
  replace c6 := Bool.eq_false_iff.mpr c6;subst c6
  rw [if_neg (show ¬ (false = true) by decide)] at H
  obtain rfl := Option.some.inj H;rotate_left;subst c6;rw [if_pos rfl] at H;obtain ⟨t298, A7, H⟩ := bnd H;(try dsimp only at H);by_cases c8 : t298 = true
  case' neg => skip
  replace c8 := Bool.eq_false_iff.mpr c8;subst c8
  rw [if_neg (show ¬ (false = true) by decide)] at H
  obtain rfl := Option.some.inj H;rotate_left;subst c8;rw [if_pos rfl] at H;obtain ⟨t299, A9, H⟩ := bnd H;(try dsimp only at H);by_cases c10 : t299 = true
  case' neg => skip
  replace c10 := Bool.eq_false_iff.mpr c10;subst c10
  rw [if_neg (show ¬ (false = true) by decide)] at H
  obtain rfl := Option.some.inj H;rotate_left;subst c10;rw [if_pos rfl] at H;by_cases c11 : (l0_7.length : Int) = (wrap64 (a0_1 * a1))
  case' neg => skip
  rw [if_neg c11] at H;have c11b0 : ((l0_7.length : Int) == (wrap64 (a0_1 * a1))) = false := beq_eq_false_iff_ne.mpr c11;have c11b1 : ((l0_7.length : Int) != (wrap64 (a0_1 * a1))) = true := bne_iff_ne.mpr c11;obtain rfl := Option.some.inj H;rotate_left;rw [if_pos c11] at H;have c11b0 : ((l0_7.length : Int) == (wrap64 (a0_1 * a1))) = true := beq_iff_eq.mpr c11;have c11b1 : ((l0_7.length : Int) != (wrap64 (a0_1 * a1))) = false := bne_eq_false_iff_eq.mpr c11;clear c11;obtain ⟨t300, A12, H⟩ := bnd H;(try dsimp only at H);by_cases c13 : t300 = true
  case' neg => skip
  replace c13 := Bool.eq_false_iff.mpr c13;subst c13
  rw [if_neg (show ¬ (false = true) by decide)] at H
  obtain rfl := Option.some.inj H;rotate_left;subst c13;rw [if_pos rfl] at H;by_cases c14 : (l0_8.length : Int) = a0_1
  case' neg => skip
  rw [if_neg c14] at H;have c14b0 : ((l0_8.length : Int) == a0_1) = false := beq_eq_false_iff_ne.mpr c14;have c14b1 : ((l0_8.length : Int) != a0_1) = true := bne_iff_ne.mpr c14;obtain rfl := Option.some.inj H;rotate_left;rw [if_pos c14] at H;have c14b0 : ((l0_8.length : Int) == a0_1) = true := beq_iff_eq.mpr c14;have c14b1 : ((l0_8.length : Int) != a0_1) = false := bne_eq_false_iff_eq.mpr c14;clear c14;obtain ⟨t301, A15, H⟩ := bnd H;(try dsimp only at H);obtain rfl := Option.some.inj H;rotate_left
  all_goals (go_enter Try.func66, Try.ntmps66; go_wp2_with (first | ((with_reducible refine gate_dst (N := 2) rfl ?_); (try (refine gate_guard (by rfl) ?_; dsimp only)); refine boxM 2 #[.int .i64 a0_0, .int .i64 a0_1, .int .i64 a0_2, .int .i64 a0_3, .int .i64 a0_4, .int .i64 a0_5, .int .i64 a0_6, .slice A0_7 l0_7.length c0_7, .slice A0_8 l0_8.length c0_8] 37 ?_; intro gb295 hg w_ BK295 hb; obtain ⟨HB, GW295, GE295⟩ := box_at w hb hg; clear hb hg; have hcz_ := cells9 BK295.out) | ((with_reducible refine gate_callee (f := 70) rfl ?_); refine gM 7 Try.func70 #[.int .i64 a0_1, .int .i64 1, .int .i64 8] rfl ?_; (with_reducible refine (impl_in.calls a0_1 1 8 false _ A3.out).mono ?_); rintro e w' ⟨rfl, ⟨nd, rfl⟩⟩; refine ⟨_, rfl, ?_⟩) | ((with_reducible refine gate_callee (f := 70) rfl ?_); refine gM 7 Try.func70 #[.int .i64 a0_1, .int .i64 1, .int .i64 8] rfl ?_; (with_reducible refine (impl_in.calls a0_1 1 8 true _ A3.out).mono ?_); rintro e w' ⟨rfl, ⟨nd, rfl⟩⟩; refine ⟨_, rfl, ?_⟩) | (go_at_call 70; (with_reducible refine (impl_in.calls a0_4 0 2147483647 false _ A5.out).mono ?_); rintro e w' ⟨rfl, ⟨nd, rfl⟩⟩) | (go_at_call 70; (with_reducible refine (impl_in.calls a0_4 0 2147483647 true _ A5.out).mono ?_); rintro e w' ⟨rfl, ⟨nd, rfl⟩⟩) | (go_at_call 70; (with_reducible refine (impl_in.calls a0_5 0 31 false _ A7.out).mono ?_); rintro e w' ⟨rfl, ⟨nd, rfl⟩⟩) | (go_at_call 70; (with_reducible refine (impl_in.calls a0_5 0 31 true _ A7.out).mono ?_); rintro e w' ⟨rfl, ⟨nd, rfl⟩⟩) | (go_at_call 70; (with_reducible refine (impl_in.calls a0_6 (-128) 127 false _ A9.out).mono ?_); rintro e w' ⟨rfl, ⟨nd, rfl⟩⟩) | (go_at_call 70; (with_reducible refine (impl_in.calls a0_6 (-128) 127 true _ A9.out).mono ?_); rintro e w' ⟨rfl, ⟨nd, rfl⟩⟩) | (go_at_call 101; (with_reducible refine (impl_areItems.calls k _ _ l0_7 false _ ?side1 HC0_7.out A12.out).mono ?_); (case side1 => exact C_now HR0_7.out); rintro e w' ⟨rfl, ⟨nd, rfl⟩⟩) | (go_at_call 101; (with_reducible refine (impl_areItems.calls k _ _ l0_7 true _ ?side1 HC0_7.out A12.out).mono ?_); (case side1 => exact C_now HR0_7.out); rintro e w' ⟨rfl, ⟨nd, rfl⟩⟩) | (go_at_call 117; (with_reducible refine (slices_ContainsFunc_int_int_impl_Layer_isScaled_1.calls k _ _ l0_8 t301 _ ?side1 HC0_8.out A15.out).mono ?_); (case side1 => exact C_now HR0_8.out); rintro e w' ⟨rfl, ⟨nd, rfl⟩⟩)))
  ·go_ret
   exact ⟨eqN, bel_now⟩
  ·go_ret
   exact ⟨eqN, bel_now⟩
  ·go_ret
   exact ⟨eqN, bel_now⟩
  ·go_ret
   exact ⟨eqN, bel_now⟩
  ·go_ret
   exact ⟨eqN, bel_now⟩
  ·go_ret
   exact ⟨eqN, bel_now⟩
  ·go_ret
   exact ⟨eqN, bel_now⟩
  ·go_ret
   exact ⟨eqN, bel_now⟩

def impl_Layer_isWindow.f (a0_0 : Int) (a0_1 : Int) (a0_2 : Int) (a0_3 : Int) (a0_4 : Int) (a0_5 : Int) (a0_6 : Int) (l0_7 : List Int) (l0_8 : List Int) (a1_0 : Int) (a1_1 : Int) (a1_2 : Int) : Option (Bool) := (impl_in.f a0_2 1 (mn (mn 3 a1_0) a1_1)).bind fun t304 => (if t304 = true then ((impl_in.f a0_3 1 2).bind fun t305 => (some t305)) else (some false))
theorem impl_Layer_isWindow.calls (a0_0 : Int) (a0_1 : Int) (a0_2 : Int) (a0_3 : Int) (a0_4 : Int) (a0_5 : Int) (a0_6 : Int) (A0_7 : Option Addr) (c0_7 : Nat) (l0_7 : List Int) (A0_8 : Option Addr) (c0_8 : Nat) (l0_8 : List Int) (a1_0 : Int) (a1_1 : Int) (a1_2 : Int) (r : Bool) (w : World) (hr0_7 : Kd.C (Kd.int .i64) w A0_7 l0_7.length l0_7) (hc0_7 : l0_7.length ≤ c0_7) (hr0_8 : Kd.C (Kd.int .i64) w A0_8 l0_8.length l0_8) (hc0_8 : l0_8.length ≤ c0_8) (h : impl_Layer_isWindow.f a0_0 a0_1 a0_2 a0_3 a0_4 a0_5 a0_6 l0_7 l0_8 a1_0 a1_1 a1_2 = some r) :
   Calls Try.prog 67 #[.agg #[.int .i64 a0_0, .int .i64 a0_1, .int .i64 a0_2, .int .i64 a0_3, .int .i64 a0_4, .int .i64 a0_5, .int .i64 a0_6, .slice A0_7 l0_7.length c0_7, .slice A0_8 l0_8.length c0_8], .agg #[.int .i64 a1_0, .int .i64 a1_1, .int .i64 a1_2]] w fun e w' => e = .returned (.bool r) ∧ Below w.heap.size w w' := by
  have hu37 := Try.underlying37;have hu31 := Try.underlying31;have HR0_7 := am hr0_7;have HC0_7 := am hc0_7;clear hr0_7 hc0_7;have HR0_8 := am hr0_8;have HC0_8 := am hc0_8;clear hr0_8 hc0_8;have HB := am (Below.refl w.heap.size w);have H : ((impl_in.f a0_2 1 (mn (mn 3 a1_0) a1_1)).bind fun t304 => (if t304 = true then ((impl_in.f a0_3 1 2).bind fun t305 => (some t305)) else (some false))) = some r := h;clear h;obtain ⟨ji3, hji3⟩ : ∃ j_ : Int, (mn 3 a1_0) = j_ := ⟨_, rfl⟩;replace H : ((impl_in.f a0_2 1 (mn (ji3) a1_1)).bind fun t304 => (if t304 = true then ((impl_in.f a0_3 1 2).bind fun t305 => (some t305)) else (some false))) = some r := by first | (rw [hji3] at H; exact H) | (simp only [hji3] at H ⊢; exact H)
  (try (have hji3h : ji3 ≤ 3 := by (rw [← hji3]; unfold mn; (repeat' split) <;> omega)));(try (have hji3g : ji3 ≤ 64 := by omega));have hji3_ : (if a1_0 < 3 then a1_0 else 3) = ji3 := hji3;obtain ⟨ji4, hji4⟩ : ∃ j_ : Int, (mn (ji3) a1_1) = j_ := ⟨_, rfl⟩;replace H : ((impl_in.f a0_2 1 (ji4)).bind fun t304 => (if t304 = true then ((impl_in.f a0_3 1 2).bind fun t305 => (some t305)) else (some false))) = some r := by first | (rw [hji4] at H; exact H) | (simp only [hji4] at H ⊢; exact H)
  have hji4_ : (if a1_1 < (ji3) then a1_1 else (ji3)) = ji4 := hji4;obtain ⟨t304, A5, H⟩ := bnd H;(try dsimp only at H);by_cases c6 : t304 = true
  case' neg => skip
  replace c6 := Bool.eq_false_iff.mpr c6;subst c6
  rw [if_neg (show ¬ (false = true) by decide)] at H
  obtain rfl := Option.some.inj H;rotate_left;subst c6;rw [if_pos rfl] at H;obtain ⟨t305, A7, H⟩ := bnd H;(try dsimp only at H);obtain rfl := Option.some.inj H;rotate_left
  all_goals (go_enter Try.func67, Try.ntmps67; go_wp2_with (first | ((with_reducible refine gate_dst (N := 2) rfl ?_); refine boxM 2 #[.int .i64 a0_0, .int .i64 a0_1, .int .i64 a0_2, .int .i64 a0_3, .int .i64 a0_4, .int .i64 a0_5, .int .i64 a0_6, .slice A0_7 l0_7.length c0_7, .slice A0_8 l0_8.length c0_8] 37 ?_; intro gb302 hg w_ BK302 hb; obtain ⟨HB, GW302, GE302⟩ := box_at w hb hg; clear hb hg) | ((with_reducible refine gate_dst (N := 3) rfl ?_); refine boxM 3 #[.int .i64 a1_0, .int .i64 a1_1, .int .i64 a1_2] 31 ?_; intro gb303 hg w_ BK303 hb; obtain ⟨HB, GW303, GE303⟩ := box_at w hb hg; obtain ⟨BK302, NB302_303, NB303_302⟩ := box_on gb302 hb hg; clear hb hg; have hn_ := ne2 NB302_303; have hcz_ := cells9 BK302.out; have hcz_ := cells3 BK303.out) | ((with_reducible refine gate_callee (f := 70) rfl ?_); refine goesL_ (some 12) rfl rfl Try.func70 (by kernel_rfl) rfl #[.int .i64 a0_2, .int .i64 1, .int .i64 ji4] rfl (by (try simp only [List.map_toArray, List.map_cons, List.map_nil]); first | done | (simp only [hji4]; rfl) | rfl | (simp only [List.length_drop, List.length_take]; rfl)) ?_; (with_reducible refine (impl_in.calls a0_2 1 ji4 false _ A5.out).mono ?_); rintro e w' ⟨rfl, ⟨nd, rfl⟩⟩; refine ⟨_, rfl, ?_⟩) | ((with_reducible refine gate_callee (f := 70) rfl ?_); refine goesL_ (some 12) rfl rfl Try.func70 (by kernel_rfl) rfl #[.int .i64 a0_2, .int .i64 1, .int .i64 ji4] rfl (by (try simp only [List.map_toArray, List.map_cons, List.map_nil]); first | done | (simp only [hji4]; rfl) | rfl | (simp only [List.length_drop, List.length_take]; rfl)) ?_; (with_reducible refine (impl_in.calls a0_2 1 ji4 true _ A5.out).mono ?_); rintro e w' ⟨rfl, ⟨nd, rfl⟩⟩; refine ⟨_, rfl, ?_⟩) | (go_at_call 70; (with_reducible refine (impl_in.calls a0_3 1 2 t305 _ A7.out).mono ?_); rintro e w' ⟨rfl, ⟨nd, rfl⟩⟩)))
  ·go_ret
   exact ⟨by first | rfl | (simp [errW_none, errW_some] <;> rfl) | (simp only [← hji3, ← hji4]; first | rfl | (simp [errW_none, errW_some] <;> rfl)) | (simp [*, errW_none, errW_some] <;> rfl), bel_now⟩
  ·go_ret
   exact ⟨by first | rfl | (simp [errW_none, errW_some] <;> rfl) | (simp only [← hji3, ← hji4]; first | rfl | (simp [errW_none, errW_some] <;> rfl)) | (simp [*, errW_none, errW_some] <;> rfl), bel_now⟩

def impl_Layer_windows.f (a0_0 : Int) (a0_1 : Int) (a0_2 : Int) (a0_3 : Int) (a0_4 : Int) (a0_5 : Int) (a0_6 : Int) (l0_7 : List Int) (l0_8 : List Int) (a1_0 : Int) (a1_1 : Int) (a1_2 : Int) (a2 : Int) : Option (Int × Int × Int) := if a0_3 = 0 then (none) else (some (wrap64 ((wrap64 (Int.tdiv (wrap64 (a1_0 - a0_2)) a0_3)) + 1), wrap64 ((wrap64 (Int.tdiv (wrap64 (a1_1 - a0_2)) a0_3)) + 1), a2))
def impl_Layer_windows.T1 : Bool × List (List Nat × List Nat) := (true, [([], []), ([0], [0]), ([], []), ([2], [2]), ([1, 3], [1, 3]), ([], []), ([5], [5]), ([4, 6], [4, 6]), ([7], [7]), ([], []), ([9], [9]), ([], []), ([11], [11]), ([10, 12], [10, 12]), ([], []), ([14], [14]), ([13, 15], [13, 15]), ([16], [16]), ([], []), ([8, 17, 18], [8, 17, 18]), ([19, 0, 1, 2, 3, 4, 5, 6, 7, 8, 9, 10, 11, 12, 13, 14, 15, 16, 17, 18, 19], [19])])
def impl_Layer_windows.B1 : List Nat := [0, 1, 0, 4, 15, 0, 32, 127, 255, 0, 512, 0, 2048, 7680, 0, 16384, 65024, 130560, 0, 524287, 1048575]
theorem impl_Layer_windows.tab1 : rtab .any (opsOf Try.f68 1) = impl_Layer_windows.T1 := by kernel_rfl
theorem impl_Layer_windows.bits1 : waitsOk impl_Layer_windows.T1.2 impl_Layer_windows.B1 = true := by kernel_rfl
theorem impl_Layer_windows.calls (a0_0 : Int) (a0_1 : Int) (a0_2 : Int) (a0_3 : Int) (a0_4 : Int) (a0_5 : Int) (a0_6 : Int) (A0_7 : Option Addr) (c0_7 : Nat) (l0_7 : List Int) (A0_8 : Option Addr) (c0_8 : Nat) (l0_8 : List Int) (a1_0 : Int) (a1_1 : Int) (a1_2 : Int) (a2 : Int) (r1 : Int) (r2 : Int) (r3 : Int) (w : World) (hr0_7 : Kd.C (Kd.int .i64) w A0_7 l0_7.length l0_7) (hc0_7 : l0_7.length ≤ c0_7) (hr0_8 : Kd.C (Kd.int .i64) w A0_8 l0_8.length l0_8) (hc0_8 : l0_8.length ≤ c0_8) (h : impl_Layer_windows.f a0_0 a0_1 a0_2 a0_3 a0_4 a0_5 a0_6 l0_7 l0_8 a1_0 a1_1 a1_2 a2 = some (r1, r2, r3)) :
   Calls Try.prog 68 #[.agg #[.int .i64 a0_0, .int .i64 a0_1, .int .i64 a0_2, .int .i64 a0_3, .int .i64 a0_4, .int .i64 a0_5, .int .i64 a0_6, .slice A0_7 l0_7.length c0_7, .slice A0_8 l0_8.length c0_8], .agg #[.int .i64 a1_0, .int .i64 a1_1, .int .i64 a1_2], .int .i64 a2] w fun e w' => e = .returned (.agg #[.int .i64 r1, .int .i64 r2, .int .i64 r3]) ∧ Below w.heap.size w w' := by
  have hu37 := Try.underlying37;have hu31 := Try.underlying31;have HR0_7 := am hr0_7;have HC0_7 := am hc0_7;clear hr0_7 hc0_7;have HR0_8 := am hr0_8;have HC0_8 := am hc0_8;clear hr0_8 hc0_8;have HB := am (Below.refl w.heap.size w);have H : (if a0_3 = 0 then (none) else (some (wrap64 ((wrap64 (Int.tdiv (wrap64 (a1_0 - a0_2)) a0_3)) + 1), wrap64 ((wrap64 (Int.tdiv (wrap64 (a1_1 - a0_2)) a0_3)) + 1), a2))) = some (r1, r2, r3) := h;clear h;by_cases c4 : a0_3 = 0
  ·rw [if_pos c4] at H;exact absurd H (by simp)
  rw [if_neg c4] at H;have c4b0 : (a0_3 == 0) = false := beq_eq_false_iff_ne.mpr c4;have c4b1 : (a0_3 != 0) = true := bne_iff_ne.mpr c4;simp only [Option.some.injEq, Prod.mk.injEq] at H;obtain ⟨rfl, rfl, rfl⟩ := H
  go_enter Try.func68, Try.ntmps68
  try go_wp2_with (first | ((with_reducible refine gate_dst (N := 3) rfl ?_); refine boxM 3 #[.int .i64 a0_0, .int .i64 a0_1, .int .i64 a0_2, .int .i64 a0_3, .int .i64 a0_4, .int .i64 a0_5, .int .i64 a0_6, .slice A0_7 l0_7.length c0_7, .slice A0_8 l0_8.length c0_8] 37 ?_; intro gb306 hg w5 BK306 hb; obtain ⟨HB, GW306, GE306⟩ := box_at w hb hg; clear hb hg) | ((with_reducible refine gate_dst (N := 4) rfl ?_); refine boxM 4 #[.int .i64 a1_0, .int .i64 a1_1, .int .i64 a1_2] 31 ?_; intro gb307 hg w6 BK307 hb; obtain ⟨HB, GW307, GE307⟩ := box_at w hb hg; obtain ⟨BK306, NB306_307, NB307_306⟩ := box_on gb306 hb hg; clear hb hg) | ((with_reducible refine gate_dst (N := 6) rfl ?_); refine boxM 6 #[.int .i64 0, .int .i64 0, .int .i64 0] 31 ?_; intro gb308 hg w7 BK308 hb; obtain ⟨HB, GW308, GE308⟩ := box_at w hb hg; obtain ⟨BK306, NB306_308, NB308_306⟩ := box_on gb306 hb hg; obtain ⟨BK307, NB307_308, NB308_307⟩ := box_on gb307 hb hg; clear hb hg))
  replace BK306 := am (blk_drew BK306.out);replace BK307 := am (blk_drew BK307.out);replace BK308 := am (blk_drew BK308.out);replace HB := am (below_drew1 HB.out)
  refine start_ (n := 21) (S := fun w' => w'.cell? ⟨gb307, 0, none⟩ = some (.int .i64 a1_0) ∧ w'.cell? ⟨gb307, 1, none⟩ = some (.int .i64 a1_1) ∧ w'.cell? ⟨gb307, 2, none⟩ = some (.int .i64 a1_2) ∧ w'.cell? ⟨gb306, 0, none⟩ = some (.int .i64 a0_0) ∧ w'.cell? ⟨gb306, 1, none⟩ = some (.int .i64 a0_1) ∧ w'.cell? ⟨gb306, 2, none⟩ = some (.int .i64 a0_2) ∧ w'.cell? ⟨gb306, 3, none⟩ = some (.int .i64 a0_3) ∧ w'.cell? ⟨gb306, 4, none⟩ = some (.int .i64 a0_4) ∧ w'.cell? ⟨gb306, 5, none⟩ = some (.int .i64 a0_5) ∧ w'.cell? ⟨gb306, 6, none⟩ = some (.int .i64 a0_6) ∧ w'.cell? ⟨gb306, 7, none⟩ = some (.slice A0_7 l0_7.length c0_7) ∧ w'.cell? ⟨gb306, 8, none⟩ = some (.slice A0_8 l0_8.length c0_8)) (ds := []) #[O, O, O, O, O, O, O, O, O, O, O, O, O, O, O, O, O, O, O, O, O] (by kernel_rfl) rfl rfl ⟨bc BK307 0, bc BK307 1, bc BK307 2, bc BK306 0, bc BK306 1, bc BK306 2, bc BK306 3, bc BK306 4, bc BK306 5, bc BK306 6, bc BK306 7, bc BK306 8⟩ (fun hHeld => ?_); refine with_tabW impl_Layer_windows.tab1 impl_Layer_windows.bits1 (fun HT_ HW_ => ?_)
  generalize w7.drew = w8 at BK306 BK307 BK308 HB hHeld ⊢
  refine stepP 0 (some 7) (tk 21 1) (any_of HT_.out (by kernel_rfl)) ?_
  refine stepP 2 (some 9) (tk 21 5) (any_of HT_.out (by kernel_rfl)) ?_
  refine stepP 5 (some 12) (tk 21 37) (any_of HT_.out (by kernel_rfl)) ?_
  refine stepP 9 (some 16) (tk 21 549) (any_of HT_.out (by kernel_rfl)) ?_
  refine stepP 11 (some 18) (tk 21 2597) (any_of HT_.out (by kernel_rfl)) ?_
  refine stepP 14 (some 21) (tk 21 18981) (any_of HT_.out (by kernel_rfl)) ?_
  refine stepP 18 (some 25) (tk 21 281125) (any_of HT_.out (by kernel_rfl)) ?_
  refine stepT 1 (some 8) (tk 21 281127) (take_ofW HT_.out HW_.out (by kernel_rfl)) hHeld ?_
  refine stepT 3 (some 10) (tk 21 281135) (take_ofW HT_.out HW_.out (by kernel_rfl)) hHeld ?_
  refine stepP 4 (some 11) (tk 21 281151) (any_of HT_.out (by kernel_rfl)) ?_
  refine stepT 6 (some 13) (tk 21 281215) (take_ofW HT_.out HW_.out (by kernel_rfl)) hHeld ?_
  refine stepP 7 (some 14) (tk 21 281343) (any_of HT_.out (by kernel_rfl)) ?_
  refine stepP 8 (some 15) (tk 21 281599) (any_of HT_.out (by kernel_rfl)) ?_
  refine stepT 10 (some 17) (tk 21 282623) (take_ofW HT_.out HW_.out (by kernel_rfl)) hHeld ?_
  refine stepT 12 (some 19) (tk 21 286719) (take_ofW HT_.out HW_.out (by kernel_rfl)) hHeld ?_
  refine stepP 13 (some 20) (tk 21 294911) (any_of HT_.out (by kernel_rfl)) ?_
  refine stepT 15 (some 22) (tk 21 327679) (take_ofW HT_.out HW_.out (by kernel_rfl)) hHeld ?_
  refine stepP 16 (some 23) (tk 21 393215) (any_of HT_.out (by kernel_rfl)) ?_
  refine stepP 17 (some 24) (tk 21 524287) (any_of HT_.out (by kernel_rfl)) ?_
  refine stepP 19 (some 26) (tk 21 1048575) (any_of HT_.out (by kernel_rfl)) ?_
  refine one_ (i := 20) (N := none) #[I, I, I, I, I, I, I, I, I, I, I, I, I, I, I, I, I, I, I, I, I] rfl rfl (one_of HT_.out (by kernel_rfl)) (by decide) (fun K hK => ?_)
  have hs9 : w8.cell? ⟨gb308, 0, none⟩ = some (.int .i64 0) := (blk_cell BK308.out 0).trans rfl;have hfs9 := blk_frozen BK308.out 0;have hns9_0 := NB306_308.out;have hns9_1 := NB307_308.out;have hms9_0 := NB308_306.out;have hms9_1 := NB308_307.out;have hs10 : w8.cell? ⟨gb308, 1, none⟩ = some (.int .i64 0) := (blk_cell BK308.out 1).trans rfl;have hfs10 := blk_frozen BK308.out 1;have hns10_0 := NB306_308.out;have hns10_1 := NB307_308.out;have hms10_0 := NB308_306.out;have hms10_1 := NB308_307.out;have hs11 : w8.cell? ⟨gb308, 2, none⟩ = some (.int .i64 0) := (blk_cell BK308.out 2).trans rfl;have hfs11 := blk_frozen BK308.out 2;have hns11_0 := NB306_308.out;have hns11_1 := NB307_308.out;have hms11_0 := NB308_306.out;have hms11_1 := NB308_307.out
  refine skip_ (w1 := ?_) (by rfl) rfl ?_ ?_
  rotate_left
  ·go_simp
   rfl
  refine hK.out _ _ ⟨(far3 NB307_308.out (hHeld.1)), (far3 NB307_308.out (hHeld.2.1)), (far3 NB307_308.out (hHeld.2.2.1)), (far3 NB306_308.out (hHeld.2.2.2.1)), (far3 NB306_308.out (hHeld.2.2.2.2.1)), (far3 NB306_308.out (hHeld.2.2.2.2.2.1)), (far3 NB306_308.out (hHeld.2.2.2.2.2.2.1)), (far3 NB306_308.out (hHeld.2.2.2.2.2.2.2.1)), (far3 NB306_308.out (hHeld.2.2.2.2.2.2.2.2.1)), (far3 NB306_308.out (hHeld.2.2.2.2.2.2.2.2.2.1)), (far3 NB306_308.out (hHeld.2.2.2.2.2.2.2.2.2.2.1)), (far3 NB306_308.out (hHeld.2.2.2.2.2.2.2.2.2.2.2))⟩ (fun hHeld => ?_)
  clear hK K
  refine done_ (done_of HT_.out (by kernel_rfl)) ?_
  try go_wp2
  refine bodyPost_ret (results_cell_row rfl _ _ gb308 31 #[.int .i64 (wrap64 ((wrap64 (Int.tdiv (wrap64 (a1_0 - a0_2)) a0_3)) + 1)), .int .i64 (wrap64 ((wrap64 (Int.tdiv (wrap64 (a1_1 - a0_2)) a0_3)) + 1)), .int .i64 a2] (0, 0) _ rfl (blk_fars (puts3 BK308.out)) Try.underlying31 rfl (by kernel_rfl)) rfl ?_
  exact ⟨eqN, bel_now⟩

def impl_Layer_isBare.f (a0_0 : Int) (a0_1 : Int) (a0_2 : Int) (a0_3 : Int) (a0_4 : Int) (a0_5 : Int) (a0_6 : Int) (l0_7 : List Int) (l0_8 : List Int) : Option (Bool) := if a0_1 = 0 then (if a0_4 = 0 then (if a0_5 = 0 then (if (l0_7.length : Int) = 0 then (some ((l0_8.length : Int) == 0)) else (some false)) else (some false)) else (some false)) else (some false)
theorem impl_Layer_isBare.calls (a0_0 : Int) (a0_1 : Int) (a0_2 : Int) (a0_3 : Int) (a0_4 : Int) (a0_5 : Int) (a0_6 : Int) (A0_7 : Option Addr) (c0_7 : Nat) (l0_7 : List Int) (A0_8 : Option Addr) (c0_8 : Nat) (l0_8 : List Int) (r : Bool) (w : World) (hr0_7 : Kd.C (Kd.int .i64) w A0_7 l0_7.length l0_7) (hc0_7 : l0_7.length ≤ c0_7) (hr0_8 : Kd.C (Kd.int .i64) w A0_8 l0_8.length l0_8) (hc0_8 : l0_8.length ≤ c0_8) (h : impl_Layer_isBare.f a0_0 a0_1 a0_2 a0_3 a0_4 a0_5 a0_6 l0_7 l0_8 = some r) :
   Calls Try.prog 69 #[.agg #[.int .i64 a0_0, .int .i64 a0_1, .int .i64 a0_2, .int .i64 a0_3, .int .i64 a0_4, .int .i64 a0_5, .int .i64 a0_6, .slice A0_7 l0_7.length c0_7, .slice A0_8 l0_8.length c0_8]] w fun e w' => e = .returned (.bool r) ∧ Below w.heap.size w w' := by
  have hu37 := Try.underlying37;have HR0_7 := am hr0_7;have HC0_7 := am hc0_7;clear hr0_7 hc0_7;have HR0_8 := am hr0_8;have HC0_8 := am hc0_8;clear hr0_8 hc0_8;have HB := am (Below.refl w.heap.size w);have H : (if a0_1 = 0 then (if a0_4 = 0 then (if a0_5 = 0 then (if (l0_7.length : Int) = 0 then (some ((l0_8.length : Int) == 0)) else (some false)) else (some false)) else (some false)) else (some false)) = some r := h;clear h;by_cases c2 : a0_1 = 0
  case' neg => skip
  rw [if_neg c2] at H;have c2b0 : (a0_1 == 0) = false := beq_eq_false_iff_ne.mpr c2;have c2b1 : (a0_1 != 0) = true := bne_iff_ne.mpr c2;obtain rfl := Option.some.inj H;rotate_left;rw [if_pos c2] at H;have c2b0 : (a0_1 == 0) = true := beq_iff_eq.mpr c2;have c2b1 : (a0_1 != 0) = false := bne_eq_false_iff_eq.mpr c2;clear c2;by_cases c3 : a0_4 = 0
  case' neg => skip
  rw [if_neg c3] at H;have c3b0 : (a0_4 == 0) = false := beq_eq_false_iff_ne.mpr c3;have c3b1 : (a0_4 != 0) = true := bne_iff_ne.mpr c3;obtain rfl := Option.some.inj H;rotate_left;rw [if_pos c3] at H;have c3b0 : (a0_4 == 0) = true := beq_iff_eq.mpr c3;have c3b1 : (a0_4 != 0) = false := bne_eq_false_iff_eq.mpr c3;clear c3;by_cases c4 : a0_5 = 0
  case' neg => skip
  rw [if_neg c4] at H;have c4b0 : (a0_5 == 0) = false := beq_eq_false_iff_ne.mpr c4;have c4b1 : (a0_5 != 0) = true := bne_iff_ne.mpr c4;obtain rfl := Option.some.inj H;rotate_left;rw [if_pos c4] at H;have c4b0 : (a0_5 == 0) = true := beq_iff_eq.mpr c4;have c4b1 : (a0_5 != 0) = false := bne_eq_false_iff_eq.mpr c4;clear c4;by_cases c5 : (l0_7.length : Int) = 0;rw [if_pos c5] at H;have c5b0 : ((l0_7.length : Int) == 0) = true := beq_iff_eq.mpr c5;have c5b1 : ((l0_7.length : Int) != 0) = false := bne_eq_false_iff_eq.mpr c5;clear c5;obtain rfl := Option.some.inj H;rotate_left;rw [if_neg c5] at H;have c5b0 : ((l0_7.length : Int) == 0) = false := beq_eq_false_iff_ne.mpr c5;have c5b1 : ((l0_7.length : Int) != 0) = true := bne_iff_ne.mpr c5;have c5b2 : ¬ (l0_7 = []) := fun h_ => c5 (by rw [h_]; rfl);obtain rfl := Option.some.inj H;rotate_left
  all_goals (go_enter Try.func69, Try.ntmps69; go_wp2_with (first | ((with_reducible refine gate_dst (N := 1) rfl ?_); (try (refine gate_guard (by rfl) ?_; dsimp only)); refine boxM 1 #[.int .i64 a0_0, .int .i64 a0_1, .int .i64 a0_2, .int .i64 a0_3, .int .i64 a0_4, .int .i64 a0_5, .int .i64 a0_6, .slice A0_7 l0_7.length c0_7, .slice A0_8 l0_8.length c0_8] 37 ?_; intro gb309 hg w_ BK309 hb; obtain ⟨HB, GW309, GE309⟩ := box_at w hb hg; clear hb hg; have hcz_ := cells9 BK309.out)))
  ·go_ret
   exact ⟨eqN, bel_now⟩
  ·go_ret
   exact ⟨eqN, bel_now⟩
  ·go_ret
   exact ⟨eqN, bel_now⟩
  ·go_ret
   exact ⟨eqN, bel_now⟩
  ·go_ret
   exact ⟨eqN, bel_now⟩

end Go.Proofs.Ytclpojeofclbjaa.PFnExactDecodeModel
