import Derived.Test.YtjmejobelkllmaaPFnStoredx0
namespace Go.Proofs.Ytjmejobelkllmaa.PFnStored
open Go.RowKit Go.Proofs.YtjmejobelkllmaaW.PrintWords Go.Proofs.YtjmejobelkllmaaW.PrintLast Go.Proofs.YtjmejobelkllmaaW.PrintMore
attribute [local go_sem] max2_int min2_int max_two min_two max_three min_three max_four min_four
set_option maxHeartbeats 8000000
set_option maxRecDepth 100000
set_option linter.unusedVariables false
set_option linter.unusedSimpArgs false

def impl_Layer_windows.f (a0_0 : Int) (a0_1 : Int) (a0_2 : Int) (a0_3 : Int) (a0_4 : Int) (a0_5 : Int) (a0_6 : Int) (l0_7 : List Int) (l0_8 : List Int) (a1_0 : Int) (a1_1 : Int) (a1_2 : Int) (a2 : Int) : Option (Int × Int × Int) := if a0_3 = 0 then (none) else (some (wrap64 ((wrap64 (Int.tdiv (wrap64 (a1_0 - a0_2)) a0_3)) + 1), wrap64 ((wrap64 (Int.tdiv (wrap64 (a1_1 - a0_2)) a0_3)) + 1), a2))
def impl_Layer_windows.T1 : Bool × List (List Nat × List Nat) := (true, [([], []), ([0], [0]), ([], []), ([2], [2]), ([1, 3], [1, 3]), ([], []), ([5], [5]), ([4, 6], [4, 6]), ([7], [7]), ([], []), ([9], [9]), ([], []), ([11], [11]), ([10, 12], [10, 12]), ([], []), ([14], [14]), ([13, 15], [13, 15]), ([16], [16]), ([], []), ([8, 17, 18], [8, 17, 18]), ([19, 0, 1, 2, 3, 4, 5, 6, 7, 8, 9, 10, 11, 12, 13, 14, 15, 16, 17, 18, 19], [19])])
def impl_Layer_windows.B1 : List Nat := [0, 1, 0, 4, 15, 0, 32, 127, 255, 0, 512, 0, 2048, 7680, 0, 16384, 65024, 130560, 0, 524287, 1048575]
theorem impl_Layer_windows.tab1 : rtab .any (opsOf Try.f74 1) = impl_Layer_windows.T1 := by kernel_rfl
theorem impl_Layer_windows.bits1 : waitsOk impl_Layer_windows.T1.2 impl_Layer_windows.B1 = true := by kernel_rfl
theorem impl_Layer_windows.calls (a0_0 : Int) (a0_1 : Int) (a0_2 : Int) (a0_3 : Int) (a0_4 : Int) (a0_5 : Int) (a0_6 : Int) (A0_7 : Option Addr) (c0_7 : Nat) (l0_7 : List Int) (A0_8 : Option Addr) (c0_8 : Nat) (l0_8 : List Int) (a1_0 : Int) (a1_1 : Int) (a1_2 : Int) (a2 : Int) (r1 : Int) (r2 : Int) (r3 : Int) (w : World) (hr0_7 : Kd.C (Kd.int .i64) w A0_7 l0_7.length l0_7) (hc0_7 : l0_7.length ≤ c0_7) (hr0_8 : Kd.C (Kd.int .i64) w A0_8 l0_8.length l0_8) (hc0_8 : l0_8.length ≤ c0_8) (h : impl_Layer_windows.f a0_0 a0_1 a0_2 a0_3 a0_4 a0_5 a0_6 l0_7 l0_8 a1_0 a1_1 a1_2 a2 = some (r1, r2, r3)) :
   Calls Try.prog 74 #[.agg #[.int .i64 a0_0, .int .i64 a0_1, .int .i64 a0_2, .int .i64 a0_3, .int .i64 a0_4, .int .i64 a0_5, .int .i64 a0_6, .slice A0_7 l0_7.length c0_7, .slice A0_8 l0_8.length c0_8], .agg #[.int .i64 a1_0, .int .i64 a1_1, .int .i64 a1_2], .int .i64 a2] w fun e w' => e = .returned (.agg #[.int .i64 r1, .int .i64 r2, .int .i64 r3]) ∧ Below w.heap.size w w' := by
  have hu46 := Try.underlying46;have hu24 := Try.underlying24;have HR0_7 := am hr0_7;have HC0_7 := am hc0_7;clear hr0_7 hc0_7;have HR0_8 := am hr0_8;have HC0_8 := am hc0_8;clear hr0_8 hc0_8;have HB := am (Below.refl w.heap.size w);have H : (if a0_3 = 0 then (none) else (some (wrap64 ((wrap64 (Int.tdiv (wrap64 (a1_0 - a0_2)) a0_3)) + 1), wrap64 ((wrap64 (Int.tdiv (wrap64 (a1_1 - a0_2)) a0_3)) + 1), a2))) = some (r1, r2, r3) := h;clear h;by_cases c4 : a0_3 = 0
  ·rw [if_pos c4] at H;exact absurd H (by simp)
  rw [if_neg c4] at H;have c4b0 : (a0_3 == 0) = false := beq_eq_false_iff_ne.mpr c4;have c4b1 : (a0_3 != 0) = true := bne_iff_ne.mpr c4;simp only [Option.some.injEq, Prod.mk.injEq] at H;obtain ⟨rfl, rfl, rfl⟩ := H
  go_enter Try.func74, Try.ntmps74
  try go_wp2_with (first | ((with_reducible refine gate_dst (N := 3) rfl ?_); refine boxM 3 #[.int .i64 a0_0, .int .i64 a0_1, .int .i64 a0_2, .int .i64 a0_3, .int .i64 a0_4, .int .i64 a0_5, .int .i64 a0_6, .slice A0_7 l0_7.length c0_7, .slice A0_8 l0_8.length c0_8] 46 ?_; intro gb436 hg w5 BK436 hb; obtain ⟨HB, GW436, GE436⟩ := box_at w hb hg; clear hb hg) | ((with_reducible refine gate_dst (N := 4) rfl ?_); refine boxM 4 #[.int .i64 a1_0, .int .i64 a1_1, .int .i64 a1_2] 24 ?_; intro gb437 hg w6 BK437 hb; obtain ⟨HB, GW437, GE437⟩ := box_at w hb hg; obtain ⟨BK436, NB436_437, NB437_436⟩ := box_on gb436 hb hg; clear hb hg) | ((with_reducible refine gate_dst (N := 6) rfl ?_); refine boxM 6 #[.int .i64 0, .int .i64 0, .int .i64 0] 24 ?_; intro gb438 hg w7 BK438 hb; obtain ⟨HB, GW438, GE438⟩ := box_at w hb hg; obtain ⟨BK436, NB436_438, NB438_436⟩ := box_on gb436 hb hg; obtain ⟨BK437, NB437_438, NB438_437⟩ := box_on gb437 hb hg; clear hb hg))
  replace BK436 := am (blk_drew BK436.out);replace BK437 := am (blk_drew BK437.out);replace BK438 := am (blk_drew BK438.out);replace HB := am (below_drew1 HB.out)
  refine start_ (n := 21) (S := fun w' => w'.cell? ⟨gb437, 0, none⟩ = some (.int .i64 a1_0) ∧ w'.cell? ⟨gb437, 1, none⟩ = some (.int .i64 a1_1) ∧ w'.cell? ⟨gb437, 2, none⟩ = some (.int .i64 a1_2) ∧ w'.cell? ⟨gb436, 0, none⟩ = some (.int .i64 a0_0) ∧ w'.cell? ⟨gb436, 1, none⟩ = some (.int .i64 a0_1) ∧ w'.cell? ⟨gb436, 2, none⟩ = some (.int .i64 a0_2) ∧ w'.cell? ⟨gb436, 3, none⟩ = some (.int .i64 a0_3) ∧ w'.cell? ⟨gb436, 4, none⟩ = some (.int .i64 a0_4) ∧ w'.cell? ⟨gb436, 5, none⟩ = some (.int .i64 a0_5) ∧ w'.cell? ⟨gb436, 6, none⟩ = some (.int .i64 a0_6) ∧ w'.cell? ⟨gb436, 7, none⟩ = some (.slice A0_7 l0_7.length c0_7) ∧ w'.cell? ⟨gb436, 8, none⟩ = some (.slice A0_8 l0_8.length c0_8)) (ds := []) #[O, O, O, O, O, O, O, O, O, O, O, O, O, O, O, O, O, O, O, O, O] (by kernel_rfl) rfl rfl ⟨bc BK437 0, bc BK437 1, bc BK437 2, bc BK436 0, bc BK436 1, bc BK436 2, bc BK436 3, bc BK436 4, bc BK436 5, bc BK436 6, bc BK436 7, bc BK436 8⟩ (fun hHeld => ?_); refine with_tabW impl_Layer_windows.tab1 impl_Layer_windows.bits1 (fun HT_ HW_ => ?_)
  generalize w7.drew = w8 at BK436 BK437 BK438 HB hHeld ⊢
  refine stepP 0 (some 7) (tk 21 1) (any_of HT_.out (by kernel_rfl)) ?_
  refine stepP 2 (some 9) (tk 21 5) (any_of HT_.out (by kernel_rfl)) ?_
  refine stepP 5 (some 12) (tk 21 37) (any_of HT_.out (by kernel_rfl)) ?_
  refine stepP 9 (some 16) (tk 21 549) (any_of HT_.out (by kernel_rfl)) ?_
  refine stepP 11 (some 18) (tk 21 2597) (any_of HT_.out (by kernel_rfl)) ?_
  refine stepP 14 (some 21) (tk 21 18981) (any_of HT_.out (by kernel_rfl)) ?_
  refine stepP 18 (some 25) (tk 21 281125) (any_of HT_.out (by kernel_rfl)) ?_
  refine stepT 1 (some 8) (tk 21 281127) (take_ofW HT_.out HW_.out (by kernel_rfl)) hHeld ?_
  refine stepT 3 (some 10) (tk 21 281135) (take_ofW HT_.out HW_.out (by kernel_rfl)) hHeld ?_
  refine stepP 4 (some 11) (tk 21 281151) (any_of HT_.out (by kernel_rfl)) ?_
  refine stepT 6 (some 13) (tk 21 281215) (take_ofW HT_.out HW_.out (by kernel_rfl)) hHeld ?_
  refine stepP 7 (some 14) (tk 21 281343) (any_of HT_.out (by kernel_rfl)) ?_
  refine stepP 8 (some 15) (tk 21 281599) (any_of HT_.out (by kernel_rfl)) ?_
  refine stepT 10 (some 17) (tk 21 282623) (take_ofW HT_.out HW_.out (by kernel_rfl)) hHeld ?_
  refine stepT 12 (some 19) (tk 21 286719) (take_ofW HT_.out HW_.out (by kernel_rfl)) hHeld ?_
  refine stepP 13 (some 20) (tk 21 294911) (any_of HT_.out (by kernel_rfl)) ?_
  refine stepT 15 (some 22) (tk 21 327679) (take_ofW HT_.out HW_.out (by kernel_rfl)) hHeld ?_
  refine stepP 16 (some 23) (tk 21 393215) (any_of HT_.out (by kernel_rfl)) ?_
  refine stepP 17 (some 24) (tk 21 524287) (any_of HT_.out (by kernel_rfl)) ?_
  refine stepP 19 (some 26) (tk 21 1048575) (any_of HT_.out (by kernel_rfl)) ?_
  refine one_ (i := 20) (N := none) #[I, I, I, I, I, I, I, I, I, I, I, I, I, I, I, I, I, I, I, I, I] rfl rfl (one_of HT_.out (by kernel_rfl)) (by decide) (fun K hK => ?_)
  have hs9 : w8.cell? ⟨gb438, 0, none⟩ = some (.int .i64 0) := (blk_cell BK438.out 0).trans rfl;have hfs9 := blk_frozen BK438.out 0;have hns9_0 := NB436_438.out;have hns9_1 := NB437_438.out;have hms9_0 := NB438_436.out;have hms9_1 := NB438_437.out;have hs10 : w8.cell? ⟨gb438, 1, none⟩ = some (.int .i64 0) := (blk_cell BK438.out 1).trans rfl;have hfs10 := blk_frozen BK438.out 1;have hns10_0 := NB436_438.out;have hns10_1 := NB437_438.out;have hms10_0 := NB438_436.out;have hms10_1 := NB438_437.out;have hs11 : w8.cell? ⟨gb438, 2, none⟩ = some (.int .i64 0) := (blk_cell BK438.out 2).trans rfl;have hfs11 := blk_frozen BK438.out 2;have hns11_0 := NB436_438.out;have hns11_1 := NB437_438.out;have hms11_0 := NB438_436.out;have hms11_1 := NB438_437.out
  refine skip_ (w1 := ?_) (by rfl) rfl ?_ ?_
  rotate_left
  ·go_simp
   rfl
  refine hK.out _ _ ⟨(far3 NB437_438.out (hHeld.1)), (far3 NB437_438.out (hHeld.2.1)), (far3 NB437_438.out (hHeld.2.2.1)), (far3 NB436_438.out (hHeld.2.2.2.1)), (far3 NB436_438.out (hHeld.2.2.2.2.1)), (far3 NB436_438.out (hHeld.2.2.2.2.2.1)), (far3 NB436_438.out (hHeld.2.2.2.2.2.2.1)), (far3 NB436_438.out (hHeld.2.2.2.2.2.2.2.1)), (far3 NB436_438.out (hHeld.2.2.2.2.2.2.2.2.1)), (far3 NB436_438.out (hHeld.2.2.2.2.2.2.2.2.2.1)), (far3 NB436_438.out (hHeld.2.2.2.2.2.2.2.2.2.2.1)), (far3 NB436_438.out (hHeld.2.2.2.2.2.2.2.2.2.2.2))⟩ (fun hHeld => ?_)
  clear hK K
  refine done_ (done_of HT_.out (by kernel_rfl)) ?_
  try go_wp2
  refine bodyPost_ret (results_cell_row rfl _ _ gb438 24 #[.int .i64 (wrap64 ((wrap64 (Int.tdiv (wrap64 (a1_0 - a0_2)) a0_3)) + 1)), .int .i64 (wrap64 ((wrap64 (Int.tdiv (wrap64 (a1_1 - a0_2)) a0_3)) + 1)), .int .i64 a2] (0, 0) _ rfl (blk_fars (puts3 BK438.out)) Try.underlying24 rfl (by kernel_rfl)) rfl ?_
  exact ⟨eqN, bel_now⟩

def impl_Layer_isBare.f (a0_0 : Int) (a0_1 : Int) (a0_2 : Int) (a0_3 : Int) (a0_4 : Int) (a0_5 : Int) (a0_6 : Int) (l0_7 : List Int) (l0_8 : List Int) : Option (Bool) := if a0_1 = 0 then (if a0_4 = 0 then (if a0_5 = 0 then (if (l0_7.length : Int) = 0 then (some ((l0_8.length : Int) == 0)) else (some false)) else (some false)) else (some false)) else (some false)
theorem impl_Layer_isBare.calls (a0_0 : Int) (a0_1 : Int) (a0_2 : Int) (a0_3 : Int) (a0_4 : Int) (a0_5 : Int) (a0_6 : Int) (A0_7 : Option Addr) (c0_7 : Nat) (l0_7 : List Int) (A0_8 : Option Addr) (c0_8 : Nat) (l0_8 : List Int) (r : Bool) (w : World) (hr0_7 : Kd.C (Kd.int .i64) w A0_7 l0_7.length l0_7) (hc0_7 : l0_7.length ≤ c0_7) (hr0_8 : Kd.C (Kd.int .i64) w A0_8 l0_8.length l0_8) (hc0_8 : l0_8.length ≤ c0_8) (h : impl_Layer_isBare.f a0_0 a0_1 a0_2 a0_3 a0_4 a0_5 a0_6 l0_7 l0_8 = some r) :
   Calls Try.prog 75 #[.agg #[.int .i64 a0_0, .int .i64 a0_1, .int .i64 a0_2, .int .i64 a0_3, .int .i64 a0_4, .int .i64 a0_5, .int .i64 a0_6, .slice A0_7 l0_7.length c0_7, .slice A0_8 l0_8.length c0_8]] w fun e w' => e = .returned (.bool r) ∧ Below w.heap.size w w' := by
  have hu46 := Try.underlying46;have HR0_7 := am hr0_7;have HC0_7 := am hc0_7;clear hr0_7 hc0_7;have HR0_8 := am hr0_8;have HC0_8 := am hc0_8;clear hr0_8 hc0_8;have HB := am (Below.refl w.heap.size w);have H : (if a0_1 = 0 then (if a0_4 = 0 then (if a0_5 = 0 then (if (l0_7.length : Int) = 0 then (some ((l0_8.length : Int) == 0)) else (some false)) else (some false)) else (some false)) else (some false)) = some r := h;clear h;by_cases c2 : a0_1 = 0
  case' neg => skip
  rw [if_neg c2] at H;have c2b0 : (a0_1 == 0) = false := beq_eq_false_iff_ne.mpr c2;have c2b1 : (a0_1 != 0) = true := bne_iff_ne.mpr c2;obtain rfl := Option.some.inj H;rotate_left;rw [if_pos c2] at H;have c2b0 : (a0_1 == 0) = true := beq_iff_eq.mpr c2;have c2b1 : (a0_1 != 0) = false := bne_eq_false_iff_eq.mpr c2;clear c2;by_cases c3 : a0_4 = 0
  case' neg => skip
  rw [if_neg c3] at H;have c3b0 : (a0_4 == 0) = false := beq_eq_false_iff_ne.mpr c3;have c3b1 : (a0_4 != 0) = true := bne_iff_ne.mpr c3;obtain rfl := Option.some.inj H;rotate_left;rw [if_pos c3] at H;have c3b0 : (a0_4 == 0) = true := beq_iff_eq.mpr c3;have c3b1 : (a0_4 != 0) = false := bne_eq_false_iff_eq.mpr c3;clear c3;by_cases c4 : a0_5 = 0
  case' neg => skip
  rw [if_neg c4] at H;have c4b0 : (a0_5 == 0) = false := beq_eq_false_iff_ne.mpr c4;have c4b1 : (a0_5 != 0) = true := bne_iff_ne.mpr c4;obtain rfl := Option.some.inj H;rotate_left;rw [if_pos c4] at H;have c4b0 : (a0_5 == 0) = true := beq_iff_eq.mpr c4;have c4b1 : (a0_5 != 0) = false := bne_eq_false_iff_eq.mpr c4;clear c4;by_cases c5 : (l0_7.length : Int) = 0;rw [if_pos c5] at H;have c5b0 : ((l0_7.length : Int) == 0) = true := beq_iff_eq.mpr c5;have c5b1 : ((l0_7.length : Int) != 0) = false := bne_eq_false_iff_eq.mpr c5;clear c5;obtain rfl := Option.some.inj H;rotate_left;rw [if_neg c5] at H;have c5b0 : ((l0_7.length : Int) == 0) = false := beq_eq_false_iff_ne.mpr c5;have c5b1 : ((l0_7.length : Int) != 0) = true := bne_iff_ne.mpr c5;have c5b2 : ¬ (l0_7 = []) := fun h_ => c5 (by rw [h_]; rfl);obtain rfl := Option.some.inj H;rotate_left
  all_goals (go_enter Try.func75, Try.ntmps75; go_wp2_with (first | ((with_reducible refine gate_dst (N := 1) rfl ?_); (try (refine gate_guard (by rfl) ?_; dsimp only)); refine boxM 1 #[.int .i64 a0_0, .int .i64 a0_1, .int .i64 a0_2, .int .i64 a0_3, .int .i64 a0_4, .int .i64 a0_5, .int .i64 a0_6, .slice A0_7 l0_7.length c0_7, .slice A0_8 l0_8.length c0_8] 46 ?_; intro gb439 hg w_ BK439 hb; obtain ⟨HB, GW439, GE439⟩ := box_at w hb hg; clear hb hg; have hcz_ := cells9 BK439.out)))
  ·go_ret
   exact ⟨eqN, bel_now⟩
  ·go_ret
   exact ⟨eqN, bel_now⟩
  ·go_ret
   exact ⟨eqN, bel_now⟩
  ·go_ret
   exact ⟨eqN, bel_now⟩
  ·go_ret
   exact ⟨eqN, bel_now⟩

end Go.Proofs.Ytjmejobelkllmaa.PFnStored
