import Derived.Test.YtclpojeofclbjaaPFnLayersx0
import Derived.Test.YtclpojeofclbjaaPFnLayersx15
namespace Go.Proofs.Ytclpojeofclbjaa.PFnLayers
open Go.RowKit Go.Proofs.YtclpojeofclbjaaW.PrintWords Go.Proofs.YtclpojeofclbjaaW.PrintLast Go.Proofs.YtclpojeofclbjaaW.PrintMore
attribute [local go_sem] max2_int min2_int max_two min_two max_three min_three max_four min_four
set_option maxHeartbeats 8000000
set_option maxRecDepth 100000
set_option linter.unusedVariables false
set_option linter.unusedSimpArgs false

def impl_TensorOk.f (k : Nat) (a0_0 : Int) (a0_1 : Int) (a0_2 : Int) (l0_3 : List Int) : Option (Bool) := (impl_ShapeOk.f a0_0 a0_1 a0_2).bind fun t597 => (if t597 = true then ((impl_SizeOf.f a0_0 a0_1 a0_2).bind fun t598 => (if (l0_3.length : Int) = t598 then ((impl_areItems.f k l0_3).bind fun t599 => (some t599)) else (some false))) else (some false))
def impl_TensorOk.T1 : Bool × List (List Nat × List Nat) := (true, [([], []), ([0], [0]), ([1], [1]), ([2, 2], [2]), ([3], [3]), ([4, 3], [3, 4]), ([5, 3], [3, 5]), ([3], [3]), ([7, 3], [3, 7]), ([8, 3, 3], [3, 8]), ([6, 9, 3], [3, 6, 9]), ([3, 10], [3, 10]), ([11, 9], [11]), ([12], [12]), ([13, 12], [12, 13]), ([14, 12, 12], [12, 14]), ([12, 15], [12, 15]), ([16, 15, 0, 1, 2, 3, 4, 5, 6, 7, 8, 9, 10, 11, 12, 13, 14, 15, 16], [16])])
def impl_TensorOk.B1 : List Nat := [0, 1, 3, 7, 15, 31, 63, 15, 143, 399, 1023, 2047, 4095, 8191, 16383, 32767, 65535, 131071]
theorem impl_TensorOk.tab1 : rtab .any (opsOf Try.f52 1) = impl_TensorOk.T1 := by kernel_rfl
theorem impl_TensorOk.bits1 : waitsOk impl_TensorOk.T1.2 impl_TensorOk.B1 = true := by kernel_rfl
theorem impl_TensorOk.calls (k : Nat) (a0_0 : Int) (a0_1 : Int) (a0_2 : Int) (A0_3 : Option Addr) (c0_3 : Nat) (l0_3 : List Int) (r : Bool) (w : World) (hr0_3 : Kd.C (Kd.int .i64) w A0_3 l0_3.length l0_3) (hc0_3 : l0_3.length ≤ c0_3) (h : impl_TensorOk.f k a0_0 a0_1 a0_2 l0_3 = some r) :
   Calls Try.prog 52 #[.agg #[.int .i64 a0_0, .int .i64 a0_1, .int .i64 a0_2, .slice A0_3 l0_3.length c0_3]] w fun e w' => e = .returned (.bool r) ∧ Below w.heap.size w w' := by
  have hu33 := Try.underlying33;have hu31 := Try.underlying31;have HR0_3 := am hr0_3;have HC0_3 := am hc0_3;clear hr0_3 hc0_3;have HB := am (Below.refl w.heap.size w);have H : ((impl_ShapeOk.f a0_0 a0_1 a0_2).bind fun t597 => (if t597 = true then ((impl_SizeOf.f a0_0 a0_1 a0_2).bind fun t598 => (if (l0_3.length : Int) = t598 then ((impl_areItems.f k l0_3).bind fun t599 => (some t599)) else (some false))) else (some false))) = some r := h;clear h;obtain ⟨t597, A2, H⟩ := bnd H;(try dsimp only at H);by_cases c3 : t597 = true;rotate_left
  ·replace c3 := Bool.eq_false_iff.mpr c3;subst c3
   rw [if_neg (show ¬ (false = true) by decide)] at H
   obtain rfl := Option.some.inj H
   go_enter Try.func52, Try.ntmps52
   try go_wp2_with (first | ((with_reducible refine gate_dst (N := 1) rfl ?_); (try (refine gate_guard (by rfl) ?_; dsimp only)); refine boxM 1 #[.int .i64 a0_0, .int .i64 a0_1, .int .i64 a0_2, .slice A0_3 l0_3.length c0_3] 33 ?_; intro gb596 hg w15 BK596 hb; obtain ⟨HB, GW596, GE596⟩ := box_at w hb hg; clear hb hg))
   replace BK596 := am (blk_drew BK596.out);replace HB := am (below_drew1 HB.out)
   refine start_ (n := 18) (S := fun w' => w'.cell? ⟨gb596, 0, none⟩ = some (.int .i64 a0_0) ∧ w'.cell? ⟨gb596, 1, none⟩ = some (.int .i64 a0_1) ∧ w'.cell? ⟨gb596, 2, none⟩ = some (.int .i64 a0_2) ∧ w'.cell? ⟨gb596, 3, none⟩ = some (.slice A0_3 l0_3.length c0_3)) (ds := []) #[O, O, O, O, O, O, O, O, O, O, O, O, O, O, O, O, O, O] (by kernel_rfl) rfl rfl ⟨bc BK596 0, bc BK596 1, bc BK596 2, bc BK596 3⟩ (fun hHeld => ?_); refine with_tabW impl_TensorOk.tab1 impl_TensorOk.bits1 (fun HT_ HW_ => ?_)
   generalize w15.drew = w16 at BK596 HB hHeld ⊢
   refine stepP 0 (some 3) (tk 18 1) (any_of HT_.out (by kernel_rfl)) ?_
   refine stepT 1 (some 4) (tk 18 3) (take_ofW HT_.out HW_.out (by kernel_rfl)) hHeld ?_
   refine one_ (i := 2) (N := some 5) #[I, I, I, O, O, O, O, O, O, O, O, O, O, O, O, O, O, O] rfl rfl (one_of HT_.out (by kernel_rfl)) (by decide) (fun K hK => ?_)
   refine goes_ Try.func63 (by kernel_rfl) rfl #[.agg #[.int .i64 a0_0, .int .i64 a0_1, .int .i64 a0_2]] (by rfl) rfl rfl (by (try simp only [List.map_toArray, List.map_cons, List.map_nil]); first | done | rfl | (simp only [List.length_drop, List.length_take]; rfl)) ?_
   with_reducible refine (impl_ShapeOk.calls a0_0 a0_1 a0_2 false _ A2.out).mono ?_
   rintro e w17 ⟨rfl, hb⟩
   refine ⟨_, rfl, ?_⟩
   replace BK596 := blk_on gb596 hb;replace HB := bel_on w hb;(try clear hb);(try clear hb2);(try clear hb3);(try clear hk);(try clear hi)
   refine hK.out _ _ ⟨bc BK596 0, bc BK596 1, bc BK596 2, bc BK596 3⟩ (fun hHeld => ?_)
   clear hK K
   refine normP 5 ?_
   refine stepP 3 (some 6) (tk 18 15) (any_of HT_.out (by kernel_rfl)) ?_
   refine stepU 4 (some 7) (tk 18 31) (any_of HT_.out (by kernel_rfl)) ?_
   refine stepU 5 (some 8) (tk 18 63) (any_of HT_.out (by kernel_rfl)) ?_
   refine stepU 6 (some 9) (tk 18 127) (any_of HT_.out (by kernel_rfl)) ?_
   refine stepU 7 (some 10) (tk 18 255) (any_of HT_.out (by kernel_rfl)) ?_
   refine stepU 8 (some 11) (tk 18 511) (any_of HT_.out (by kernel_rfl)) ?_
   refine stepU 9 (some 12) (tk 18 1023) (any_of HT_.out (by kernel_rfl)) ?_
   refine stepU 10 (some 13) (tk 18 2047) (any_of HT_.out (by kernel_rfl)) ?_
   refine stepP 11 (some 14) (tk 18 4095) (any_of HT_.out (by kernel_rfl)) ?_
   refine stepP 12 (some 15) (tk 18 8191) (any_of HT_.out (by kernel_rfl)) ?_
   refine stepU 13 (some 16) (tk 18 16383) (any_of HT_.out (by kernel_rfl)) ?_
   refine stepU 14 (some 17) (tk 18 32767) (any_of HT_.out (by kernel_rfl)) ?_
   refine stepU 15 (some 18) (tk 18 65535) (any_of HT_.out (by kernel_rfl)) ?_
   refine stepP 16 (some 19) (tk 18 131071) (any_of HT_.out (by kernel_rfl)) ?_
   refine stepP 17 (some 2) (tk 18 262143) (any_of HT_.out (by kernel_rfl)) ?_
   refine done_ (done_of HT_.out (by kernel_rfl)) ?_
   try go_wp2
   go_ret
   exact ⟨eqN, bel_now⟩
  subst c3;rw [if_pos rfl] at H;obtain ⟨t598, A4, H⟩ := bnd H;(try dsimp only at H);by_cases c5 : (l0_3.length : Int) = t598;rotate_left
  ·rw [if_neg c5] at H;have c5b0 : ((l0_3.length : Int) == t598) = false := beq_eq_false_iff_ne.mpr c5;have c5b1 : ((l0_3.length : Int) != t598) = true := bne_iff_ne.mpr c5;obtain rfl := Option.some.inj H
   go_enter Try.func52, Try.ntmps52
   try go_wp2_with (first | ((with_reducible refine gate_dst (N := 1) rfl ?_); (try (refine gate_guard (by rfl) ?_; dsimp only)); refine boxM 1 #[.int .i64 a0_0, .int .i64 a0_1, .int .i64 a0_2, .slice A0_3 l0_3.length c0_3] 33 ?_; intro gb596 hg w11 BK596 hb; obtain ⟨HB, GW596, GE596⟩ := box_at w hb hg; clear hb hg))
   replace BK596 := am (blk_drew BK596.out);replace HB := am (below_drew1 HB.out)
   refine start_ (n := 18) (S := fun w' => w'.cell? ⟨gb596, 0, none⟩ = some (.int .i64 a0_0) ∧ w'.cell? ⟨gb596, 1, none⟩ = some (.int .i64 a0_1) ∧ w'.cell? ⟨gb596, 2, none⟩ = some (.int .i64 a0_2) ∧ w'.cell? ⟨gb596, 3, none⟩ = some (.slice A0_3 l0_3.length c0_3)) (ds := []) #[O, O, O, O, O, O, O, O, O, O, O, O, O, O, O, O, O, O] (by kernel_rfl) rfl rfl ⟨bc BK596 0, bc BK596 1, bc BK596 2, bc BK596 3⟩ (fun hHeld => ?_); refine with_tabW impl_TensorOk.tab1 impl_TensorOk.bits1 (fun HT_ HW_ => ?_)
   generalize w11.drew = w12 at BK596 HB hHeld ⊢
   refine stepP 0 (some 3) (tk 18 1) (any_of HT_.out (by kernel_rfl)) ?_
   refine stepT 1 (some 4) (tk 18 3) (take_ofW HT_.out HW_.out (by kernel_rfl)) hHeld ?_
   refine one_ (i := 2) (N := some 5) #[I, I, I, O, O, O, O, O, O, O, O, O, O, O, O, O, O, O] rfl rfl (one_of HT_.out (by kernel_rfl)) (by decide) (fun K hK => ?_)
   refine goes_ Try.func63 (by kernel_rfl) rfl #[.agg #[.int .i64 a0_0, .int .i64 a0_1, .int .i64 a0_2]] (by rfl) rfl rfl (by (try simp only [List.map_toArray, List.map_cons, List.map_nil]); first | done | rfl | (simp only [List.length_drop, List.length_take]; rfl)) ?_
   with_reducible refine (impl_ShapeOk.calls a0_0 a0_1 a0_2 true _ A2.out).mono ?_
   rintro e w13 ⟨rfl, hb⟩
   refine ⟨_, rfl, ?_⟩
   replace BK596 := blk_on gb596 hb;replace HB := bel_on w hb;(try clear hb);(try clear hb2);(try clear hb3);(try clear hk);(try clear hi)
   refine hK.out _ _ ⟨bc BK596 0, bc BK596 1, bc BK596 2, bc BK596 3⟩ (fun hHeld => ?_)
   clear hK K
   refine normP 5 ?_
   refine stepP 3 (some 6) (tk 18 15) (any_of HT_.out (by kernel_rfl)) ?_
   refine stepP 4 (some 7) (tk 18 31) (any_of HT_.out (by kernel_rfl)) ?_
   refine stepP 7 (some 10) (tk 18 159) (any_of HT_.out (by kernel_rfl)) ?_
   refine stepT 5 (some 8) (tk 18 191) (take_ofW HT_.out HW_.out (by kernel_rfl)) hHeld ?_
   refine stepP 6 (some 9) (tk 18 255) (any_of HT_.out (by kernel_rfl)) ?_
   refine stepT 8 (some 11) (tk 18 511) (take_ofW HT_.out HW_.out (by kernel_rfl)) hHeld ?_
   refine one_ (i := 9) (N := some 12) #[I, I, I, I, I, I, I, I, I, I, O, O, O, O, O, O, O, O] rfl rfl (one_of HT_.out (by kernel_rfl)) (by decide) (fun K hK => ?_)
   refine goes_ Try.func64 (by kernel_rfl) rfl #[.agg #[.int .i64 a0_0, .int .i64 a0_1, .int .i64 a0_2]] (by rfl) rfl rfl (by (try simp only [List.map_toArray, List.map_cons, List.map_nil]); first | done | rfl | (simp only [List.length_drop, List.length_take]; rfl)) ?_
   with_reducible refine (impl_SizeOf.calls a0_0 a0_1 a0_2 t598 _ A4.out).mono ?_
   rintro e w14 ⟨rfl, hb⟩
   refine ⟨_, rfl, ?_⟩
   replace BK596 := blk_on gb596 hb;replace HB := bel_on w hb;(try clear hb);(try clear hb2);(try clear hb3);(try clear hk);(try clear hi)
   refine hK.out _ _ ⟨bc BK596 0, bc BK596 1, bc BK596 2, bc BK596 3⟩ (fun hHeld => ?_)
   clear hK K
   refine normP 12 ?_
   refine stepP 10 (some 13) (tk 18 2047) (any_of HT_.out (by kernel_rfl)) ?_
   refine stepP 11 (some 14) (tk 18 4095) (any_of HT_.out (by kernel_rfl)) ?_
   refine stepP 12 (some 15) (tk 18 8191) (any_of HT_.out (by kernel_rfl)) ?_
   refine stepU 13 (some 16) (tk 18 16383) (any_of HT_.out (by kernel_rfl)) ?_
   refine stepU 14 (some 17) (tk 18 32767) (any_of HT_.out (by kernel_rfl)) ?_
   refine stepU 15 (some 18) (tk 18 65535) (any_of HT_.out (by kernel_rfl)) ?_
   refine stepP 16 (some 19) (tk 18 131071) (any_of HT_.out (by kernel_rfl)) ?_
   refine stepP 17 (some 2) (tk 18 262143) (any_of HT_.out (by kernel_rfl)) ?_
   refine done_ (done_of HT_.out (by kernel_rfl)) ?_
   try go_wp2
   go_ret
   exact ⟨eqN, bel_now⟩
  rw [if_pos c5] at H;have c5b0 : ((l0_3.length : Int) == t598) = true := beq_iff_eq.mpr c5;have c5b1 : ((l0_3.length : Int) != t598) = false := bne_eq_false_iff_eq.mpr c5;clear c5;obtain ⟨t599, A6, H⟩ := bnd H;(try dsimp only at H);obtain rfl := Option.some.inj H
  go_enter Try.func52, Try.ntmps52
  try go_wp2_with (first | ((with_reducible refine gate_dst (N := 1) rfl ?_); (try (refine gate_guard (by rfl) ?_; dsimp only)); refine boxM 1 #[.int .i64 a0_0, .int .i64 a0_1, .int .i64 a0_2, .slice A0_3 l0_3.length c0_3] 33 ?_; intro gb596 hg w7 BK596 hb; obtain ⟨HB, GW596, GE596⟩ := box_at w hb hg; clear hb hg))
  replace BK596 := am (blk_drew BK596.out);replace HB := am (below_drew1 HB.out)
  refine start_ (n := 18) (S := fun w' => w'.cell? ⟨gb596, 0, none⟩ = some (.int .i64 a0_0) ∧ w'.cell? ⟨gb596, 1, none⟩ = some (.int .i64 a0_1) ∧ w'.cell? ⟨gb596, 2, none⟩ = some (.int .i64 a0_2) ∧ w'.cell? ⟨gb596, 3, none⟩ = some (.slice A0_3 l0_3.length c0_3)) (ds := []) #[O, O, O, O, O, O, O, O, O, O, O, O, O, O, O, O, O, O] (by kernel_rfl) rfl rfl ⟨bc BK596 0, bc BK596 1, bc BK596 2, bc BK596 3⟩ (fun hHeld => ?_); refine with_tabW impl_TensorOk.tab1 impl_TensorOk.bits1 (fun HT_ HW_ => ?_)
  generalize w7.drew = w8 at BK596 HB hHeld ⊢
  refine stepP 0 (some 3) (tk 18 1) (any_of HT_.out (by kernel_rfl)) ?_
  refine stepT 1 (some 4) (tk 18 3) (take_ofW HT_.out HW_.out (by kernel_rfl)) hHeld ?_
  refine one_ (i := 2) (N := some 5) #[I, I, I, O, O, O, O, O, O, O, O, O, O, O, O, O, O, O] rfl rfl (one_of HT_.out (by kernel_rfl)) (by decide) (fun K hK => ?_)
  refine goes_ Try.func63 (by kernel_rfl) rfl #[.agg #[.int .i64 a0_0, .int .i64 a0_1, .int .i64 a0_2]] (by rfl) rfl rfl (by (try simp only [List.map_toArray, List.map_cons, List.map_nil]); first | done | rfl | (simp only [List.length_drop, List.length_take]; rfl)) ?_
  with_reducible refine (impl_ShapeOk.calls a0_0 a0_1 a0_2 true _ A2.out).mono ?_
  rintro e w9 ⟨rfl, hb⟩
  refine ⟨_, rfl, ?_⟩
  replace BK596 := blk_on gb596 hb;replace HB := bel_on w hb;(try clear hb);(try clear hb2);(try clear hb3);(try clear hk);(try clear hi)
  refine hK.out _ _ ⟨bc BK596 0, bc BK596 1, bc BK596 2, bc BK596 3⟩ (fun hHeld => ?_)
  clear hK K
  refine normP 5 ?_
  refine stepP 3 (some 6) (tk 18 15) (any_of HT_.out (by kernel_rfl)) ?_
  refine stepP 4 (some 7) (tk 18 31) (any_of HT_.out (by kernel_rfl)) ?_
  refine stepP 7 (some 10) (tk 18 159) (any_of HT_.out (by kernel_rfl)) ?_
  refine stepT 5 (some 8) (tk 18 191) (take_ofW HT_.out HW_.out (by kernel_rfl)) hHeld ?_
  refine stepP 6 (some 9) (tk 18 255) (any_of HT_.out (by kernel_rfl)) ?_
  refine stepT 8 (some 11) (tk 18 511) (take_ofW HT_.out HW_.out (by kernel_rfl)) hHeld ?_
  refine one_ (i := 9) (N := some 12) #[I, I, I, I, I, I, I, I, I, I, O, O, O, O, O, O, O, O] rfl rfl (one_of HT_.out (by kernel_rfl)) (by decide) (fun K hK => ?_)
  refine goes_ Try.func64 (by kernel_rfl) rfl #[.agg #[.int .i64 a0_0, .int .i64 a0_1, .int .i64 a0_2]] (by rfl) rfl rfl (by (try simp only [List.map_toArray, List.map_cons, List.map_nil]); first | done | rfl | (simp only [List.length_drop, List.length_take]; rfl)) ?_
  with_reducible refine (impl_SizeOf.calls a0_0 a0_1 a0_2 t598 _ A4.out).mono ?_
  rintro e w10 ⟨rfl, hb⟩
  refine ⟨_, rfl, ?_⟩
  replace BK596 := blk_on gb596 hb;replace HB := bel_on w hb;(try clear hb);(try clear hb2);(try clear hb3);(try clear hk);(try clear hi)
  refine hK.out _ _ ⟨bc BK596 0, bc BK596 1, bc BK596 2, bc BK596 3⟩ (fun hHeld => ?_)
  clear hK K
  refine normP 12 ?_
  refine stepP 10 (some 13) (tk 18 2047) (any_of HT_.out (by kernel_rfl)) ?_
  refine stepP 11 (some 14) (tk 18 4095) (any_of HT_.out (by kernel_rfl)) ?_
  refine stepP 12 (some 15) (tk 18 8191) (any_of HT_.out (by kernel_rfl)) ?_
  refine stepP 13 (some 16) (tk 18 16383) (any_of HT_.out (by kernel_rfl)) ?_
  refine stepT 14 (some 17) (tk 18 32767) (take_ofW HT_.out HW_.out (by kernel_rfl)) hHeld ?_
  refine one_ (i := 15) (N := some 18) #[I, I, I, I, I, I, I, I, I, I, I, I, I, I, I, I, O, O] rfl rfl (one_of HT_.out (by kernel_rfl)) (by decide) (fun K hK => ?_)
  refine goes_ Try.func101 (by kernel_rfl) rfl #[.slice A0_3 l0_3.length c0_3] (by rfl) rfl rfl (by (try simp only [List.map_toArray, List.map_cons, List.map_nil]); first | done | rfl | (simp only [List.length_drop, List.length_take]; rfl)) ?_
  with_reducible refine (impl_areItems.calls k _ _ l0_3 t599 _ ?side1 ?side2 A6.out).mono ?_
  (case side1 => exact C_now HR0_3.out)
  (case side2 => exact HC0_3.out)
  rintro e w' ⟨rfl, ⟨nd, rfl⟩⟩
  refine ⟨_, rfl, ?_⟩
  refine hK.out _ _ ⟨bc BK596 0, bc BK596 1, bc BK596 2, bc BK596 3⟩ (fun hHeld => ?_)
  clear hK K
  refine normP 18 ?_
  refine stepP 16 (some 19) (tk 18 131071) (any_of HT_.out (by kernel_rfl)) ?_
  refine stepP 17 (some 2) (tk 18 262143) (any_of HT_.out (by kernel_rfl)) ?_
  refine done_ (done_of HT_.out (by kernel_rfl)) ?_
  try go_wp2
  go_ret
  exact ⟨eqN, bel_now⟩

def impl_cut.f (a0 : Int) (a1 : Int) (a2 : Int) : Option (Int) := some (mx a1 (mn a0 a2))
theorem impl_cut.calls (a0 : Int) (a1 : Int) (a2 : Int) (r : Int) (w : World) (h : impl_cut.f a0 a1 a2 = some r) :
   Calls Try.prog 144 #[.int .i64 a0, .int .i64 a1, .int .i64 a2] w fun e w' => e = .returned (.int .i64 r) ∧ Below w.heap.size w w' := by
  have HB := am (Below.refl w.heap.size w);have H : (some (mx a1 (mn a0 a2))) = some r := h;clear h;obtain ⟨ji4, hji4⟩ : ∃ j_ : Int, (mn a0 a2) = j_ := ⟨_, rfl⟩;replace H : (some (mx a1 (ji4))) = some r := by first | (rw [hji4] at H; exact H) | (simp only [hji4] at H ⊢; exact H)
  have hji4_ : (if a2 < a0 then a2 else a0) = ji4 := hji4;obtain ⟨ji5, hji5⟩ : ∃ j_ : Int, (mx a1 (ji4)) = j_ := ⟨_, rfl⟩;replace H : (some ji5) = some r := by first | (rw [hji5] at H; exact H) | (simp only [hji5] at H ⊢; exact H)
  have hji5_ : (if a1 < (ji4) then (ji4) else a1) = ji5 := hji5;obtain rfl := Option.some.inj H
  go_enter Try.func144, Try.ntmps144
  go_wp2
  go_ret
  exact ⟨by first | rfl | (simp [errW_none, errW_some] <;> rfl) | (simp only [← hji4, ← hji5]; first | rfl | (simp [errW_none, errW_some] <;> rfl)) | (simp [*, errW_none, errW_some] <;> rfl), bel_now⟩

def impl_Sat8.f (a0 : Int) : Option (Int) := (impl_cut.f a0 (-128) 127).bind fun t600 => (some t600)
theorem impl_Sat8.calls (a0 : Int) (r : Int) (w : World) (h : impl_Sat8.f a0 = some r) :
   Calls Try.prog 140 #[.int .i64 a0] w fun e w' => e = .returned (.int .i64 r) ∧ Below w.heap.size w w' := by
  have HB := am (Below.refl w.heap.size w);have H : ((impl_cut.f a0 (-128) 127).bind fun t600 => (some t600)) = some r := h;clear h;obtain ⟨t600, A2, H⟩ := bnd H;(try dsimp only at H);obtain rfl := Option.some.inj H
  go_enter Try.func140, Try.ntmps140
  go_wp2_with (first | ((with_reducible refine gate_callee (f := 144) rfl ?_); refine gM 4 Try.func144 #[.int .i64 a0, .int .i64 (-128), .int .i64 127] rfl ?_; (with_reducible refine (impl_cut.calls a0 (-128) 127 t600 _ A2.out).mono ?_); rintro e w3 ⟨rfl, hb⟩; refine ⟨_, rfl, ?_⟩; replace HB := bel_on w hb; (try clear hb)))
  go_ret
  exact ⟨eqN, bel_now⟩

def impl_Sat32.f (a0 : Int) : Option (Int) := (impl_cut.f a0 (-2147483648) 2147483647).bind fun t601 => (some t601)
theorem impl_Sat32.calls (a0 : Int) (r : Int) (w : World) (h : impl_Sat32.f a0 = some r) :
   Calls Try.prog 143 #[.int .i64 a0] w fun e w' => e = .returned (.int .i64 r) ∧ Below w.heap.size w w' := by
  have HB := am (Below.refl w.heap.size w);have H : ((impl_cut.f a0 (-2147483648) 2147483647).bind fun t601 => (some t601)) = some r := h;clear h;obtain ⟨t601, A2, H⟩ := bnd H;(try dsimp only at H);obtain rfl := Option.some.inj H
  go_enter Try.func143, Try.ntmps143
  go_wp2_with (first | ((with_reducible refine gate_callee (f := 144) rfl ?_); refine gM 4 Try.func144 #[.int .i64 a0, .int .i64 (-2147483648), .int .i64 2147483647] rfl ?_; (with_reducible refine (impl_cut.calls a0 (-2147483648) 2147483647 t601 _ A2.out).mono ?_); rintro e w3 ⟨rfl, hb⟩; refine ⟨_, rfl, ?_⟩; replace HB := bel_on w hb; (try clear hb)))
  go_ret
  exact ⟨eqN, bel_now⟩

def impl_AddSat.f (a0 : Int) (a1 : Int) : Option (Int) := (impl_Sat32.f a0).bind fun t602 => ((impl_Sat32.f a1).bind fun t603 => ((impl_Sat32.f (wrap64 (t602 + t603))).bind fun t604 => (some t604)))
theorem impl_AddSat.calls (a0 : Int) (a1 : Int) (r : Int) (w : World) (h : impl_AddSat.f a0 a1 = some r) :
   Calls Try.prog 134 #[.int .i64 a0, .int .i64 a1] w fun e w' => e = .returned (.int .i64 r) ∧ Below w.heap.size w w' := by
  have HB := am (Below.refl w.heap.size w);have H : ((impl_Sat32.f a0).bind fun t602 => ((impl_Sat32.f a1).bind fun t603 => ((impl_Sat32.f (wrap64 (t602 + t603))).bind fun t604 => (some t604)))) = some r := h;clear h;obtain ⟨t602, A3, H⟩ := bnd H;(try dsimp only at H);obtain ⟨t603, A4, H⟩ := bnd H;(try dsimp only at H);obtain ⟨t604, A5, H⟩ := bnd H;(try dsimp only at H);obtain rfl := Option.some.inj H
  go_enter Try.func134, Try.ntmps134
  go_wp2_with (first | ((with_reducible refine gate_callee (f := 143) rfl ?_); refine gM 6 Try.func143 #[.int .i64 a0] rfl ?_; (with_reducible refine (impl_Sat32.calls a0 t602 _ A3.out).mono ?_); rintro e w6 ⟨rfl, hb⟩; refine ⟨_, rfl, ?_⟩; replace HB := bel_on w hb; (try clear hb)) | ((with_reducible refine gate_callee (f := 143) rfl ?_); refine gM 8 Try.func143 #[.int .i64 a1] rfl ?_; (with_reducible refine (impl_Sat32.calls a1 t603 _ A4.out).mono ?_); rintro e w7 ⟨rfl, hb⟩; refine ⟨_, rfl, ?_⟩; replace HB := bel_on w hb; (try clear hb)) | ((with_reducible refine gate_callee (f := 143) rfl ?_); refine gM 10 Try.func143 #[.int .i64 (wrap64 (t602 + t603))] rfl ?_; (with_reducible refine (impl_Sat32.calls (wrap64 (t602 + t603)) t604 _ A5.out).mono ?_); rintro e w8 ⟨rfl, hb⟩; refine ⟨_, rfl, ?_⟩; replace HB := bel_on w hb; (try clear hb)))
  go_ret
  exact ⟨eqN, bel_now⟩

end Go.Proofs.Ytclpojeofclbjaa.PFnLayers
