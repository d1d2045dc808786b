import Derived.Test.YtclpojeofclbjaaDoorPFnExactParseTensorx0
import Derived.Test.YtclpojeofclbjaaDoorPFnExactParseTensorx4
namespace Go.Proofs.YtclpojeofclbjaaDoor.PFnExactParseTensor
open Go.RowKit Go.Proofs.YtclpojeofclbjaaDoorW.PrintWords Go.Proofs.YtclpojeofclbjaaDoorW.PrintLast Go.Proofs.YtclpojeofclbjaaDoorW.PrintMore
attribute [local go_sem] max2_int min2_int max_two min_two max_three min_three max_four min_four
set_option maxHeartbeats 8000000
set_option maxRecDepth 100000
set_option linter.unusedVariables false
set_option linter.unusedSimpArgs false

def impl_TensorOk.f (k : Nat) (a0_0 : Int) (a0_1 : Int) (a0_2 : Int) (l0_3 : List Int) : Option (Bool) := (impl_ShapeOk.f a0_0 a0_1 a0_2).bind fun t176 => (if t176 = true then ((impl_SizeOf.f a0_0 a0_1 a0_2).bind fun t177 => (if (l0_3.length : Int) = t177 then ((impl_areItems.f k l0_3).bind fun t178 => (some t178)) else (some false))) else (some false))
def impl_TensorOk.T1 : Bool × List (List Nat × List Nat) := (true, [([], []), ([0], [0]), ([1], [1]), ([2, 2], [2]), ([3], [3]), ([4, 3], [3, 4]), ([5, 3], [3, 5]), ([3], [3]), ([7, 3], [3, 7]), ([8, 3, 3], [3, 8]), ([6, 9, 3], [3, 6, 9]), ([3, 10], [3, 10]), ([11, 9], [11]), ([12], [12]), ([13, 12], [12, 13]), ([14, 12, 12], [12, 14]), ([12, 15], [12, 15]), ([16, 15, 0, 1, 2, 3, 4, 5, 6, 7, 8, 9, 10, 11, 12, 13, 14, 15, 16], [16])])
def impl_TensorOk.B1 : List Nat := [0, 1, 3, 7, 15, 31, 63, 15, 143, 399, 1023, 2047, 4095, 8191, 16383, 32767, 65535, 131071]
theorem impl_TensorOk.tab1 : rtab .any (opsOf Tryd.f57 1) = impl_TensorOk.T1 := by kernel_rfl
theorem impl_TensorOk.bits1 : waitsOk impl_TensorOk.T1.2 impl_TensorOk.B1 = true := by kernel_rfl
theorem impl_TensorOk.calls (k : Nat) (a0_0 : Int) (a0_1 : Int) (a0_2 : Int) (A0_3 : Option Addr) (c0_3 : Nat) (l0_3 : List Int) (r : Bool) (w : World) (hr0_3 : Kd.C (Kd.int .i64) w A0_3 l0_3.length l0_3) (hc0_3 : l0_3.length ≤ c0_3) (h : impl_TensorOk.f k a0_0 a0_1 a0_2 l0_3 = some r) :
   Calls Tryd.prog 57 #[.agg #[.int .i64 a0_0, .int .i64 a0_1, .int .i64 a0_2, .slice A0_3 l0_3.length c0_3]] w fun e w' => e = .returned (.bool r) ∧ Below w.heap.size w w' := by
  have hu38 := Tryd.underlying38;have hu29 := Tryd.underlying29;have HR0_3 := am hr0_3;have HC0_3 := am hc0_3;clear hr0_3 hc0_3;have HB := am (Below.refl w.heap.size w);have H : ((impl_ShapeOk.f a0_0 a0_1 a0_2).bind fun t176 => (if t176 = true then ((impl_SizeOf.f a0_0 a0_1 a0_2).bind fun t177 => (if (l0_3.length : Int) = t177 then ((impl_areItems.f k l0_3).bind fun t178 => (some t178)) else (some false))) else (some false))) = some r := h;clear h;obtain ⟨t176, A2, H⟩ := bnd H;(try dsimp only at H);by_cases c3 : t176 = true;rotate_left
  ·replace c3 := Bool.eq_false_iff.mpr c3;subst c3
   rw [if_neg (show ¬ (false = true) by decide)] at H
   obtain rfl := Option.some.inj H
   go_enter Tryd.func57, Tryd.ntmps57
   try go_wp2_with (first | ((with_reducible refine gate_dst (N := 1) rfl ?_); (try (refine gate_guard (by rfl) ?_; dsimp only)); refine boxM 1 #[.int .i64 a0_0, .int .i64 a0_1, .int .i64 a0_2, .slice A0_3 l0_3.length c0_3] 38 ?_; intro gb175 hg w15 BK175 hb; obtain ⟨HB, GW175, GE175⟩ := box_at w hb hg; clear hb hg))
   replace BK175 := am (blk_drew BK175.out);replace HB := am (below_drew1 HB.out)
   refine start_ (n := 18) (S := fun w' => w'.cell? ⟨gb175, 0, none⟩ = some (.int .i64 a0_0) ∧ w'.cell? ⟨gb175, 1, none⟩ = some (.int .i64 a0_1) ∧ w'.cell? ⟨gb175, 2, none⟩ = some (.int .i64 a0_2) ∧ w'.cell? ⟨gb175, 3, none⟩ = some (.slice A0_3 l0_3.length c0_3)) (ds := []) #[O, O, O, O, O, O, O, O, O, O, O, O, O, O, O, O, O, O] (by kernel_rfl) rfl rfl ⟨bc BK175 0, bc BK175 1, bc BK175 2, bc BK175 3⟩ (fun hHeld => ?_); refine with_tabW impl_TensorOk.tab1 impl_TensorOk.bits1 (fun HT_ HW_ => ?_)
   generalize w15.drew = w16 at BK175 HB hHeld ⊢
   refine stepP 0 (some 3) (tk 18 1) (any_of HT_.out (by kernel_rfl)) ?_
   refine stepT 1 (some 4) (tk 18 3) (take_ofW HT_.out HW_.out (by kernel_rfl)) hHeld ?_
   refine one_ (i := 2) (N := some 5) #[I, I, I, O, O, O, O, O, O, O, O, O, O, O, O, O, O, O] rfl rfl (one_of HT_.out (by kernel_rfl)) (by decide) (fun K hK => ?_)
   refine goes_ Tryd.func74 (by kernel_rfl) rfl #[.agg #[.int .i64 a0_0, .int .i64 a0_1, .int .i64 a0_2]] (by rfl) rfl rfl (by (try simp only [List.map_toArray, List.map_cons, List.map_nil]); first | done | rfl | (simp only [List.length_drop, List.length_take]; rfl)) ?_
   with_reducible refine (impl_ShapeOk.calls a0_0 a0_1 a0_2 false _ A2.out).mono ?_
   rintro e w17 ⟨rfl, hb⟩
   refine ⟨_, rfl, ?_⟩
   replace BK175 := blk_on gb175 hb;replace HB := bel_on w hb;(try clear hb);(try clear hb2);(try clear hb3);(try clear hk);(try clear hi)
   refine hK.out _ _ ⟨bc BK175 0, bc BK175 1, bc BK175 2, bc BK175 3⟩ (fun hHeld => ?_)
   clear hK K
   refine normP 5 ?_
   refine stepP 3 (some 6) (tk 18 15) (any_of HT_.out (by kernel_rfl)) ?_
   refine stepU 4 (some 7) (tk 18 31) (any_of HT_.out (by kernel_rfl)) ?_
   refine stepU 5 (some 8) (tk 18 63) (any_of HT_.out (by kernel_rfl)) ?_
   refine stepU 6 (some 9) (tk 18 127) (any_of HT_.out (by kernel_rfl)) ?_
   refine stepU 7 (some 10) (tk 18 255) (any_of HT_.out (by kernel_rfl)) ?_
   refine stepU 8 (some 11) (tk 18 511) (any_of HT_.out (by kernel_rfl)) ?_
   refine stepU 9 (some 12) (tk 18 1023) (any_of HT_.out (by kernel_rfl)) ?_
   refine stepU 10 (some 13) (tk 18 2047) (any_of HT_.out (by kernel_rfl)) ?_
   refine stepP 11 (some 14) (tk 18 4095) (any_of HT_.out (by kernel_rfl)) ?_
   refine stepP 12 (some 15) (tk 18 8191) (any_of HT_.out (by kernel_rfl)) ?_
   refine stepU 13 (some 16) (tk 18 16383) (any_of HT_.out (by kernel_rfl)) ?_
   refine stepU 14 (some 17) (tk 18 32767) (any_of HT_.out (by kernel_rfl)) ?_
   refine stepU 15 (some 18) (tk 18 65535) (any_of HT_.out (by kernel_rfl)) ?_
   refine stepP 16 (some 19) (tk 18 131071) (any_of HT_.out (by kernel_rfl)) ?_
   refine stepP 17 (some 2) (tk 18 262143) (any_of HT_.out (by kernel_rfl)) ?_
   refine done_ (done_of HT_.out (by kernel_rfl)) ?_
   try go_wp2
   go_ret
   exact ⟨eqN, bel_now⟩
  subst c3;rw [if_pos rfl] at H;obtain ⟨t177, A4, H⟩ := bnd H;(try dsimp only at H);by_cases c5 : (l0_3.length : Int) = t177;rotate_left
  ·rw [if_neg c5] at H;have c5b0 : ((l0_3.length : Int) == t177) = false := beq_eq_false_iff_ne.mpr c5;have c5b1 : ((l0_3.length : Int) != t177) = true := bne_iff_ne.mpr c5;obtain rfl := Option.some.inj H
   go_enter Tryd.func57, Tryd.ntmps57
   try go_wp2_with (first | ((with_reducible refine gate_dst (N := 1) rfl ?_); (try (refine gate_guard (by rfl) ?_; dsimp only)); refine boxM 1 #[.int .i64 a0_0, .int .i64 a0_1, .int .i64 a0_2, .slice A0_3 l0_3.length c0_3] 38 ?_; intro gb175 hg w11 BK175 hb; obtain ⟨HB, GW175, GE175⟩ := box_at w hb hg; clear hb hg))
   replace BK175 := am (blk_drew BK175.out);replace HB := am (below_drew1 HB.out)
   refine start_ (n := 18) (S := fun w' => w'.cell? ⟨gb175, 0, none⟩ = some (.int .i64 a0_0) ∧ w'.cell? ⟨gb175, 1, none⟩ = some (.int .i64 a0_1) ∧ w'.cell? ⟨gb175, 2, none⟩ = some (.int .i64 a0_2) ∧ w'.cell? ⟨gb175, 3, none⟩ = some (.slice A0_3 l0_3.length c0_3)) (ds := []) #[O, O, O, O, O, O, O, O, O, O, O, O, O, O, O, O, O, O] (by kernel_rfl) rfl rfl ⟨bc BK175 0, bc BK175 1, bc BK175 2, bc BK175 3⟩ (fun hHeld => ?_); refine with_tabW impl_TensorOk.tab1 impl_TensorOk.bits1 (fun HT_ HW_ => ?_)
   generalize w11.drew = w12 at BK175 HB hHeld ⊢
   refine stepP 0 (some 3) (tk 18 1) (any_of HT_.out (by kernel_rfl)) ?_
   refine stepT 1 (some 4) (tk 18 3) (take_ofW HT_.out HW_.out (by kernel_rfl)) hHeld ?_
   refine one_ (i := 2) (N := some 5) #[I, I, I, O, O, O, O, O, O, O, O, O, O, O, O, O, O, O] rfl rfl (one_of HT_.out (by kernel_rfl)) (by decide) (fun K hK => ?_)
   refine goes_ Tryd.func74 (by kernel_rfl) rfl #[.agg #[.int .i64 a0_0, .int .i64 a0_1, .int .i64 a0_2]] (by rfl) rfl rfl (by (try simp only [List.map_toArray, List.map_cons, List.map_nil]); first | done | rfl | (simp only [List.length_drop, List.length_take]; rfl)) ?_
   with_reducible refine (impl_ShapeOk.calls a0_0 a0_1 a0_2 true _ A2.out).mono ?_
   rintro e w13 ⟨rfl, hb⟩
   refine ⟨_, rfl, ?_⟩
   replace BK175 := blk_on gb175 hb;replace HB := bel_on w hb;(try clear hb);(try clear hb2);(try clear hb3);(try clear hk);(try clear hi)
   refine hK.out _ _ ⟨bc BK175 0, bc BK175 1, bc BK175 2, bc BK175 3⟩ (fun hHeld => ?_)
   clear hK K
   refine normP 5 ?_
   refine stepP 3 (some 6) (tk 18 15) (any_of HT_.out (by kernel_rfl)) ?_
   refine stepP 4 (some 7) (tk 18 31) (any_of HT_.out (by kernel_rfl)) ?_
   refine stepP 7 (some 10) (tk 18 159) (any_of HT_.out (by kernel_rfl)) ?_
   refine stepT 5 (some 8) (tk 18 191) (take_ofW HT_.out HW_.out (by kernel_rfl)) hHeld ?_
   refine stepP 6 (some 9) (tk 18 255) (any_of HT_.out (by kernel_rfl)) ?_
   refine stepT 8 (some 11) (tk 18 511) (take_ofW HT_.out HW_.out (by kernel_rfl)) hHeld ?_
   refine one_ (i := 9) (N := some 12) #[I, I, I, I, I, I, I, I, I, I, O, O, O, O, O, O, O, O] rfl rfl (one_of HT_.out (by kernel_rfl)) (by decide) (fun K hK => ?_)
   refine goes_ Tryd.func75 (by kernel_rfl) rfl #[.agg #[.int .i64 a0_0, .int .i64 a0_1, .int .i64 a0_2]] (by rfl) rfl rfl (by (try simp only [List.map_toArray, List.map_cons, List.map_nil]); first | done | rfl | (simp only [List.length_drop, List.length_take]; rfl)) ?_
   with_reducible refine (impl_SizeOf.calls a0_0 a0_1 a0_2 t177 _ A4.out).mono ?_
   rintro e w14 ⟨rfl, hb⟩
   refine ⟨_, rfl, ?_⟩
   replace BK175 := blk_on gb175 hb;replace HB := bel_on w hb;(try clear hb);(try clear hb2);(try clear hb3);(try clear hk);(try clear hi)
   refine hK.out _ _ ⟨bc BK175 0, bc BK175 1, bc BK175 2, bc BK175 3⟩ (fun hHeld => ?_)
   clear hK K
   refine normP 12 ?_
   refine stepP 10 (some 13) (tk 18 2047) (any_of HT_.out (by kernel_rfl)) ?_
   refine stepP 11 (some 14) (tk 18 4095) (any_of HT_.out (by kernel_rfl)) ?_
   refine stepP 12 (some 15) (tk 18 8191) (any_of HT_.out (by kernel_rfl)) ?_
   refine stepU 13 (some 16) (tk 18 16383) (any_of HT_.out (by kernel_rfl)) ?_
   refine stepU 14 (some 17) (tk 18 32767) (any_of HT_.out (by kernel_rfl)) ?_
   refine stepU 15 (some 18) (tk 18 65535) (any_of HT_.out (by kernel_rfl)) ?_
   refine stepP 16 (some 19) (tk 18 131071) (any_of HT_.out (by kernel_rfl)) ?_
   refine stepP 17 (some 2) (tk 18 262143) (any_of HT_.out (by kernel_rfl)) ?_
   refine done_ (done_of HT_.out (by kernel_rfl)) ?_
   try go_wp2
   go_ret
   exact ⟨eqN, bel_now⟩
  rw [if_pos c5] at H;have c5b0 : ((l0_3.length : Int) == t177) = true := beq_iff_eq.mpr c5;have c5b1 : ((l0_3.length : Int) != t177) = false := bne_eq_false_iff_eq.mpr c5;clear c5;obtain ⟨t178, A6, H⟩ := bnd H;(try dsimp only at H);obtain rfl := Option.some.inj H
  go_enter Tryd.func57, Tryd.ntmps57
  try go_wp2_with (first | ((with_reducible refine gate_dst (N := 1) rfl ?_); (try (refine gate_guard (by rfl) ?_; dsimp only)); refine boxM 1 #[.int .i64 a0_0, .int .i64 a0_1, .int .i64 a0_2, .slice A0_3 l0_3.length c0_3] 38 ?_; intro gb175 hg w7 BK175 hb; obtain ⟨HB, GW175, GE175⟩ := box_at w hb hg; clear hb hg))
  replace BK175 := am (blk_drew BK175.out);replace HB := am (below_drew1 HB.out)
  refine start_ (n := 18) (S := fun w' => w'.cell? ⟨gb175, 0, none⟩ = some (.int .i64 a0_0) ∧ w'.cell? ⟨gb175, 1, none⟩ = some (.int .i64 a0_1) ∧ w'.cell? ⟨gb175, 2, none⟩ = some (.int .i64 a0_2) ∧ w'.cell? ⟨gb175, 3, none⟩ = some (.slice A0_3 l0_3.length c0_3)) (ds := []) #[O, O, O, O, O, O, O, O, O, O, O, O, O, O, O, O, O, O] (by kernel_rfl) rfl rfl ⟨bc BK175 0, bc BK175 1, bc BK175 2, bc BK175 3⟩ (fun hHeld => ?_); refine with_tabW impl_TensorOk.tab1 impl_TensorOk.bits1 (fun HT_ HW_ => ?_)
  generalize w7.drew = w8 at BK175 HB hHeld ⊢
  refine stepP 0 (some 3) (tk 18 1) (any_of HT_.out (by kernel_rfl)) ?_
  refine stepT 1 (some 4) (tk 18 3) (take_ofW HT_.out HW_.out (by kernel_rfl)) hHeld ?_
  refine one_ (i := 2) (N := some 5) #[I, I, I, O, O, O, O, O, O, O, O, O, O, O, O, O, O, O] rfl rfl (one_of HT_.out (by kernel_rfl)) (by decide) (fun K hK => ?_)
  refine goes_ Tryd.func74 (by kernel_rfl) rfl #[.agg #[.int .i64 a0_0, .int .i64 a0_1, .int .i64 a0_2]] (by rfl) rfl rfl (by (try simp only [List.map_toArray, List.map_cons, List.map_nil]); first | done | rfl | (simp only [List.length_drop, List.length_take]; rfl)) ?_
  with_reducible refine (impl_ShapeOk.calls a0_0 a0_1 a0_2 true _ A2.out).mono ?_
  rintro e w9 ⟨rfl, hb⟩
  refine ⟨_, rfl, ?_⟩
  replace BK175 := blk_on gb175 hb;replace HB := bel_on w hb;(try clear hb);(try clear hb2);(try clear hb3);(try clear hk);(try clear hi)
  refine hK.out _ _ ⟨bc BK175 0, bc BK175 1, bc BK175 2, bc BK175 3⟩ (fun hHeld => ?_)
  clear hK K
  refine normP 5 ?_
  refine stepP 3 (some 6) (tk 18 15) (any_of HT_.out (by kernel_rfl)) ?_
  refine stepP 4 (some 7) (tk 18 31) (any_of HT_.out (by kernel_rfl)) ?_
  refine stepP 7 (some 10) (tk 18 159) (any_of HT_.out (by kernel_rfl)) ?_
  refine stepT 5 (some 8) (tk 18 191) (take_ofW HT_.out HW_.out (by kernel_rfl)) hHeld ?_
  refine stepP 6 (some 9) (tk 18 255) (any_of HT_.out (by kernel_rfl)) ?_
  refine stepT 8 (some 11) (tk 18 511) (take_ofW HT_.out HW_.out (by kernel_rfl)) hHeld ?_
  refine one_ (i := 9) (N := some 12) #[I, I, I, I, I, I, I, I, I, I, O, O, O, O, O, O, O, O] rfl rfl (one_of HT_.out (by kernel_rfl)) (by decide) (fun K hK => ?_)
  refine goes_ Tryd.func75 (by kernel_rfl) rfl #[.agg #[.int .i64 a0_0, .int .i64 a0_1, .int .i64 a0_2]] (by rfl) rfl rfl (by (try simp only [List.map_toArray, List.map_cons, List.map_nil]); first | done | rfl | (simp only [List.length_drop, List.length_take]; rfl)) ?_
  with_reducible refine (impl_SizeOf.calls a0_0 a0_1 a0_2 t177 _ A4.out).mono ?_
  rintro e w10 ⟨rfl, hb⟩
  refine ⟨_, rfl, ?_⟩
  replace BK175 := blk_on gb175 hb;replace HB := bel_on w hb;(try clear hb);(try clear hb2);(try clear hb3);(try clear hk);(try clear hi)
  refine hK.out _ _ ⟨bc BK175 0, bc BK175 1, bc BK175 2, bc BK175 3⟩ (fun hHeld => ?_)
  clear hK K
  refine normP 12 ?_
  refine stepP 10 (some 13) (tk 18 2047) (any_of HT_.out (by kernel_rfl)) ?_
  refine stepP 11 (some 14) (tk 18 4095) (any_of HT_.out (by kernel_rfl)) ?_
  refine stepP 12 (some 15) (tk 18 8191) (any_of HT_.out (by kernel_rfl)) ?_
  refine stepP 13 (some 16) (tk 18 16383) (any_of HT_.out (by kernel_rfl)) ?_
  refine stepT 14 (some 17) (tk 18 32767) (take_ofW HT_.out HW_.out (by kernel_rfl)) hHeld ?_
  refine one_ (i := 15) (N := some 18) #[I, I, I, I, I, I, I, I, I, I, I, I, I, I, I, I, O, O] rfl rfl (one_of HT_.out (by kernel_rfl)) (by decide) (fun K hK => ?_)
  refine goes_ Tryd.func76 (by kernel_rfl) rfl #[.slice A0_3 l0_3.length c0_3] (by rfl) rfl rfl (by (try simp only [List.map_toArray, List.map_cons, List.map_nil]); first | done | rfl | (simp only [List.length_drop, List.length_take]; rfl)) ?_
  with_reducible refine (impl_areItems.calls k _ _ l0_3 t178 _ ?side1 ?side2 A6.out).mono ?_
  (case side1 => exact C_now HR0_3.out)
  (case side2 => exact HC0_3.out)
  rintro e w' ⟨rfl, ⟨nd, rfl⟩⟩
  refine ⟨_, rfl, ?_⟩
  refine hK.out _ _ ⟨bc BK175 0, bc BK175 1, bc BK175 2, bc BK175 3⟩ (fun hHeld => ?_)
  clear hK K
  refine normP 18 ?_
  refine stepP 16 (some 19) (tk 18 131071) (any_of HT_.out (by kernel_rfl)) ?_
  refine stepP 17 (some 2) (tk 18 262143) (any_of HT_.out (by kernel_rfl)) ?_
  refine done_ (done_of HT_.out (by kernel_rfl)) ?_
  try go_wp2
  go_ret
  exact ⟨eqN, bel_now⟩

def strconv_Itoa.f (a0 : Int) : Option (ByteArray) := if -9223372036854775808 ≤ a0 then (if a0 ≤ 9223372036854775807 then (some ⟨(Lib.itoa a0).toArray⟩) else (none)) else (none)
theorem strconv_Itoa.calls (a0 : Int) (r : ByteArray) (w : World) (htab : TabT w) (h : strconv_Itoa.f a0 = some r) :
   Calls Tryd.prog 43 #[.int .i64 a0] w fun e w' => e = .returned (.string r) ∧ Below w.heap.size w w' := by
  unfold strconv_Itoa.f at h
  by_cases h0 : -9223372036854775808 ≤ a0;rotate_left
  ·rw [if_neg h0] at h;cases h
  rw [if_pos h0] at h;by_cases h1 : a0 ≤ 9223372036854775807;rotate_left
  ·rw [if_neg h1] at h;cases h
  rw [if_pos h1] at h;obtain rfl := Option.some.inj h;exact (Tryd.strconv_Itoa a0 h0 h1 w (by first | exact htab | exact htab.1)).mono fun e w' ⟨he, k, os, hw⟩ => ⟨he, by rw [hw]; exact Lib.below_grow _ _ (Nat.le_refl _) k os⟩

def impl_Shape_sides.f (a0_0 : Int) (a0_1 : Int) (a0_2 : Int) : Option (ByteArray) := (strconv_Itoa.f a0_0).bind fun t180 => (if t180.size + 1 ≤ 9223372036854775807 then ((strconv_Itoa.f a0_1).bind fun t181 => (if (t180 ++ (⟨#[120]⟩ : ByteArray)).size + t181.size ≤ 9223372036854775807 then (if ((t180 ++ (⟨#[120]⟩ : ByteArray)) ++ t181).size + 1 ≤ 9223372036854775807 then ((strconv_Itoa.f a0_2).bind fun t182 => (if (((t180 ++ (⟨#[120]⟩ : ByteArray)) ++ t181) ++ (⟨#[120]⟩ : ByteArray)).size + t182.size ≤ 9223372036854775807 then (some ((((t180 ++ (⟨#[120]⟩ : ByteArray)) ++ t181) ++ (⟨#[120]⟩ : ByteArray)) ++ t182)) else (none))) else (none)) else (none))) else (none))
def impl_Shape_sides.T1 : Bool × List (List Nat × List Nat) := (true, [([], []), ([0], [0]), ([1], [1]), ([2], [2]), ([], []), ([4], [4]), ([5, 2], [5]), ([3, 6], [3, 6]), ([7], [7]), ([], []), ([9], [9]), ([10, 6], [10]), ([8, 11], [8, 11]), ([12, 11, 0, 1, 2, 3, 4, 5, 6, 7, 8, 9, 10, 11, 12], [12])])
def impl_Shape_sides.B1 : List Nat := [0, 1, 3, 7, 0, 16, 55, 127, 255, 0, 512, 1655, 4095, 8191]
theorem impl_Shape_sides.tab1 : rtab .any (opsOf Tryd.f22 1) = impl_Shape_sides.T1 := by kernel_rfl
theorem impl_Shape_sides.bits1 : waitsOk impl_Shape_sides.T1.2 impl_Shape_sides.B1 = true := by kernel_rfl
theorem impl_Shape_sides.calls (a0_0 : Int) (a0_1 : Int) (a0_2 : Int) (r : ByteArray) (w : World) (htab : TabT w) (h : impl_Shape_sides.f a0_0 a0_1 a0_2 = some r) :
   Calls Tryd.prog 22 #[.agg #[.int .i64 a0_0, .int .i64 a0_1, .int .i64 a0_2]] w fun e w' => e = .returned (.string r) ∧ Below w.heap.size w w' := by
  have HTB := am htab;clear htab;have hu29 := Tryd.underlying29;have HB := am (Below.refl w.heap.size w);have H : ((strconv_Itoa.f a0_0).bind fun t180 => (if t180.size + 1 ≤ 9223372036854775807 then ((strconv_Itoa.f a0_1).bind fun t181 => (if (t180 ++ (⟨#[120]⟩ : ByteArray)).size + t181.size ≤ 9223372036854775807 then (if ((t180 ++ (⟨#[120]⟩ : ByteArray)) ++ t181).size + 1 ≤ 9223372036854775807 then ((strconv_Itoa.f a0_2).bind fun t182 => (if (((t180 ++ (⟨#[120]⟩ : ByteArray)) ++ t181) ++ (⟨#[120]⟩ : ByteArray)).size + t182.size ≤ 9223372036854775807 then (some ((((t180 ++ (⟨#[120]⟩ : ByteArray)) ++ t181) ++ (⟨#[120]⟩ : ByteArray)) ++ t182)) else (none))) else (none)) else (none))) else (none))) = some r := h;clear h;obtain ⟨t180, A2, H⟩ := bnd H;(try dsimp only at H);obtain ⟨c3, H⟩ := gd H;have c3b0 := eq_true c3;have c3b1 : decide (t180.size + 1 ≤ 9223372036854775807) = true := decide_eq_true c3
  try have c3b2 : (9223372036854775807 < t180.size + 1) = False := eq_false (Nat.not_lt.2 c3)
  obtain ⟨t181, A4, H⟩ := bnd H;(try dsimp only at H);obtain ⟨c5, H⟩ := gd H;have c5b0 := eq_true c5;have c5b1 : decide ((t180 ++ (⟨#[120]⟩ : ByteArray)).size + t181.size ≤ 9223372036854775807) = true := decide_eq_true c5
  try have c5b2 : (9223372036854775807 < (t180 ++ (⟨#[120]⟩ : ByteArray)).size + t181.size) = False := eq_false (Nat.not_lt.2 c5)
  try have c5b3 : (9223372036854775807 < t180.size + 1 + t181.size) = False := eq_false (by have h_ := c5; simp only [ByteArray.size_append, show (⟨#[120]⟩ : ByteArray).size = 1 from rfl] at h_; omega)
  obtain ⟨c6, H⟩ := gd H;have c6b0 := eq_true c6;have c6b1 : decide (((t180 ++ (⟨#[120]⟩ : ByteArray)) ++ t181).size + 1 ≤ 9223372036854775807) = true := decide_eq_true c6
  try have c6b2 : (9223372036854775807 < ((t180 ++ (⟨#[120]⟩ : ByteArray)) ++ t181).size + 1) = False := eq_false (Nat.not_lt.2 c6)
  try have c6b3 : (9223372036854775807 < t180.size + 1 + t181.size + 1) = False := eq_false (by have h_ := c6; simp only [ByteArray.size_append, show (⟨#[120]⟩ : ByteArray).size = 1 from rfl] at h_; omega)
  obtain ⟨t182, A7, H⟩ := bnd H;(try dsimp only at H);obtain ⟨c8, H⟩ := gd H;have c8b0 := eq_true c8;have c8b1 : decide ((((t180 ++ (⟨#[120]⟩ : ByteArray)) ++ t181) ++ (⟨#[120]⟩ : ByteArray)).size + t182.size ≤ 9223372036854775807) = true := decide_eq_true c8
  try have c8b2 : (9223372036854775807 < (((t180 ++ (⟨#[120]⟩ : ByteArray)) ++ t181) ++ (⟨#[120]⟩ : ByteArray)).size + t182.size) = False := eq_false (Nat.not_lt.2 c8)
  try have c8b3 : (9223372036854775807 < t180.size + 1 + t181.size + 1 + t182.size) = False := eq_false (by have h_ := c8; simp only [ByteArray.size_append, show (⟨#[120]⟩ : ByteArray).size = 1 from rfl] at h_; omega)
  obtain rfl := Option.some.inj H
  go_enter Tryd.func22, Tryd.ntmps22
  try go_wp2_with (first | ((with_reducible refine gate_dst (N := 1) rfl ?_); refine boxM 1 #[.int .i64 a0_0, .int .i64 a0_1, .int .i64 a0_2] 29 ?_; intro gb179 hg w9 BK179 hb; obtain ⟨HB, GW179, GE179⟩ := box_at w hb hg; clear hb hg))
  replace BK179 := am (blk_drew BK179.out);replace HB := am (below_drew1 HB.out)
  refine start_ (n := 14) (S := fun w' => w'.cell? ⟨gb179, 0, none⟩ = some (.int .i64 a0_0) ∧ w'.cell? ⟨gb179, 1, none⟩ = some (.int .i64 a0_1) ∧ w'.cell? ⟨gb179, 2, none⟩ = some (.int .i64 a0_2)) (ds := []) #[O, O, O, O, O, O, O, O, O, O, O, O, O, O] (by kernel_rfl) rfl rfl ⟨bc BK179 0, bc BK179 1, bc BK179 2⟩ (fun hHeld => ?_); refine with_tabW impl_Shape_sides.tab1 impl_Shape_sides.bits1 (fun HT_ HW_ => ?_)
  generalize w9.drew = w10 at BK179 HB hHeld ⊢
  refine stepP 0 (some 3) (tk 14 1) (any_of HT_.out (by kernel_rfl)) ?_
  refine stepP 4 (some 7) (tk 14 17) (any_of HT_.out (by kernel_rfl)) ?_
  refine stepP 9 (some 12) (tk 14 529) (any_of HT_.out (by kernel_rfl)) ?_
  refine stepT 1 (some 4) (tk 14 531) (take_ofW HT_.out HW_.out (by kernel_rfl)) hHeld ?_
  refine stepT 5 (some 8) (tk 14 563) (take_ofW HT_.out HW_.out (by kernel_rfl)) hHeld ?_
  refine stepT 10 (some 13) (tk 14 1587) (take_ofW HT_.out HW_.out (by kernel_rfl)) hHeld ?_
  refine one_ (i := 2) (N := some 5) #[I, I, I, O, I, I, O, O, O, I, I, O, O, O] rfl rfl (one_of HT_.out (by kernel_rfl)) (by decide) (fun K hK => ?_)
  refine goes_ Tryd.func43 (by kernel_rfl) rfl #[.int .i64 a0_0] (by rfl) rfl rfl (by (try simp only [List.map_toArray, List.map_cons, List.map_nil]); first | done | rfl | (simp only [List.length_drop, List.length_take]; rfl)) ?_
  with_reducible refine (strconv_Itoa.calls (htab := tab_now HTB) a0_0 t180 _ A2.out).mono ?_
  rintro e w11 ⟨rfl, hb⟩
  refine ⟨_, rfl, ?_⟩
  replace BK179 := blk_on gb179 hb;replace HB := bel_on w hb;(try clear hb);(try clear hb2);(try clear hb3);(try clear hk);(try clear hi)
  refine hK.out _ _ ⟨bc BK179 0, bc BK179 1, bc BK179 2⟩ (fun hHeld => ?_)
  clear hK K
  refine normP 5 ?_
  refine stepP 3 (some 6) (tk 14 1599) (any_of HT_.out (by kernel_rfl)) ?_
  refine one_ (i := 6) (N := some 9) #[I, I, I, I, I, I, I, O, O, I, I, O, O, O] rfl rfl (one_of HT_.out (by kernel_rfl)) (by decide) (fun K hK => ?_)
  refine goes_ Tryd.func43 (by kernel_rfl) rfl #[.int .i64 a0_1] (by rfl) rfl rfl (by (try simp only [List.map_toArray, List.map_cons, List.map_nil]); first | done | rfl | (simp only [List.length_drop, List.length_take]; rfl)) ?_
  with_reducible refine (strconv_Itoa.calls (htab := tab_now HTB) a0_1 t181 _ A4.out).mono ?_
  rintro e w12 ⟨rfl, hb⟩
  refine ⟨_, rfl, ?_⟩
  replace BK179 := blk_on gb179 hb;replace HB := bel_on w hb;(try clear hb);(try clear hb2);(try clear hb3);(try clear hk);(try clear hi)
  refine hK.out _ _ ⟨bc BK179 0, bc BK179 1, bc BK179 2⟩ (fun hHeld => ?_)
  clear hK K
  refine normP 9 ?_
  refine stepP 7 (some 10) (tk 14 1791) (any_of HT_.out (by kernel_rfl)) ?_
  refine stepP 8 (some 11) (tk 14 2047) (any_of HT_.out (by kernel_rfl)) ?_
  refine one_ (i := 11) (N := some 14) #[I, I, I, I, I, I, I, I, I, I, I, I, O, O] rfl rfl (one_of HT_.out (by kernel_rfl)) (by decide) (fun K hK => ?_)
  refine goes_ Tryd.func43 (by kernel_rfl) rfl #[.int .i64 a0_2] (by rfl) rfl rfl (by (try simp only [List.map_toArray, List.map_cons, List.map_nil]); first | done | rfl | (simp only [List.length_drop, List.length_take]; rfl)) ?_
  with_reducible refine (strconv_Itoa.calls (htab := tab_now HTB) a0_2 t182 _ A7.out).mono ?_
  rintro e w13 ⟨rfl, hb⟩
  refine ⟨_, rfl, ?_⟩
  replace BK179 := blk_on gb179 hb;replace HB := bel_on w hb;(try clear hb);(try clear hb2);(try clear hb3);(try clear hk);(try clear hi)
  refine hK.out _ _ ⟨bc BK179 0, bc BK179 1, bc BK179 2⟩ (fun hHeld => ?_)
  clear hK K
  refine normP 14 ?_
  refine stepP 12 (some 15) (tk 14 8191) (any_of HT_.out (by kernel_rfl)) ?_
  refine stepP 13 (some 2) (tk 14 16383) (any_of HT_.out (by kernel_rfl)) ?_
  refine done_ (done_of HT_.out (by kernel_rfl)) ?_
  try go_wp2
  go_ret
  exact ⟨eqN, bel_now⟩

end Go.Proofs.YtclpojeofclbjaaDoor.PFnExactParseTensor
