-- Printed by the session's own program (wip/myprint.py) for this claim out of the translation. Not trusted: Lean checks it.
import Derived.Test.YtclpojeofclbjaaPFnExactLeftOfx0
import Derived.Test.YtclpojeofclbjaaPFnExactLeftOfx12
import Derived.Test.YtclpojeofclbjaaPFnExactLeftOfx15
namespace Go.Proofs.Ytclpojeofclbjaa.PFnExactLeftOf
open Go.RowKit Go.Proofs.YtclpojeofclbjaaW.PrintWords Go.Proofs.YtclpojeofclbjaaW.PrintLast Go.Proofs.YtclpojeofclbjaaW.PrintMore
attribute [local go_sem] max2_int min2_int max_two min_two max_three min_three max_four min_four   -- for this text's walks alone
set_option linter.unusedVariables false
set_option linter.unusedSimpArgs false

/-! ### impl_TensorOk: function 52 -/
def impl_TensorOk.f (k : Nat) (a0_0 : Int) (a0_1 : Int) (a0_2 : Int) (l0_3 : List Int) : Option (Bool) := (impl_ShapeOk.f a0_0 a0_1 a0_2).bind fun t360 => (if t360 = true then ((impl_SizeOf.f a0_0 a0_1 a0_2).bind fun t361 => (if (l0_3.length : Int) = t361 then ((impl_areItems.f k l0_3).bind fun t362 => (some t362)) else (some false))) else (some false))
def impl_TensorOk.T1 : Bool × List (List Nat × List Nat) := (true, [([], []), ([0], [0]), ([1], [1]), ([2, 2], [2]), ([3], [3]), ([4, 3], [3, 4]), ([5, 3], [3, 5]), ([3], [3]), ([7, 3], [3, 7]), ([8, 3, 3], [3, 8]), ([6, 9, 3], [3, 6, 9]), ([3, 10], [3, 10]), ([11, 9], [11]), ([12], [12]), ([13, 12], [12, 13]), ([14, 12, 12], [12, 14]), ([12, 15], [12, 15]), ([16, 15, 0, 1, 2, 3, 4, 5, 6, 7, 8, 9, 10, 11, 12, 13, 14, 15, 16], [16])])
def impl_TensorOk.B1 : List Nat := [0, 1, 3, 7, 15, 31, 63, 15, 143, 399, 1023, 2047, 4095, 8191, 16383, 32767, 65535, 131071]
theorem impl_TensorOk.tab1 : rtab .any (opsOf Try.f52 1) = impl_TensorOk.T1 := by kernel_rfl
theorem impl_TensorOk.bits1 : waitsOk impl_TensorOk.T1.2 impl_TensorOk.B1 = true := by kernel_rfl
set_option maxHeartbeats 8000000 in
set_option maxRecDepth 100000 in
theorem impl_TensorOk.calls (k : Nat) (a0_0 : Int) (a0_1 : Int) (a0_2 : Int) (A0_3 : Option Addr) (c0_3 : Nat) (l0_3 : List Int) (r : Bool) (w : World) (hr0_3 : Kd.C (Kd.int .i64) w A0_3 l0_3.length l0_3) (hc0_3 : l0_3.length ≤ c0_3) (h : impl_TensorOk.f k a0_0 a0_1 a0_2 l0_3 = some r) :
   Calls Try.prog 52 #[.agg #[.int .i64 a0_0, .int .i64 a0_1, .int .i64 a0_2, .slice A0_3 l0_3.length c0_3]] w fun e w' => e = .returned (.bool r) ∧ Below w.heap.size w w' := by
  have hu33 := Try.underlying33
  have hu31 := Try.underlying31
  have HR0_3 := Aside0.mk hr0_3
  have HC0_3 := Aside0.mk hc0_3
  clear hr0_3 hc0_3
  have HB := Aside0.mk (Below.refl w.heap.size w)
  have H : ((impl_ShapeOk.f a0_0 a0_1 a0_2).bind fun t360 => (if t360 = true then ((impl_SizeOf.f a0_0 a0_1 a0_2).bind fun t361 => (if (l0_3.length : Int) = t361 then ((impl_areItems.f k l0_3).bind fun t362 => (some t362)) else (some false))) else (some false))) = some r := h
  clear h
  replace H := Option.bind_eq_some_iff.mp H
  obtain ⟨t360, A20, H⟩ := H
  (try dsimp only at H)
  have A2 := Aside0.mk A20
  clear A20
  by_cases c3 : t360 = true
  rotate_left
  ·replace c3 := Bool.eq_false_iff.mpr c3
   subst c3
   rw [if_neg (show ¬ (false = true) by decide)] at H
   obtain rfl := Option.some.inj H
   go_enter Try.func52, Try.ntmps52
   try go_wp2_with (first | ((with_reducible refine gate_dst (N := 1) rfl ?_); (try (refine gate_guard (by rfl) ?_; dsimp only)); refine boxM 1 #[.int .i64 a0_0, .int .i64 a0_1, .int .i64 a0_2, .slice A0_3 l0_3.length c0_3] 33 ?_; intro gb359 hg w15 BK359 hb; replace HB := box_at w hb hg; obtain ⟨HB, GW359, GE359⟩ := HB; clear hb hg))
   replace BK359 := Aside0.mk (blk_drew BK359.out)
   replace HB := Aside0.mk (below_drew1 HB.out)
   refine start_ (n := 18) (S := fun w' => w'.cell? ⟨gb359, 0, none⟩ = some (.int .i64 a0_0) ∧ w'.cell? ⟨gb359, 1, none⟩ = some (.int .i64 a0_1) ∧ w'.cell? ⟨gb359, 2, none⟩ = some (.int .i64 a0_2) ∧ w'.cell? ⟨gb359, 3, none⟩ = some (.slice A0_3 l0_3.length c0_3)) (ds := []) #[O, O, O, O, O, O, O, O, O, O, O, O, O, O, O, O, O, O] (by kernel_rfl) rfl rfl ⟨bc BK359 0, bc BK359 1, bc BK359 2, bc BK359 3⟩ (fun hHeld => ?_); refine with_tabW impl_TensorOk.tab1 impl_TensorOk.bits1 (fun HT_ HW_ => ?_)
   generalize w15.drew = w16 at BK359 HB hHeld ⊢
   refine stepP 0 (some 3) (tk 18 1) (any_of HT_.out (by kernel_rfl)) ?_
   refine stepT 1 (some 4) (tk 18 3) (take_ofW HT_.out HW_.out (by kernel_rfl)) hHeld ?_
   refine one_ (i := 2) (N := some 5) #[I, I, I, O, O, O, O, O, O, O, O, O, O, O, O, O, O, O] rfl rfl (one_of HT_.out (by kernel_rfl)) (by decide) (fun K hK => ?_)
   refine goes_ Try.func63 (by kernel_rfl) rfl #[.agg #[.int .i64 a0_0, .int .i64 a0_1, .int .i64 a0_2]] (by rfl) rfl rfl (by (try simp only [List.map_toArray, List.map_cons, List.map_nil]); first | done | rfl | (simp only [List.length_drop, List.length_take]; rfl)) ?_
   with_reducible refine (impl_ShapeOk.calls a0_0 a0_1 a0_2 false _ A2.out).mono ?_
   rintro e w17 ⟨rfl, hb⟩
   refine ⟨_, rfl, ?_⟩
   replace BK359 := blk_on gb359 hb
   replace HB := bel_on w hb
   (try clear hb)
   refine hK.out _ _ ⟨bc BK359 0, bc BK359 1, bc BK359 2, bc BK359 3⟩ (fun hHeld => ?_)
   clear hK K
   refine normP 5 ?_
   refine stepP 3 (some 6) (tk 18 15) (any_of HT_.out (by kernel_rfl)) ?_
   refine stepU 4 (some 7) (tk 18 31) (any_of HT_.out (by kernel_rfl)) ?_
   refine stepU 5 (some 8) (tk 18 63) (any_of HT_.out (by kernel_rfl)) ?_
   refine stepU 6 (some 9) (tk 18 127) (any_of HT_.out (by kernel_rfl)) ?_
   refine stepU 7 (some 10) (tk 18 255) (any_of HT_.out (by kernel_rfl)) ?_
   refine stepU 8 (some 11) (tk 18 511) (any_of HT_.out (by kernel_rfl)) ?_
   refine stepU 9 (some 12) (tk 18 1023) (any_of HT_.out (by kernel_rfl)) ?_
   refine stepU 10 (some 13) (tk 18 2047) (any_of HT_.out (by kernel_rfl)) ?_
   refine stepP 11 (some 14) (tk 18 4095) (any_of HT_.out (by kernel_rfl)) ?_
   refine stepP 12 (some 15) (tk 18 8191) (any_of HT_.out (by kernel_rfl)) ?_
   refine stepU 13 (some 16) (tk 18 16383) (any_of HT_.out (by kernel_rfl)) ?_
   refine stepU 14 (some 17) (tk 18 32767) (any_of HT_.out (by kernel_rfl)) ?_
   refine stepU 15 (some 18) (tk 18 65535) (any_of HT_.out (by kernel_rfl)) ?_
   refine stepP 16 (some 19) (tk 18 131071) (any_of HT_.out (by kernel_rfl)) ?_
   refine stepP 17 (some 2) (tk 18 262143) (any_of HT_.out (by kernel_rfl)) ?_
   refine done_ (done_of HT_.out (by kernel_rfl)) ?_
   try go_wp2
   go_ret
   exact ⟨eqN, bel_now⟩
  subst c3
  rw [if_pos rfl] at H
  replace H := Option.bind_eq_some_iff.mp H
  obtain ⟨t361, A40, H⟩ := H
  (try dsimp only at H)
  have A4 := Aside0.mk A40
  clear A40
  by_cases c5 : (l0_3.length : Int) = t361
  rotate_left
  ·rw [if_neg c5] at H
   have c5b0 : ((l0_3.length : Int) == t361) = false := beq_eq_false_iff_ne.mpr c5
   have c5b1 : ((l0_3.length : Int) != t361) = true := bne_iff_ne.mpr c5
   obtain rfl := Option.some.inj H
   go_enter Try.func52, Try.ntmps52
   try go_wp2_with (first | ((with_reducible refine gate_dst (N := 1) rfl ?_); (try (refine gate_guard (by rfl) ?_; dsimp only)); refine boxM 1 #[.int .i64 a0_0, .int .i64 a0_1, .int .i64 a0_2, .slice A0_3 l0_3.length c0_3] 33 ?_; intro gb359 hg w11 BK359 hb; replace HB := box_at w hb hg; obtain ⟨HB, GW359, GE359⟩ := HB; clear hb hg))
   replace BK359 := Aside0.mk (blk_drew BK359.out)
   replace HB := Aside0.mk (below_drew1 HB.out)
   refine start_ (n := 18) (S := fun w' => w'.cell? ⟨gb359, 0, none⟩ = some (.int .i64 a0_0) ∧ w'.cell? ⟨gb359, 1, none⟩ = some (.int .i64 a0_1) ∧ w'.cell? ⟨gb359, 2, none⟩ = some (.int .i64 a0_2) ∧ w'.cell? ⟨gb359, 3, none⟩ = some (.slice A0_3 l0_3.length c0_3)) (ds := []) #[O, O, O, O, O, O, O, O, O, O, O, O, O, O, O, O, O, O] (by kernel_rfl) rfl rfl ⟨bc BK359 0, bc BK359 1, bc BK359 2, bc BK359 3⟩ (fun hHeld => ?_); refine with_tabW impl_TensorOk.tab1 impl_TensorOk.bits1 (fun HT_ HW_ => ?_)
   generalize w11.drew = w12 at BK359 HB hHeld ⊢
   refine stepP 0 (some 3) (tk 18 1) (any_of HT_.out (by kernel_rfl)) ?_
   refine stepT 1 (some 4) (tk 18 3) (take_ofW HT_.out HW_.out (by kernel_rfl)) hHeld ?_
   refine one_ (i := 2) (N := some 5) #[I, I, I, O, O, O, O, O, O, O, O, O, O, O, O, O, O, O] rfl rfl (one_of HT_.out (by kernel_rfl)) (by decide) (fun K hK => ?_)
   refine goes_ Try.func63 (by kernel_rfl) rfl #[.agg #[.int .i64 a0_0, .int .i64 a0_1, .int .i64 a0_2]] (by rfl) rfl rfl (by (try simp only [List.map_toArray, List.map_cons, List.map_nil]); first | done | rfl | (simp only [List.length_drop, List.length_take]; rfl)) ?_
   with_reducible refine (impl_ShapeOk.calls a0_0 a0_1 a0_2 true _ A2.out).mono ?_
   rintro e w13 ⟨rfl, hb⟩
   refine ⟨_, rfl, ?_⟩
   replace BK359 := blk_on gb359 hb
   replace HB := bel_on w hb
   (try clear hb)
   refine hK.out _ _ ⟨bc BK359 0, bc BK359 1, bc BK359 2, bc BK359 3⟩ (fun hHeld => ?_)
   clear hK K
   refine normP 5 ?_
   refine stepP 3 (some 6) (tk 18 15) (any_of HT_.out (by kernel_rfl)) ?_
   refine stepP 4 (some 7) (tk 18 31) (any_of HT_.out (by kernel_rfl)) ?_
   refine stepP 7 (some 10) (tk 18 159) (any_of HT_.out (by kernel_rfl)) ?_
   refine stepT 5 (some 8) (tk 18 191) (take_ofW HT_.out HW_.out (by kernel_rfl)) hHeld ?_
   refine stepP 6 (some 9) (tk 18 255) (any_of HT_.out (by kernel_rfl)) ?_
   refine stepT 8 (some 11) (tk 18 511) (take_ofW HT_.out HW_.out (by kernel_rfl)) hHeld ?_
   refine one_ (i := 9) (N := some 12) #[I, I, I, I, I, I, I, I, I, I, O, O, O, O, O, O, O, O] rfl rfl (one_of HT_.out (by kernel_rfl)) (by decide) (fun K hK => ?_)
   refine goes_ Try.func64 (by kernel_rfl) rfl #[.agg #[.int .i64 a0_0, .int .i64 a0_1, .int .i64 a0_2]] (by rfl) rfl rfl (by (try simp only [List.map_toArray, List.map_cons, List.map_nil]); first | done | rfl | (simp only [List.length_drop, List.length_take]; rfl)) ?_
   with_reducible refine (impl_SizeOf.calls a0_0 a0_1 a0_2 t361 _ A4.out).mono ?_
   rintro e w14 ⟨rfl, hb⟩
   refine ⟨_, rfl, ?_⟩
   replace BK359 := blk_on gb359 hb
   replace HB := bel_on w hb
   (try clear hb)
   refine hK.out _ _ ⟨bc BK359 0, bc BK359 1, bc BK359 2, bc BK359 3⟩ (fun hHeld => ?_)
   clear hK K
   refine normP 12 ?_
   refine stepP 10 (some 13) (tk 18 2047) (any_of HT_.out (by kernel_rfl)) ?_
   refine stepP 11 (some 14) (tk 18 4095) (any_of HT_.out (by kernel_rfl)) ?_
   refine stepP 12 (some 15) (tk 18 8191) (any_of HT_.out (by kernel_rfl)) ?_
   refine stepU 13 (some 16) (tk 18 16383) (any_of HT_.out (by kernel_rfl)) ?_
   refine stepU 14 (some 17) (tk 18 32767) (any_of HT_.out (by kernel_rfl)) ?_
   refine stepU 15 (some 18) (tk 18 65535) (any_of HT_.out (by kernel_rfl)) ?_
   refine stepP 16 (some 19) (tk 18 131071) (any_of HT_.out (by kernel_rfl)) ?_
   refine stepP 17 (some 2) (tk 18 262143) (any_of HT_.out (by kernel_rfl)) ?_
   refine done_ (done_of HT_.out (by kernel_rfl)) ?_
   try go_wp2
   go_ret
   exact ⟨eqN, bel_now⟩
  rw [if_pos c5] at H
  have c5b0 : ((l0_3.length : Int) == t361) = true := beq_iff_eq.mpr c5
  have c5b1 : ((l0_3.length : Int) != t361) = false := bne_eq_false_iff_eq.mpr c5
  clear c5
  replace H := Option.bind_eq_some_iff.mp H
  obtain ⟨t362, A60, H⟩ := H
  (try dsimp only at H)
  have A6 := Aside0.mk A60
  clear A60
  obtain rfl := Option.some.inj H
  go_enter Try.func52, Try.ntmps52
  try go_wp2_with (first | ((with_reducible refine gate_dst (N := 1) rfl ?_); (try (refine gate_guard (by rfl) ?_; dsimp only)); refine boxM 1 #[.int .i64 a0_0, .int .i64 a0_1, .int .i64 a0_2, .slice A0_3 l0_3.length c0_3] 33 ?_; intro gb359 hg w7 BK359 hb; replace HB := box_at w hb hg; obtain ⟨HB, GW359, GE359⟩ := HB; clear hb hg))
  replace BK359 := Aside0.mk (blk_drew BK359.out)
  replace HB := Aside0.mk (below_drew1 HB.out)
  refine start_ (n := 18) (S := fun w' => w'.cell? ⟨gb359, 0, none⟩ = some (.int .i64 a0_0) ∧ w'.cell? ⟨gb359, 1, none⟩ = some (.int .i64 a0_1) ∧ w'.cell? ⟨gb359, 2, none⟩ = some (.int .i64 a0_2) ∧ w'.cell? ⟨gb359, 3, none⟩ = some (.slice A0_3 l0_3.length c0_3)) (ds := []) #[O, O, O, O, O, O, O, O, O, O, O, O, O, O, O, O, O, O] (by kernel_rfl) rfl rfl ⟨bc BK359 0, bc BK359 1, bc BK359 2, bc BK359 3⟩ (fun hHeld => ?_); refine with_tabW impl_TensorOk.tab1 impl_TensorOk.bits1 (fun HT_ HW_ => ?_)
  generalize w7.drew = w8 at BK359 HB hHeld ⊢
  refine stepP 0 (some 3) (tk 18 1) (any_of HT_.out (by kernel_rfl)) ?_
  refine stepT 1 (some 4) (tk 18 3) (take_ofW HT_.out HW_.out (by kernel_rfl)) hHeld ?_
  refine one_ (i := 2) (N := some 5) #[I, I, I, O, O, O, O, O, O, O, O, O, O, O, O, O, O, O] rfl rfl (one_of HT_.out (by kernel_rfl)) (by decide) (fun K hK => ?_)
  refine goes_ Try.func63 (by kernel_rfl) rfl #[.agg #[.int .i64 a0_0, .int .i64 a0_1, .int .i64 a0_2]] (by rfl) rfl rfl (by (try simp only [List.map_toArray, List.map_cons, List.map_nil]); first | done | rfl | (simp only [List.length_drop, List.length_take]; rfl)) ?_
  with_reducible refine (impl_ShapeOk.calls a0_0 a0_1 a0_2 true _ A2.out).mono ?_
  rintro e w9 ⟨rfl, hb⟩
  refine ⟨_, rfl, ?_⟩
  replace BK359 := blk_on gb359 hb
  replace HB := bel_on w hb
  (try clear hb)
  refine hK.out _ _ ⟨bc BK359 0, bc BK359 1, bc BK359 2, bc BK359 3⟩ (fun hHeld => ?_)
  clear hK K
  refine normP 5 ?_
  refine stepP 3 (some 6) (tk 18 15) (any_of HT_.out (by kernel_rfl)) ?_
  refine stepP 4 (some 7) (tk 18 31) (any_of HT_.out (by kernel_rfl)) ?_
  refine stepP 7 (some 10) (tk 18 159) (any_of HT_.out (by kernel_rfl)) ?_
  refine stepT 5 (some 8) (tk 18 191) (take_ofW HT_.out HW_.out (by kernel_rfl)) hHeld ?_
  refine stepP 6 (some 9) (tk 18 255) (any_of HT_.out (by kernel_rfl)) ?_
  refine stepT 8 (some 11) (tk 18 511) (take_ofW HT_.out HW_.out (by kernel_rfl)) hHeld ?_
  refine one_ (i := 9) (N := some 12) #[I, I, I, I, I, I, I, I, I, I, O, O, O, O, O, O, O, O] rfl rfl (one_of HT_.out (by kernel_rfl)) (by decide) (fun K hK => ?_)
  refine goes_ Try.func64 (by kernel_rfl) rfl #[.agg #[.int .i64 a0_0, .int .i64 a0_1, .int .i64 a0_2]] (by rfl) rfl rfl (by (try simp only [List.map_toArray, List.map_cons, List.map_nil]); first | done | rfl | (simp only [List.length_drop, List.length_take]; rfl)) ?_
  with_reducible refine (impl_SizeOf.calls a0_0 a0_1 a0_2 t361 _ A4.out).mono ?_
  rintro e w10 ⟨rfl, hb⟩
  refine ⟨_, rfl, ?_⟩
  replace BK359 := blk_on gb359 hb
  replace HB := bel_on w hb
  (try clear hb)
  refine hK.out _ _ ⟨bc BK359 0, bc BK359 1, bc BK359 2, bc BK359 3⟩ (fun hHeld => ?_)
  clear hK K
  refine normP 12 ?_
  refine stepP 10 (some 13) (tk 18 2047) (any_of HT_.out (by kernel_rfl)) ?_
  refine stepP 11 (some 14) (tk 18 4095) (any_of HT_.out (by kernel_rfl)) ?_
  refine stepP 12 (some 15) (tk 18 8191) (any_of HT_.out (by kernel_rfl)) ?_
  refine stepP 13 (some 16) (tk 18 16383) (any_of HT_.out (by kernel_rfl)) ?_
  refine stepT 14 (some 17) (tk 18 32767) (take_ofW HT_.out HW_.out (by kernel_rfl)) hHeld ?_
  refine one_ (i := 15) (N := some 18) #[I, I, I, I, I, I, I, I, I, I, I, I, I, I, I, I, O, O] rfl rfl (one_of HT_.out (by kernel_rfl)) (by decide) (fun K hK => ?_)
  refine goes_ Try.func101 (by kernel_rfl) rfl #[.slice A0_3 l0_3.length c0_3] (by rfl) rfl rfl (by (try simp only [List.map_toArray, List.map_cons, List.map_nil]); first | done | rfl | (simp only [List.length_drop, List.length_take]; rfl)) ?_
  with_reducible refine (impl_areItems.calls k _ _ l0_3 t362 _ ?side1 ?side2 A6.out).mono ?_
  (case side1 => exact C_now HR0_3.out)
  (case side2 => exact HC0_3.out)
  rintro e w' ⟨rfl, ⟨nd, rfl⟩⟩
  refine ⟨_, rfl, ?_⟩
  refine hK.out _ _ ⟨bc BK359 0, bc BK359 1, bc BK359 2, bc BK359 3⟩ (fun hHeld => ?_)
  clear hK K
  refine normP 18 ?_
  refine stepP 16 (some 19) (tk 18 131071) (any_of HT_.out (by kernel_rfl)) ?_
  refine stepP 17 (some 2) (tk 18 262143) (any_of HT_.out (by kernel_rfl)) ?_
  refine done_ (done_of HT_.out (by kernel_rfl)) ?_
  try go_wp2
  go_ret
  exact ⟨eqN, bel_now⟩

/-! ### impl_ShapesOf: function 108 -/
def impl_ShapesOf.f (k : Nat) (a0_0 : Int) (a0_1 : Int) (a0_2 : Int) (l0_3 : List (S37)) : Option ((List (S31))) := (impl_ModelOk.f k a0_0 a0_1 a0_2 l0_3).bind fun t364 => (if t364 = true then ((impl_Model_shapes.f k a0_0 a0_1 a0_2 l0_3).bind fun bt365 => (some bt365.1)) else (some ([] : List (S31))))
set_option maxHeartbeats 8000000 in
set_option maxRecDepth 100000 in
theorem impl_ShapesOf.calls (k : Nat) (a0_0 : Int) (a0_1 : Int) (a0_2 : Int) (A0_3 : Option Addr) (c0_3 : Nat) (l0_3 : List (S37)) (r : List (S31)) (w : World) (hr0_3 : Kd.C k37 w A0_3 l0_3.length l0_3) (hc0_3 : l0_3.length ≤ c0_3) (h : impl_ShapesOf.f k a0_0 a0_1 a0_2 l0_3 = some r) :
   Calls Try.prog 108 #[.agg #[.int .i64 a0_0, .int .i64 a0_1, .int .i64 a0_2, .slice A0_3 l0_3.length c0_3]] w fun e w' => ∃ v0_ : Value, e = .returned (v0_) ∧ Kd.R k31 31 w' w.heap.size (fun _ => True) v0_ r ∧ Below w.heap.size w w' := by
  have hu53 := Try.underlying53
  have HR0_3 := Aside0.mk hr0_3
  have HC0_3 := Aside0.mk hc0_3
  clear hr0_3 hc0_3
  have HB := Aside0.mk (Below.refl w.heap.size w)
  have H : ((impl_ModelOk.f k a0_0 a0_1 a0_2 l0_3).bind fun t364 => (if t364 = true then ((impl_Model_shapes.f k a0_0 a0_1 a0_2 l0_3).bind fun bt365 => (some bt365.1)) else (some ([] : List (S31))))) = some r := h
  clear h
  replace H := Option.bind_eq_some_iff.mp H
  obtain ⟨t364, A20, H⟩ := H
  (try dsimp only at H)
  have A2 := Aside0.mk A20
  clear A20
  by_cases c3 : t364 = true
  rotate_left
  ·replace c3 := Bool.eq_false_iff.mpr c3
   subst c3
   rw [if_neg (show ¬ (false = true) by decide)] at H
   obtain rfl := Option.some.inj H
   go_enter Try.func108, Try.ntmps108
   go_wp2_with (first | ((with_reducible refine gate_dst (N := 1) rfl ?_); refine boxM 1 #[.int .i64 a0_0, .int .i64 a0_1, .int .i64 a0_2, .slice A0_3 l0_3.length c0_3] 53 ?_; intro gb363 hg w10 BK363 hb; replace HB := box_at w hb hg; obtain ⟨HB, GW363, GE363⟩ := HB; clear hb hg; have hcz11 := cells4 BK363.out) | ((with_reducible refine gate_callee (f := 87) rfl ?_); refine goesM (some 6) rfl rfl Try.func87 (by kernel_rfl) rfl #[.agg #[.int .i64 a0_0, .int .i64 a0_1, .int .i64 a0_2, .slice A0_3 l0_3.length c0_3]] rfl ?_; (with_reducible refine (impl_ModelOk.calls k a0_0 a0_1 a0_2 _ _ l0_3 false _ ?side1 ?side2 A2.out).mono ?_); (case side1 => exact C_now HR0_3.out); (case side2 => exact HC0_3.out); rintro e w12 ⟨rfl, hb⟩; refine ⟨_, rfl, ?_⟩; replace HB := bel_on w hb; replace BK363 := blk_on gb363 hb; (try clear hb)))
   go_ret
   exact ⟨_, eqN, by first | exact Kd.R_nil _ _ _ _ _ | exact Kd.N_nil _ _ _ _ _ | exact Kd.V_nil _ _ _ _ _ | exact Kd.Q_nil _ _ _ _ _ | exact Kd.S_nil _ _ _ _ _, bel_now⟩
  subst c3
  rw [if_pos rfl] at H
  replace H := Option.bind_eq_some_iff.mp H
  obtain ⟨⟨t365, t368⟩, A40, H⟩ := H
  (try dsimp only at H)
  have A4 := Aside0.mk A40
  clear A40
  obtain rfl := Option.some.inj H
  go_enter Try.func108, Try.ntmps108
  go_wp2_with (first | ((with_reducible refine gate_dst (N := 1) rfl ?_); refine boxM 1 #[.int .i64 a0_0, .int .i64 a0_1, .int .i64 a0_2, .slice A0_3 l0_3.length c0_3] 53 ?_; intro gb363 hg w5 BK363 hb; replace HB := box_at w hb hg; obtain ⟨HB, GW363, GE363⟩ := HB; clear hb hg; have hcz6 := cells4 BK363.out) | ((with_reducible refine gate_callee (f := 87) rfl ?_); refine goesM (some 6) rfl rfl Try.func87 (by kernel_rfl) rfl #[.agg #[.int .i64 a0_0, .int .i64 a0_1, .int .i64 a0_2, .slice A0_3 l0_3.length c0_3]] rfl ?_; (with_reducible refine (impl_ModelOk.calls k a0_0 a0_1 a0_2 _ _ l0_3 true _ ?side1 ?side2 A2.out).mono ?_); (case side1 => exact C_now HR0_3.out); (case side2 => exact HC0_3.out); rintro e w7 ⟨rfl, hb⟩; refine ⟨_, rfl, ?_⟩; replace HB := bel_on w hb; replace BK363 := blk_on gb363 hb; (try clear hb); have hcz8 := cells4 BK363.out) | ((with_reducible refine gate_callee (f := 124) rfl ?_); refine goesM (some 10) rfl rfl Try.func124 (by kernel_rfl) rfl #[.agg #[.int .i64 a0_0, .int .i64 a0_1, .int .i64 a0_2, .slice A0_3 l0_3.length c0_3]] rfl ?_; (with_reducible refine (impl_Model_shapes.calls k a0_0 a0_1 a0_2 _ _ l0_3 t365 t368 _ ?side1 ?side2 A4.out).mono ?_); (case side1 => exact C_now HR0_3.out); (case side2 => exact HC0_3.out); rintro e w9 ⟨v366, rfl, ho0, hb⟩; refine ⟨_, rfl, ?_⟩; have n0_ := Aside0.mk (Kd.R_lower ho0 (below_size bel_now)); replace HB := bel_on w hb; replace BK363 := blk_on gb363 hb; have HO367 := n0_; clear n0_; (try clear hb); (try clear ho0)))
  go_ret
  exact ⟨_, eqN, by (with_reducible repeat (first | apply Kd.R_alloc | apply Kd.R_drewN | apply Kd.R_drew)); exact HO367.out, bel_now⟩

end Go.Proofs.Ytclpojeofclbjaa.PFnExactLeftOf
