-- Printed by the session's own program (wip/myprint.py) for this claim out of the translation. Not trusted: Lean checks it.
import Derived.Test.YtjmejobelkllmaaDoorPFnExactTensorTextx0
import Derived.Test.YtjmejobelkllmaaDoorPFnExactTensorTextx2
namespace Go.Proofs.YtjmejobelkllmaaDoor.PFnExactTensorText
open Go.RowKit Go.Proofs.YtjmejobelkllmaaDoorW.PrintWords Go.Proofs.YtjmejobelkllmaaDoorW.PrintLast Go.Proofs.YtjmejobelkllmaaDoorW.PrintMore
attribute [local go_sem] max2_int min2_int max_two min_two max_three min_three max_four min_four   -- for this text's walks alone
set_option linter.unusedVariables false
set_option linter.unusedSimpArgs false

/-! ### impl_areItems: function 42 -/
def impl_areItems.f (k : Nat) (l0 : List Int) : Option (Bool) := (slices_ContainsFunc_int_int_impl_areItems_1.f k l0).bind fun t155 => (some (!t155))
set_option maxHeartbeats 8000000 in
set_option maxRecDepth 100000 in
theorem impl_areItems.calls (k : Nat) (A0 : Option Addr) (c0 : Nat) (l0 : List Int) (r : Bool) (w : World) (hr0 : Kd.C (Kd.int .i64) w A0 l0.length l0) (hc0 : l0.length ≤ c0) (h : impl_areItems.f k l0 = some r) :
   Calls Tryd.prog 42 #[.slice A0 l0.length c0] w fun e w' => e = .returned (.bool r) ∧ Drawn0 w w' := by
  have HR0 := Aside0.mk hr0
  have HC0 := Aside0.mk hc0
  clear hr0 hc0
  have H : ((slices_ContainsFunc_int_int_impl_areItems_1.f k l0).bind fun t155 => (some (!t155))) = some r := h
  clear h
  replace H := Option.bind_eq_some_iff.mp H
  obtain ⟨t155, A20, H⟩ := H
  (try dsimp only at H)
  have A2 := Aside0.mk A20
  clear A20
  obtain rfl := Option.some.inj H
  go_enter Tryd.func42, Tryd.ntmps42
  go_wp2_with (first | (go_at_call 45; (with_reducible refine (slices_ContainsFunc_int_int_impl_areItems_1.calls k _ _ l0 t155 _ ?side1 ?side2 A2.out).mono ?_); (case side1 => repeat (first | exact HR0.out | (with_reducible refine Kd.C_alloc ?_ _) | (with_reducible refine Kd.C_drewN ?_ _) | (with_reducible refine Kd.C_drew ?_))); (case side2 => exact HC0.out); rintro e w' ⟨rfl, ⟨nd, rfl⟩⟩))
  go_ret
  exact ⟨by first | rfl | (simp; done) | (simp [*]; done), by repeat (first | exact Drawn0.refl _ | apply Drawn0.step)⟩

/-! ### impl_TensorOk: function 31 -/
def impl_TensorOk.f (k : Nat) (a0_0 : Int) (a0_1 : Int) (a0_2 : Int) (l0_3 : List Int) : Option (Bool) := (impl_ShapeOk.f a0_0 a0_1 a0_2).bind fun t157 => (if t157 = true then ((impl_SizeOf.f a0_0 a0_1 a0_2).bind fun t158 => (if (l0_3.length : Int) = t158 then ((impl_areItems.f k l0_3).bind fun t159 => (some t159)) else (some false))) else (some false))
def impl_TensorOk.T1 : Bool × List (List Nat × List Nat) := (true, [([], []), ([0], [0]), ([1], [1]), ([2, 2], [2]), ([3], [3]), ([4, 3], [3, 4]), ([5, 3], [3, 5]), ([3], [3]), ([7, 3], [3, 7]), ([8, 3, 3], [3, 8]), ([6, 9, 3], [3, 6, 9]), ([3, 10], [3, 10]), ([11, 9], [11]), ([12], [12]), ([13, 12], [12, 13]), ([14, 12, 12], [12, 14]), ([12, 15], [12, 15]), ([16, 15, 0, 1, 2, 3, 4, 5, 6, 7, 8, 9, 10, 11, 12, 13, 14, 15, 16], [16])])
def impl_TensorOk.B1 : List Nat := [0, 1, 3, 7, 15, 31, 63, 15, 143, 399, 1023, 2047, 4095, 8191, 16383, 32767, 65535, 131071]
theorem impl_TensorOk.tab1 : rtab .any (opsOf Tryd.f31 1) = impl_TensorOk.T1 := by kernel_rfl
theorem impl_TensorOk.bits1 : waitsOk impl_TensorOk.T1.2 impl_TensorOk.B1 = true := by kernel_rfl
set_option maxHeartbeats 8000000 in
set_option maxRecDepth 100000 in
theorem impl_TensorOk.calls (k : Nat) (a0_0 : Int) (a0_1 : Int) (a0_2 : Int) (A0_3 : Option Addr) (c0_3 : Nat) (l0_3 : List Int) (r : Bool) (w : World) (hr0_3 : Kd.C (Kd.int .i64) w A0_3 l0_3.length l0_3) (hc0_3 : l0_3.length ≤ c0_3) (h : impl_TensorOk.f k a0_0 a0_1 a0_2 l0_3 = some r) :
   Calls Tryd.prog 31 #[.agg #[.int .i64 a0_0, .int .i64 a0_1, .int .i64 a0_2, .slice A0_3 l0_3.length c0_3]] w fun e w' => e = .returned (.bool r) ∧ Below w.heap.size w w' := by
  have hu42 := Tryd.underlying42
  have hu40 := Tryd.underlying40
  have HR0_3 := Aside0.mk hr0_3
  have HC0_3 := Aside0.mk hc0_3
  clear hr0_3 hc0_3
  have HB := Aside0.mk (Below.refl w.heap.size w)
  have H : ((impl_ShapeOk.f a0_0 a0_1 a0_2).bind fun t157 => (if t157 = true then ((impl_SizeOf.f a0_0 a0_1 a0_2).bind fun t158 => (if (l0_3.length : Int) = t158 then ((impl_areItems.f k l0_3).bind fun t159 => (some t159)) else (some false))) else (some false))) = some r := h
  clear h
  replace H := Option.bind_eq_some_iff.mp H
  obtain ⟨t157, A20, H⟩ := H
  (try dsimp only at H)
  have A2 := Aside0.mk A20
  clear A20
  by_cases c3 : t157 = true
  rotate_left
  ·replace c3 := Bool.eq_false_iff.mpr c3
   subst c3
   rw [if_neg (show ¬ (false = true) by decide)] at H
   obtain rfl := Option.some.inj H
   go_enter Tryd.func31, Tryd.ntmps31
   try go_wp2_with (first | ((with_reducible refine gate_dst (N := 1) rfl ?_); (try (refine gate_guard (by rfl) ?_; dsimp only)); refine boxM 1 #[.int .i64 a0_0, .int .i64 a0_1, .int .i64 a0_2, .slice A0_3 l0_3.length c0_3] 42 ?_; intro gb156 hg w15 BK156 hb; replace HB := box_at w hb hg; obtain ⟨HB, GW156, GE156⟩ := HB; clear hb hg))
   replace BK156 := Aside0.mk (blk_drew BK156.out)
   replace HB := Aside0.mk (below_drew1 HB.out)
   refine start_ (n := 18) (S := fun w' => w'.cell? ⟨gb156, 0, none⟩ = some (.int .i64 a0_0) ∧ w'.cell? ⟨gb156, 1, none⟩ = some (.int .i64 a0_1) ∧ w'.cell? ⟨gb156, 2, none⟩ = some (.int .i64 a0_2) ∧ w'.cell? ⟨gb156, 3, none⟩ = some (.slice A0_3 l0_3.length c0_3)) (ds := []) #[O, O, O, O, O, O, O, O, O, O, O, O, O, O, O, O, O, O] (by kernel_rfl) rfl rfl ⟨bc BK156 0, bc BK156 1, bc BK156 2, bc BK156 3⟩ (fun hHeld => ?_); refine with_tabW impl_TensorOk.tab1 impl_TensorOk.bits1 (fun HT_ HW_ => ?_)
   generalize w15.drew = w16 at BK156 HB hHeld ⊢
   refine stepP 0 (some 3) (tk 18 1) (any_of HT_.out (by kernel_rfl)) ?_
   refine stepT 1 (some 4) (tk 18 3) (take_ofW HT_.out HW_.out (by kernel_rfl)) hHeld ?_
   refine one_ (i := 2) (N := some 5) #[I, I, I, O, O, O, O, O, O, O, O, O, O, O, O, O, O, O] rfl rfl (one_of HT_.out (by kernel_rfl)) (by decide) (fun K hK => ?_)
   refine goes_ Tryd.func40 (by kernel_rfl) rfl #[.agg #[.int .i64 a0_0, .int .i64 a0_1, .int .i64 a0_2]] (by rfl) rfl rfl (by (try simp only [List.map_toArray, List.map_cons, List.map_nil]); first | done | rfl | (simp only [List.length_drop, List.length_take]; rfl)) ?_
   with_reducible refine (impl_ShapeOk.calls a0_0 a0_1 a0_2 false _ A2.out).mono ?_
   rintro e w17 ⟨rfl, hb⟩
   refine ⟨_, rfl, ?_⟩
   replace BK156 := blk_on gb156 hb
   replace HB := bel_on w hb
   (try clear hb)
   refine hK.out _ _ ⟨bc BK156 0, bc BK156 1, bc BK156 2, bc BK156 3⟩ (fun hHeld => ?_)
   clear hK K
   refine normP 5 ?_
   refine stepP 3 (some 6) (tk 18 15) (any_of HT_.out (by kernel_rfl)) ?_
   refine stepU 4 (some 7) (tk 18 31) (any_of HT_.out (by kernel_rfl)) ?_
   refine stepU 5 (some 8) (tk 18 63) (any_of HT_.out (by kernel_rfl)) ?_
   refine stepU 6 (some 9) (tk 18 127) (any_of HT_.out (by kernel_rfl)) ?_
   refine stepU 7 (some 10) (tk 18 255) (any_of HT_.out (by kernel_rfl)) ?_
   refine stepU 8 (some 11) (tk 18 511) (any_of HT_.out (by kernel_rfl)) ?_
   refine stepU 9 (some 12) (tk 18 1023) (any_of HT_.out (by kernel_rfl)) ?_
   refine stepU 10 (some 13) (tk 18 2047) (any_of HT_.out (by kernel_rfl)) ?_
   refine stepP 11 (some 14) (tk 18 4095) (any_of HT_.out (by kernel_rfl)) ?_
   refine stepP 12 (some 15) (tk 18 8191) (any_of HT_.out (by kernel_rfl)) ?_
   refine stepU 13 (some 16) (tk 18 16383) (any_of HT_.out (by kernel_rfl)) ?_
   refine stepU 14 (some 17) (tk 18 32767) (any_of HT_.out (by kernel_rfl)) ?_
   refine stepU 15 (some 18) (tk 18 65535) (any_of HT_.out (by kernel_rfl)) ?_
   refine stepP 16 (some 19) (tk 18 131071) (any_of HT_.out (by kernel_rfl)) ?_
   refine stepP 17 (some 2) (tk 18 262143) (any_of HT_.out (by kernel_rfl)) ?_
   refine done_ (done_of HT_.out (by kernel_rfl)) ?_
   try go_wp2
   go_ret
   exact ⟨eqN, bel_now⟩
  subst c3
  rw [if_pos rfl] at H
  replace H := Option.bind_eq_some_iff.mp H
  obtain ⟨t158, A40, H⟩ := H
  (try dsimp only at H)
  have A4 := Aside0.mk A40
  clear A40
  by_cases c5 : (l0_3.length : Int) = t158
  rotate_left
  ·rw [if_neg c5] at H
   have c5b0 : ((l0_3.length : Int) == t158) = false := beq_eq_false_iff_ne.mpr c5
   have c5b1 : ((l0_3.length : Int) != t158) = true := bne_iff_ne.mpr c5
   obtain rfl := Option.some.inj H
   go_enter Tryd.func31, Tryd.ntmps31
   try go_wp2_with (first | ((with_reducible refine gate_dst (N := 1) rfl ?_); (try (refine gate_guard (by rfl) ?_; dsimp only)); refine boxM 1 #[.int .i64 a0_0, .int .i64 a0_1, .int .i64 a0_2, .slice A0_3 l0_3.length c0_3] 42 ?_; intro gb156 hg w11 BK156 hb; replace HB := box_at w hb hg; obtain ⟨HB, GW156, GE156⟩ := HB; clear hb hg))
   replace BK156 := Aside0.mk (blk_drew BK156.out)
   replace HB := Aside0.mk (below_drew1 HB.out)
   refine start_ (n := 18) (S := fun w' => w'.cell? ⟨gb156, 0, none⟩ = some (.int .i64 a0_0) ∧ w'.cell? ⟨gb156, 1, none⟩ = some (.int .i64 a0_1) ∧ w'.cell? ⟨gb156, 2, none⟩ = some (.int .i64 a0_2) ∧ w'.cell? ⟨gb156, 3, none⟩ = some (.slice A0_3 l0_3.length c0_3)) (ds := []) #[O, O, O, O, O, O, O, O, O, O, O, O, O, O, O, O, O, O] (by kernel_rfl) rfl rfl ⟨bc BK156 0, bc BK156 1, bc BK156 2, bc BK156 3⟩ (fun hHeld => ?_); refine with_tabW impl_TensorOk.tab1 impl_TensorOk.bits1 (fun HT_ HW_ => ?_)
   generalize w11.drew = w12 at BK156 HB hHeld ⊢
   refine stepP 0 (some 3) (tk 18 1) (any_of HT_.out (by kernel_rfl)) ?_
   refine stepT 1 (some 4) (tk 18 3) (take_ofW HT_.out HW_.out (by kernel_rfl)) hHeld ?_
   refine one_ (i := 2) (N := some 5) #[I, I, I, O, O, O, O, O, O, O, O, O, O, O, O, O, O, O] rfl rfl (one_of HT_.out (by kernel_rfl)) (by decide) (fun K hK => ?_)
   refine goes_ Tryd.func40 (by kernel_rfl) rfl #[.agg #[.int .i64 a0_0, .int .i64 a0_1, .int .i64 a0_2]] (by rfl) rfl rfl (by (try simp only [List.map_toArray, List.map_cons, List.map_nil]); first | done | rfl | (simp only [List.length_drop, List.length_take]; rfl)) ?_
   with_reducible refine (impl_ShapeOk.calls a0_0 a0_1 a0_2 true _ A2.out).mono ?_
   rintro e w13 ⟨rfl, hb⟩
   refine ⟨_, rfl, ?_⟩
   replace BK156 := blk_on gb156 hb
   replace HB := bel_on w hb
   (try clear hb)
   refine hK.out _ _ ⟨bc BK156 0, bc BK156 1, bc BK156 2, bc BK156 3⟩ (fun hHeld => ?_)
   clear hK K
   refine normP 5 ?_
   refine stepP 3 (some 6) (tk 18 15) (any_of HT_.out (by kernel_rfl)) ?_
   refine stepP 4 (some 7) (tk 18 31) (any_of HT_.out (by kernel_rfl)) ?_
   refine stepP 7 (some 10) (tk 18 159) (any_of HT_.out (by kernel_rfl)) ?_
   refine stepT 5 (some 8) (tk 18 191) (take_ofW HT_.out HW_.out (by kernel_rfl)) hHeld ?_
   refine stepP 6 (some 9) (tk 18 255) (any_of HT_.out (by kernel_rfl)) ?_
   refine stepT 8 (some 11) (tk 18 511) (take_ofW HT_.out HW_.out (by kernel_rfl)) hHeld ?_
   refine one_ (i := 9) (N := some 12) #[I, I, I, I, I, I, I, I, I, I, O, O, O, O, O, O, O, O] rfl rfl (one_of HT_.out (by kernel_rfl)) (by decide) (fun K hK => ?_)
   refine goes_ Tryd.func41 (by kernel_rfl) rfl #[.agg #[.int .i64 a0_0, .int .i64 a0_1, .int .i64 a0_2]] (by rfl) rfl rfl (by (try simp only [List.map_toArray, List.map_cons, List.map_nil]); first | done | rfl | (simp only [List.length_drop, List.length_take]; rfl)) ?_
   with_reducible refine (impl_SizeOf.calls a0_0 a0_1 a0_2 t158 _ A4.out).mono ?_
   rintro e w14 ⟨rfl, hb⟩
   refine ⟨_, rfl, ?_⟩
   replace BK156 := blk_on gb156 hb
   replace HB := bel_on w hb
   (try clear hb)
   refine hK.out _ _ ⟨bc BK156 0, bc BK156 1, bc BK156 2, bc BK156 3⟩ (fun hHeld => ?_)
   clear hK K
   refine normP 12 ?_
   refine stepP 10 (some 13) (tk 18 2047) (any_of HT_.out (by kernel_rfl)) ?_
   refine stepP 11 (some 14) (tk 18 4095) (any_of HT_.out (by kernel_rfl)) ?_
   refine stepP 12 (some 15) (tk 18 8191) (any_of HT_.out (by kernel_rfl)) ?_
   refine stepU 13 (some 16) (tk 18 16383) (any_of HT_.out (by kernel_rfl)) ?_
   refine stepU 14 (some 17) (tk 18 32767) (any_of HT_.out (by kernel_rfl)) ?_
   refine stepU 15 (some 18) (tk 18 65535) (any_of HT_.out (by kernel_rfl)) ?_
   refine stepP 16 (some 19) (tk 18 131071) (any_of HT_.out (by kernel_rfl)) ?_
   refine stepP 17 (some 2) (tk 18 262143) (any_of HT_.out (by kernel_rfl)) ?_
   refine done_ (done_of HT_.out (by kernel_rfl)) ?_
   try go_wp2
   go_ret
   exact ⟨eqN, bel_now⟩
  rw [if_pos c5] at H
  have c5b0 : ((l0_3.length : Int) == t158) = true := beq_iff_eq.mpr c5
  have c5b1 : ((l0_3.length : Int) != t158) = false := bne_eq_false_iff_eq.mpr c5
  clear c5
  replace H := Option.bind_eq_some_iff.mp H
  obtain ⟨t159, A60, H⟩ := H
  (try dsimp only at H)
  have A6 := Aside0.mk A60
  clear A60
  obtain rfl := Option.some.inj H
  go_enter Tryd.func31, Tryd.ntmps31
  try go_wp2_with (first | ((with_reducible refine gate_dst (N := 1) rfl ?_); (try (refine gate_guard (by rfl) ?_; dsimp only)); refine boxM 1 #[.int .i64 a0_0, .int .i64 a0_1, .int .i64 a0_2, .slice A0_3 l0_3.length c0_3] 42 ?_; intro gb156 hg w7 BK156 hb; replace HB := box_at w hb hg; obtain ⟨HB, GW156, GE156⟩ := HB; clear hb hg))
  replace BK156 := Aside0.mk (blk_drew BK156.out)
  replace HB := Aside0.mk (below_drew1 HB.out)
  refine start_ (n := 18) (S := fun w' => w'.cell? ⟨gb156, 0, none⟩ = some (.int .i64 a0_0) ∧ w'.cell? ⟨gb156, 1, none⟩ = some (.int .i64 a0_1) ∧ w'.cell? ⟨gb156, 2, none⟩ = some (.int .i64 a0_2) ∧ w'.cell? ⟨gb156, 3, none⟩ = some (.slice A0_3 l0_3.length c0_3)) (ds := []) #[O, O, O, O, O, O, O, O, O, O, O, O, O, O, O, O, O, O] (by kernel_rfl) rfl rfl ⟨bc BK156 0, bc BK156 1, bc BK156 2, bc BK156 3⟩ (fun hHeld => ?_); refine with_tabW impl_TensorOk.tab1 impl_TensorOk.bits1 (fun HT_ HW_ => ?_)
  generalize w7.drew = w8 at BK156 HB hHeld ⊢
  refine stepP 0 (some 3) (tk 18 1) (any_of HT_.out (by kernel_rfl)) ?_
  refine stepT 1 (some 4) (tk 18 3) (take_ofW HT_.out HW_.out (by kernel_rfl)) hHeld ?_
  refine one_ (i := 2) (N := some 5) #[I, I, I, O, O, O, O, O, O, O, O, O, O, O, O, O, O, O] rfl rfl (one_of HT_.out (by kernel_rfl)) (by decide) (fun K hK => ?_)
  refine goes_ Tryd.func40 (by kernel_rfl) rfl #[.agg #[.int .i64 a0_0, .int .i64 a0_1, .int .i64 a0_2]] (by rfl) rfl rfl (by (try simp only [List.map_toArray, List.map_cons, List.map_nil]); first | done | rfl | (simp only [List.length_drop, List.length_take]; rfl)) ?_
  with_reducible refine (impl_ShapeOk.calls a0_0 a0_1 a0_2 true _ A2.out).mono ?_
  rintro e w9 ⟨rfl, hb⟩
  refine ⟨_, rfl, ?_⟩
  replace BK156 := blk_on gb156 hb
  replace HB := bel_on w hb
  (try clear hb)
  refine hK.out _ _ ⟨bc BK156 0, bc BK156 1, bc BK156 2, bc BK156 3⟩ (fun hHeld => ?_)
  clear hK K
  refine normP 5 ?_
  refine stepP 3 (some 6) (tk 18 15) (any_of HT_.out (by kernel_rfl)) ?_
  refine stepP 4 (some 7) (tk 18 31) (any_of HT_.out (by kernel_rfl)) ?_
  refine stepP 7 (some 10) (tk 18 159) (any_of HT_.out (by kernel_rfl)) ?_
  refine stepT 5 (some 8) (tk 18 191) (take_ofW HT_.out HW_.out (by kernel_rfl)) hHeld ?_
  refine stepP 6 (some 9) (tk 18 255) (any_of HT_.out (by kernel_rfl)) ?_
  refine stepT 8 (some 11) (tk 18 511) (take_ofW HT_.out HW_.out (by kernel_rfl)) hHeld ?_
  refine one_ (i := 9) (N := some 12) #[I, I, I, I, I, I, I, I, I, I, O, O, O, O, O, O, O, O] rfl rfl (one_of HT_.out (by kernel_rfl)) (by decide) (fun K hK => ?_)
  refine goes_ Tryd.func41 (by kernel_rfl) rfl #[.agg #[.int .i64 a0_0, .int .i64 a0_1, .int .i64 a0_2]] (by rfl) rfl rfl (by (try simp only [List.map_toArray, List.map_cons, List.map_nil]); first | done | rfl | (simp only [List.length_drop, List.length_take]; rfl)) ?_
  with_reducible refine (impl_SizeOf.calls a0_0 a0_1 a0_2 t158 _ A4.out).mono ?_
  rintro e w10 ⟨rfl, hb⟩
  refine ⟨_, rfl, ?_⟩
  replace BK156 := blk_on gb156 hb
  replace HB := bel_on w hb
  (try clear hb)
  refine hK.out _ _ ⟨bc BK156 0, bc BK156 1, bc BK156 2, bc BK156 3⟩ (fun hHeld => ?_)
  clear hK K
  refine normP 12 ?_
  refine stepP 10 (some 13) (tk 18 2047) (any_of HT_.out (by kernel_rfl)) ?_
  refine stepP 11 (some 14) (tk 18 4095) (any_of HT_.out (by kernel_rfl)) ?_
  refine stepP 12 (some 15) (tk 18 8191) (any_of HT_.out (by kernel_rfl)) ?_
  refine stepP 13 (some 16) (tk 18 16383) (any_of HT_.out (by kernel_rfl)) ?_
  refine stepT 14 (some 17) (tk 18 32767) (take_ofW HT_.out HW_.out (by kernel_rfl)) hHeld ?_
  refine one_ (i := 15) (N := some 18) #[I, I, I, I, I, I, I, I, I, I, I, I, I, I, I, I, O, O] rfl rfl (one_of HT_.out (by kernel_rfl)) (by decide) (fun K hK => ?_)
  refine goes_ Tryd.func42 (by kernel_rfl) rfl #[.slice A0_3 l0_3.length c0_3] (by rfl) rfl rfl (by (try simp only [List.map_toArray, List.map_cons, List.map_nil]); first | done | rfl | (simp only [List.length_drop, List.length_take]; rfl)) ?_
  with_reducible refine (impl_areItems.calls k _ _ l0_3 t159 _ ?side1 ?side2 A6.out).mono ?_
  (case side1 => exact C_now HR0_3.out)
  (case side2 => exact HC0_3.out)
  rintro e w' ⟨rfl, ⟨nd, rfl⟩⟩
  refine ⟨_, rfl, ?_⟩
  refine hK.out _ _ ⟨bc BK156 0, bc BK156 1, bc BK156 2, bc BK156 3⟩ (fun hHeld => ?_)
  clear hK K
  refine normP 18 ?_
  refine stepP 16 (some 19) (tk 18 131071) (any_of HT_.out (by kernel_rfl)) ?_
  refine stepP 17 (some 2) (tk 18 262143) (any_of HT_.out (by kernel_rfl)) ?_
  refine done_ (done_of HT_.out (by kernel_rfl)) ?_
  try go_wp2
  go_ret
  exact ⟨eqN, bel_now⟩

/-! ### strconv_Itoa: function 20 (by hand) -/
abbrev TabT (w : World) : Prop := Lib.TabIs Tryd.prog w "internal/strconv.uint64pow10" .u64 Lib.pow10Tab
theorem tab_now {w W : World} (h : Aside0 (TabT w)) (hb : Below w.heap.size w W := by exact bel_now) : TabT W := Joins.tab_stays (g := 0) (by kernel_rfl) h.out hb (Nat.le_refl _)
def strconv_Itoa.f (a0 : Int) : Option (ByteArray) := if -9223372036854775808 ≤ a0 then (if a0 ≤ 9223372036854775807 then (some ⟨(Lib.itoa a0).toArray⟩) else (none)) else (none)
theorem strconv_Itoa.calls (a0 : Int) (r : ByteArray) (w : World) (htab : TabT w) (h : strconv_Itoa.f a0 = some r) :
   Calls Tryd.prog 20 #[.int .i64 a0] w fun e w' => e = .returned (.string r) ∧ Below w.heap.size w w' := by
  unfold strconv_Itoa.f at h
  by_cases h0 : -9223372036854775808 ≤ a0
  rotate_left
  ·rw [if_neg h0] at h
   cases h
  rw [if_pos h0] at h
  by_cases h1 : a0 ≤ 9223372036854775807
  rotate_left
  ·rw [if_neg h1] at h
   cases h
  rw [if_pos h1] at h
  obtain rfl := Option.some.inj h
  exact (Tryd.strconv_Itoa a0 h0 h1 w htab).mono fun e w' ⟨he, k, os, hw⟩ => ⟨he, by rw [hw]; exact Lib.below_grow _ _ (Nat.le_refl _) k os⟩

/-! ### impl_Shape_sides: function 32 -/
def impl_Shape_sides.f (a0_0 : Int) (a0_1 : Int) (a0_2 : Int) : Option (ByteArray) := (strconv_Itoa.f a0_0).bind fun t161 => (if t161.size + 1 ≤ 9223372036854775807 then ((strconv_Itoa.f a0_1).bind fun t162 => (if (t161 ++ (⟨#[120]⟩ : ByteArray)).size + t162.size ≤ 9223372036854775807 then (if ((t161 ++ (⟨#[120]⟩ : ByteArray)) ++ t162).size + 1 ≤ 9223372036854775807 then ((strconv_Itoa.f a0_2).bind fun t163 => (if (((t161 ++ (⟨#[120]⟩ : ByteArray)) ++ t162) ++ (⟨#[120]⟩ : ByteArray)).size + t163.size ≤ 9223372036854775807 then (some ((((t161 ++ (⟨#[120]⟩ : ByteArray)) ++ t162) ++ (⟨#[120]⟩ : ByteArray)) ++ t163)) else (none))) else (none)) else (none))) else (none))
def impl_Shape_sides.T1 : Bool × List (List Nat × List Nat) := (true, [([], []), ([0], [0]), ([1], [1]), ([2], [2]), ([], []), ([4], [4]), ([5, 2], [5]), ([3, 6], [3, 6]), ([7], [7]), ([], []), ([9], [9]), ([10, 6], [10]), ([8, 11], [8, 11]), ([12, 11, 0, 1, 2, 3, 4, 5, 6, 7, 8, 9, 10, 11, 12], [12])])
def impl_Shape_sides.B1 : List Nat := [0, 1, 3, 7, 0, 16, 55, 127, 255, 0, 512, 1655, 4095, 8191]
theorem impl_Shape_sides.tab1 : rtab .any (opsOf Tryd.f32 1) = impl_Shape_sides.T1 := by kernel_rfl
theorem impl_Shape_sides.bits1 : waitsOk impl_Shape_sides.T1.2 impl_Shape_sides.B1 = true := by kernel_rfl
set_option maxHeartbeats 8000000 in
set_option maxRecDepth 100000 in
theorem impl_Shape_sides.calls (a0_0 : Int) (a0_1 : Int) (a0_2 : Int) (r : ByteArray) (w : World) (htab : TabT w) (h : impl_Shape_sides.f a0_0 a0_1 a0_2 = some r) :
   Calls Tryd.prog 32 #[.agg #[.int .i64 a0_0, .int .i64 a0_1, .int .i64 a0_2]] w fun e w' => e = .returned (.string r) ∧ Below w.heap.size w w' := by
  have HTB := Aside0.mk htab
  clear htab
  have hu40 := Tryd.underlying40
  have HB := Aside0.mk (Below.refl w.heap.size w)
  have H : ((strconv_Itoa.f a0_0).bind fun t161 => (if t161.size + 1 ≤ 9223372036854775807 then ((strconv_Itoa.f a0_1).bind fun t162 => (if (t161 ++ (⟨#[120]⟩ : ByteArray)).size + t162.size ≤ 9223372036854775807 then (if ((t161 ++ (⟨#[120]⟩ : ByteArray)) ++ t162).size + 1 ≤ 9223372036854775807 then ((strconv_Itoa.f a0_2).bind fun t163 => (if (((t161 ++ (⟨#[120]⟩ : ByteArray)) ++ t162) ++ (⟨#[120]⟩ : ByteArray)).size + t163.size ≤ 9223372036854775807 then (some ((((t161 ++ (⟨#[120]⟩ : ByteArray)) ++ t162) ++ (⟨#[120]⟩ : ByteArray)) ++ t163)) else (none))) else (none)) else (none))) else (none))) = some r := h
  clear h
  replace H := Option.bind_eq_some_iff.mp H
  obtain ⟨t161, A20, H⟩ := H
  (try dsimp only at H)
  have A2 := Aside0.mk A20
  clear A20
  by_cases c3 : t161.size + 1 ≤ 9223372036854775807
  rotate_left
  ·rw [if_neg c3] at H
   exact absurd H (by simp)
  rw [if_pos c3] at H
  have c3b0 := eq_true c3
  have c3b1 : decide (t161.size + 1 ≤ 9223372036854775807) = true := decide_eq_true c3
  try have c3b2 : (9223372036854775807 < t161.size + 1) = False := eq_false (Nat.not_lt.2 c3)
  replace H := Option.bind_eq_some_iff.mp H
  obtain ⟨t162, A40, H⟩ := H
  (try dsimp only at H)
  have A4 := Aside0.mk A40
  clear A40
  by_cases c5 : (t161 ++ (⟨#[120]⟩ : ByteArray)).size + t162.size ≤ 9223372036854775807
  rotate_left
  ·rw [if_neg c5] at H
   exact absurd H (by simp)
  rw [if_pos c5] at H
  have c5b0 := eq_true c5
  have c5b1 : decide ((t161 ++ (⟨#[120]⟩ : ByteArray)).size + t162.size ≤ 9223372036854775807) = true := decide_eq_true c5
  try have c5b2 : (9223372036854775807 < (t161 ++ (⟨#[120]⟩ : ByteArray)).size + t162.size) = False := eq_false (Nat.not_lt.2 c5)
  try have c5b3 : (9223372036854775807 < t161.size + 1 + t162.size) = False := eq_false (by have h_ := c5; simp only [ByteArray.size_append, show (⟨#[120]⟩ : ByteArray).size = 1 from rfl] at h_; omega)
  by_cases c6 : ((t161 ++ (⟨#[120]⟩ : ByteArray)) ++ t162).size + 1 ≤ 9223372036854775807
  rotate_left
  ·rw [if_neg c6] at H
   exact absurd H (by simp)
  rw [if_pos c6] at H
  have c6b0 := eq_true c6
  have c6b1 : decide (((t161 ++ (⟨#[120]⟩ : ByteArray)) ++ t162).size + 1 ≤ 9223372036854775807) = true := decide_eq_true c6
  try have c6b2 : (9223372036854775807 < ((t161 ++ (⟨#[120]⟩ : ByteArray)) ++ t162).size + 1) = False := eq_false (Nat.not_lt.2 c6)
  try have c6b3 : (9223372036854775807 < t161.size + 1 + t162.size + 1) = False := eq_false (by have h_ := c6; simp only [ByteArray.size_append, show (⟨#[120]⟩ : ByteArray).size = 1 from rfl] at h_; omega)
  replace H := Option.bind_eq_some_iff.mp H
  obtain ⟨t163, A70, H⟩ := H
  (try dsimp only at H)
  have A7 := Aside0.mk A70
  clear A70
  by_cases c8 : (((t161 ++ (⟨#[120]⟩ : ByteArray)) ++ t162) ++ (⟨#[120]⟩ : ByteArray)).size + t163.size ≤ 9223372036854775807
  rotate_left
  ·rw [if_neg c8] at H
   exact absurd H (by simp)
  rw [if_pos c8] at H
  have c8b0 := eq_true c8
  have c8b1 : decide ((((t161 ++ (⟨#[120]⟩ : ByteArray)) ++ t162) ++ (⟨#[120]⟩ : ByteArray)).size + t163.size ≤ 9223372036854775807) = true := decide_eq_true c8
  try have c8b2 : (9223372036854775807 < (((t161 ++ (⟨#[120]⟩ : ByteArray)) ++ t162) ++ (⟨#[120]⟩ : ByteArray)).size + t163.size) = False := eq_false (Nat.not_lt.2 c8)
  try have c8b3 : (9223372036854775807 < t161.size + 1 + t162.size + 1 + t163.size) = False := eq_false (by have h_ := c8; simp only [ByteArray.size_append, show (⟨#[120]⟩ : ByteArray).size = 1 from rfl] at h_; omega)
  obtain rfl := Option.some.inj H
  go_enter Tryd.func32, Tryd.ntmps32
  try go_wp2_with (first | ((with_reducible refine gate_dst (N := 1) rfl ?_); refine boxM 1 #[.int .i64 a0_0, .int .i64 a0_1, .int .i64 a0_2] 40 ?_; intro gb160 hg w9 BK160 hb; replace HB := box_at w hb hg; obtain ⟨HB, GW160, GE160⟩ := HB; clear hb hg))
  replace BK160 := Aside0.mk (blk_drew BK160.out)
  replace HB := Aside0.mk (below_drew1 HB.out)
  refine start_ (n := 14) (S := fun w' => w'.cell? ⟨gb160, 0, none⟩ = some (.int .i64 a0_0) ∧ w'.cell? ⟨gb160, 1, none⟩ = some (.int .i64 a0_1) ∧ w'.cell? ⟨gb160, 2, none⟩ = some (.int .i64 a0_2)) (ds := []) #[O, O, O, O, O, O, O, O, O, O, O, O, O, O] (by kernel_rfl) rfl rfl ⟨bc BK160 0, bc BK160 1, bc BK160 2⟩ (fun hHeld => ?_); refine with_tabW impl_Shape_sides.tab1 impl_Shape_sides.bits1 (fun HT_ HW_ => ?_)
  generalize w9.drew = w10 at BK160 HB hHeld ⊢
  refine stepP 0 (some 3) (tk 14 1) (any_of HT_.out (by kernel_rfl)) ?_
  refine stepP 4 (some 7) (tk 14 17) (any_of HT_.out (by kernel_rfl)) ?_
  refine stepP 9 (some 12) (tk 14 529) (any_of HT_.out (by kernel_rfl)) ?_
  refine stepT 1 (some 4) (tk 14 531) (take_ofW HT_.out HW_.out (by kernel_rfl)) hHeld ?_
  refine stepT 5 (some 8) (tk 14 563) (take_ofW HT_.out HW_.out (by kernel_rfl)) hHeld ?_
  refine stepT 10 (some 13) (tk 14 1587) (take_ofW HT_.out HW_.out (by kernel_rfl)) hHeld ?_
  refine one_ (i := 2) (N := some 5) #[I, I, I, O, I, I, O, O, O, I, I, O, O, O] rfl rfl (one_of HT_.out (by kernel_rfl)) (by decide) (fun K hK => ?_)
  refine goes_ Tryd.func20 (by kernel_rfl) rfl #[.int .i64 a0_0] (by rfl) rfl rfl (by (try simp only [List.map_toArray, List.map_cons, List.map_nil]); first | done | rfl | (simp only [List.length_drop, List.length_take]; rfl)) ?_
  with_reducible refine (strconv_Itoa.calls (htab := tab_now HTB) a0_0 t161 _ A2.out).mono ?_
  rintro e w11 ⟨rfl, hb⟩
  refine ⟨_, rfl, ?_⟩
  replace BK160 := blk_on gb160 hb
  replace HB := bel_on w hb
  (try clear hb)
  refine hK.out _ _ ⟨bc BK160 0, bc BK160 1, bc BK160 2⟩ (fun hHeld => ?_)
  clear hK K
  refine normP 5 ?_
  refine stepP 3 (some 6) (tk 14 1599) (any_of HT_.out (by kernel_rfl)) ?_
  refine one_ (i := 6) (N := some 9) #[I, I, I, I, I, I, I, O, O, I, I, O, O, O] rfl rfl (one_of HT_.out (by kernel_rfl)) (by decide) (fun K hK => ?_)
  refine goes_ Tryd.func20 (by kernel_rfl) rfl #[.int .i64 a0_1] (by rfl) rfl rfl (by (try simp only [List.map_toArray, List.map_cons, List.map_nil]); first | done | rfl | (simp only [List.length_drop, List.length_take]; rfl)) ?_
  with_reducible refine (strconv_Itoa.calls (htab := tab_now HTB) a0_1 t162 _ A4.out).mono ?_
  rintro e w12 ⟨rfl, hb⟩
  refine ⟨_, rfl, ?_⟩
  replace BK160 := blk_on gb160 hb
  replace HB := bel_on w hb
  (try clear hb)
  refine hK.out _ _ ⟨bc BK160 0, bc BK160 1, bc BK160 2⟩ (fun hHeld => ?_)
  clear hK K
  refine normP 9 ?_
  refine stepP 7 (some 10) (tk 14 1791) (any_of HT_.out (by kernel_rfl)) ?_
  refine stepP 8 (some 11) (tk 14 2047) (any_of HT_.out (by kernel_rfl)) ?_
  refine one_ (i := 11) (N := some 14) #[I, I, I, I, I, I, I, I, I, I, I, I, O, O] rfl rfl (one_of HT_.out (by kernel_rfl)) (by decide) (fun K hK => ?_)
  refine goes_ Tryd.func20 (by kernel_rfl) rfl #[.int .i64 a0_2] (by rfl) rfl rfl (by (try simp only [List.map_toArray, List.map_cons, List.map_nil]); first | done | rfl | (simp only [List.length_drop, List.length_take]; rfl)) ?_
  with_reducible refine (strconv_Itoa.calls (htab := tab_now HTB) a0_2 t163 _ A7.out).mono ?_
  rintro e w13 ⟨rfl, hb⟩
  refine ⟨_, rfl, ?_⟩
  replace BK160 := blk_on gb160 hb
  replace HB := bel_on w hb
  (try clear hb)
  refine hK.out _ _ ⟨bc BK160 0, bc BK160 1, bc BK160 2⟩ (fun hHeld => ?_)
  clear hK K
  refine normP 14 ?_
  refine stepP 12 (some 15) (tk 14 8191) (any_of HT_.out (by kernel_rfl)) ?_
  refine stepP 13 (some 2) (tk 14 16383) (any_of HT_.out (by kernel_rfl)) ?_
  refine done_ (done_of HT_.out (by kernel_rfl)) ?_
  try go_wp2
  go_ret
  exact ⟨eqN, bel_now⟩

end Go.Proofs.YtjmejobelkllmaaDoor.PFnExactTensorText
