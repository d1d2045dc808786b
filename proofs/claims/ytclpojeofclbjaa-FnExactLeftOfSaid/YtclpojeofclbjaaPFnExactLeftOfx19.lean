-- Printed by the session's own program (wip/myprint.py) for this claim out of the translation. Not trusted: Lean checks it.
import Derived.Test.YtclpojeofclbjaaPFnExactLeftOfx0
import Derived.Test.YtclpojeofclbjaaPFnExactLeftOfx1
import Derived.Test.YtclpojeofclbjaaPFnExactLeftOfx12
import Derived.Test.YtclpojeofclbjaaPFnExactLeftOfx15
import Derived.Test.YtclpojeofclbjaaPFnExactLeftOfx16
import Derived.Test.YtclpojeofclbjaaPFnExactLeftOfx17
import Derived.Test.YtclpojeofclbjaaPFnExactLeftOfx18
namespace Go.Proofs.Ytclpojeofclbjaa.PFnExactLeftOf
open Go.RowKit Go.Proofs.YtclpojeofclbjaaW.PrintWords Go.Proofs.YtclpojeofclbjaaW.PrintLast Go.Proofs.YtclpojeofclbjaaW.PrintMore
attribute [local go_sem] max2_int min2_int max_two min_two max_three min_three max_four min_four   -- for this text's walks alone
set_option linter.unusedVariables false
set_option linter.unusedSimpArgs false

attribute [local go_sem high] eqA31
/-! ### impl_JobOk: function 57 -/
def impl_JobOk.f (k : Nat) (a0_0 : Int) (a0_1 : Int) (a0_2 : Int) (l0_3 : List (S37)) (a0_4 : Int) (a0_5 : Int) (a0_6 : Int) (a0_7 : Int) (l0_8 : List Int) (a0_9 : Int) : Option (Bool) := (impl_ModelOk.f k a0_0 a0_1 a0_2 l0_3).bind fun t397 => (if t397 = true then ((impl_in.f a0_4 0 (l0_3.length : Int)).bind fun t398 => (if t398 = true then ((impl_TensorOk.f k a0_5 a0_6 a0_7 l0_8).bind fun t399 => (if t399 = true then ((impl_ShapesOf.f k a0_0 a0_1 a0_2 l0_3).bind fun t400 => (if 0 ≤ a0_4 then (if a0_4 < (t400.length : Int) then (if (a0_5 == ((rd_T31 t400 a0_4).f0) && (a0_6 == ((rd_T31 t400 a0_4).f1) && (a0_7 == ((rd_T31 t400 a0_4).f2)))) = true then ((impl_CostsOf.f k a0_0 a0_1 a0_2 l0_3).bind fun t404 => (if a0_4 ≤ (t404.length : Int) then ((impl_sum.f k (t404.take (a0_4 : Int).toNat)).bind fun t411 => (some (a0_9 == t411))) else (none))) else (some false)) else (none)) else (none))) else (some false))) else (some false))) else (some false))
def impl_JobOk.T1 : Bool × List (List Nat × List Nat) := (true, [([], []), ([0], [0]), ([1], [1]), ([2, 2], [2]), ([3], [3]), ([4, 3], [3, 4]), ([3], [3]), ([6, 3], [3, 6]), ([7, 3], [3, 7]), ([8, 3], [3, 8]), ([5, 9, 3, 3], [3, 5, 9]), ([3, 10], [3, 10]), ([11, 10], [11]), ([12], [12]), ([13, 12], [12, 13]), ([14, 12, 12], [12, 14]), ([12, 15], [12, 15]), ([16, 15], [16]), ([17], [17]), ([18, 17], [17, 18]), ([19, 17], [17, 19]), ([17], [17]), ([21, 17], [17, 21]), ([22, 17, 17], [17, 22]), ([17], [17]), ([24, 17], [17, 24]), ([23, 25, 17], [17, 23, 25]), ([26, 17], [17, 26]), ([20, 27, 17], [17, 20, 27]), ([17, 28], [17, 28]), ([29, 23], [29]), ([30], [30]), ([31, 30], [30, 31]), ([30], [30]), ([33, 30], [30, 33]), ([34, 30, 30], [30, 34]), ([30], [30]), ([36, 30], [30, 36]), ([35, 37, 30], [30, 35, 37]), ([38, 35, 30], [30, 38]), ([32, 39, 30], [30, 32, 39]), ([30, 40], [30, 40]), ([41, 39, 0, 1, 2, 3, 4, 5, 6, 7, 8, 9, 10, 11, 12, 13, 14, 15, 16, 17, 18, 19, 20, 21, 22, 23, 24, 25, 26, 27, 28, 29, 30, 31, 32, 33, 34, 35, 36, 37, 38, 39, 40, 41], [41])])
def impl_JobOk.B1 : List Nat := [0, 1, 3, 7, 15, 31, 15, 79, 207, 463, 1023, 2047, 4095, 8191, 16383, 32767, 65535, 131071, 262143, 524287, 1048575, 262143, 2359295, 6553599, 262143, 17039359, 65273855, 132382719, 268435455, 536870911, 1073741823, 2147483647, 4294967295, 2147483647, 10737418239, 27917287423, 2147483647, 70866960383, 268435455999, 543313362943, 1099511627775, 2199023255551, 4398046511103]
theorem impl_JobOk.tab1 : rtab .any (opsOf Try.f57 1) = impl_JobOk.T1 := by kernel_rfl
theorem impl_JobOk.bits1 : waitsOk impl_JobOk.T1.2 impl_JobOk.B1 = true := by kernel_rfl
set_option maxHeartbeats 8000000 in
set_option maxRecDepth 100000 in
theorem impl_JobOk.calls (k : Nat) (a0_0 : Int) (a0_1 : Int) (a0_2 : Int) (A0_3 : Option Addr) (c0_3 : Nat) (l0_3 : List (S37)) (a0_4 : Int) (a0_5 : Int) (a0_6 : Int) (a0_7 : Int) (A0_8 : Option Addr) (c0_8 : Nat) (l0_8 : List Int) (a0_9 : Int) (r : Bool) (w : World) (hr0_3 : Kd.C k37 w A0_3 l0_3.length l0_3) (hc0_3 : l0_3.length ≤ c0_3) (hr0_8 : Kd.C (Kd.int .i64) w A0_8 l0_8.length l0_8) (hc0_8 : l0_8.length ≤ c0_8) (h : impl_JobOk.f k a0_0 a0_1 a0_2 l0_3 a0_4 a0_5 a0_6 a0_7 l0_8 a0_9 = some r) :
   Calls Try.prog 57 #[.agg #[.int .i64 a0_0, .int .i64 a0_1, .int .i64 a0_2, .slice A0_3 l0_3.length c0_3, .int .i64 a0_4, .int .i64 a0_5, .int .i64 a0_6, .int .i64 a0_7, .slice A0_8 l0_8.length c0_8, .int .i64 a0_9]] w fun e w' => e = .returned (.bool r) ∧ Below w.heap.size w w' := by
  have hu55 := Try.underlying55
  have hu53 := Try.underlying53
  have hu33 := Try.underlying33
  have hu31 := Try.underlying31
  have HR0_3 := Aside0.mk hr0_3
  have HC0_3 := Aside0.mk hc0_3
  clear hr0_3 hc0_3
  have HR0_8 := Aside0.mk hr0_8
  have HC0_8 := Aside0.mk hc0_8
  clear hr0_8 hc0_8
  have HB := Aside0.mk (Below.refl w.heap.size w)
  have H : ((impl_ModelOk.f k a0_0 a0_1 a0_2 l0_3).bind fun t397 => (if t397 = true then ((impl_in.f a0_4 0 (l0_3.length : Int)).bind fun t398 => (if t398 = true then ((impl_TensorOk.f k a0_5 a0_6 a0_7 l0_8).bind fun t399 => (if t399 = true then ((impl_ShapesOf.f k a0_0 a0_1 a0_2 l0_3).bind fun t400 => (if 0 ≤ a0_4 then (if a0_4 < (t400.length : Int) then (if (a0_5 == ((rd_T31 t400 a0_4).f0) && (a0_6 == ((rd_T31 t400 a0_4).f1) && (a0_7 == ((rd_T31 t400 a0_4).f2)))) = true then ((impl_CostsOf.f k a0_0 a0_1 a0_2 l0_3).bind fun t404 => (if a0_4 ≤ (t404.length : Int) then ((impl_sum.f k (t404.take (a0_4 : Int).toNat)).bind fun t411 => (some (a0_9 == t411))) else (none))) else (some false)) else (none)) else (none))) else (some false))) else (some false))) else (some false))) = some r := h
  clear h
  replace H := Option.bind_eq_some_iff.mp H
  obtain ⟨t397, A20, H⟩ := H
  (try dsimp only at H)
  have A2 := Aside0.mk A20
  clear A20
  by_cases c3 : t397 = true
  rotate_left
  ·replace c3 := Bool.eq_false_iff.mpr c3
   subst c3
   rw [if_neg (show ¬ (false = true) by decide)] at H
   obtain rfl := Option.some.inj H
   go_enter Try.func57, Try.ntmps57
   try go_wp2_with (first | ((with_reducible refine gate_dst (N := 1) rfl ?_); (try (refine gate_guard (by rfl) ?_; dsimp only)); refine boxM 1 #[.int .i64 a0_0, .int .i64 a0_1, .int .i64 a0_2, .slice A0_3 l0_3.length c0_3, .int .i64 a0_4, .int .i64 a0_5, .int .i64 a0_6, .int .i64 a0_7, .slice A0_8 l0_8.length c0_8, .int .i64 a0_9] 55 ?_; intro gb396 hg w38 BK396 hb; replace HB := box_at w hb hg; obtain ⟨HB, GW396, GE396⟩ := HB; clear hb hg))
   replace BK396 := Aside0.mk (blk_drew BK396.out)
   replace HB := Aside0.mk (below_drew1 HB.out)
   refine start_ (n := 43) (S := fun w' => w'.cell? ⟨gb396, 0, none⟩ = some (.int .i64 a0_0) ∧ w'.cell? ⟨gb396, 1, none⟩ = some (.int .i64 a0_1) ∧ w'.cell? ⟨gb396, 2, none⟩ = some (.int .i64 a0_2) ∧ w'.cell? ⟨gb396, 3, none⟩ = some (.slice A0_3 l0_3.length c0_3) ∧ w'.cell? ⟨gb396, 4, none⟩ = some (.int .i64 a0_4) ∧ w'.cell? ⟨gb396, 5, none⟩ = some (.int .i64 a0_5) ∧ w'.cell? ⟨gb396, 6, none⟩ = some (.int .i64 a0_6) ∧ w'.cell? ⟨gb396, 7, none⟩ = some (.int .i64 a0_7) ∧ w'.cell? ⟨gb396, 8, none⟩ = some (.slice A0_8 l0_8.length c0_8) ∧ w'.cell? ⟨gb396, 9, none⟩ = some (.int .i64 a0_9)) (ds := []) #[O, O, O, O, O, O, O, O, O, O, O, O, O, O, O, O, O, O, O, O, O, O, O, O, O, O, O, O, O, O, O, O, O, O, O, O, O, O, O, O, O, O, O] (by kernel_rfl) rfl rfl ⟨bc BK396 0, bc BK396 1, bc BK396 2, bc BK396 3, bc BK396 4, bc BK396 5, bc BK396 6, bc BK396 7, bc BK396 8, bc BK396 9⟩ (fun hHeld => ?_); refine with_tabW impl_JobOk.tab1 impl_JobOk.bits1 (fun HT_ HW_ => ?_)
   generalize w38.drew = w39 at BK396 HB hHeld ⊢
   refine stepP 0 (some 3) (tk 43 1) (any_of HT_.out (by kernel_rfl)) ?_
   refine stepT 1 (some 4) (tk 43 3) (take_ofW HT_.out HW_.out (by kernel_rfl)) hHeld ?_
   refine one_ (i := 2) (N := some 5) #[I, I, I, O, O, O, O, O, O, O, O, O, O, O, O, O, O, O, O, O, O, O, O, O, O, O, O, O, O, O, O, O, O, O, O, O, O, O, O, O, O, O, O] rfl rfl (one_of HT_.out (by kernel_rfl)) (by decide) (fun K hK => ?_)
   refine goes_ Try.func87 (by kernel_rfl) rfl #[.agg #[.int .i64 a0_0, .int .i64 a0_1, .int .i64 a0_2, .slice A0_3 l0_3.length c0_3]] (by rfl) rfl rfl (by (try simp only [List.map_toArray, List.map_cons, List.map_nil]); first | done | rfl | (simp only [List.length_drop, List.length_take]; rfl)) ?_
   with_reducible refine (impl_ModelOk.calls k a0_0 a0_1 a0_2 _ _ l0_3 false _ ?side1 ?side2 A2.out).mono ?_
   (case side1 => exact C_now HR0_3.out)
   (case side2 => exact HC0_3.out)
   rintro e w40 ⟨rfl, hb⟩
   refine ⟨_, rfl, ?_⟩
   replace BK396 := blk_on gb396 hb
   replace HB := bel_on w hb
   (try clear hb)
   refine hK.out _ _ ⟨bc BK396 0, bc BK396 1, bc BK396 2, bc BK396 3, bc BK396 4, bc BK396 5, bc BK396 6, bc BK396 7, bc BK396 8, bc BK396 9⟩ (fun hHeld => ?_)
   clear hK K
   refine normP 5 ?_
   refine stepP 3 (some 6) (tk 43 15) (any_of HT_.out (by kernel_rfl)) ?_
   refine stepU 4 (some 7) (tk 43 31) (any_of HT_.out (by kernel_rfl)) ?_
   refine stepU 5 (some 8) (tk 43 63) (any_of HT_.out (by kernel_rfl)) ?_
   refine stepU 6 (some 9) (tk 43 127) (any_of HT_.out (by kernel_rfl)) ?_
   refine stepU 7 (some 10) (tk 43 255) (any_of HT_.out (by kernel_rfl)) ?_
   refine stepU 8 (some 11) (tk 43 511) (any_of HT_.out (by kernel_rfl)) ?_
   refine stepU 9 (some 12) (tk 43 1023) (any_of HT_.out (by kernel_rfl)) ?_
   refine stepU 10 (some 13) (tk 43 2047) (any_of HT_.out (by kernel_rfl)) ?_
   refine stepP 11 (some 14) (tk 43 4095) (any_of HT_.out (by kernel_rfl)) ?_
   refine stepP 12 (some 15) (tk 43 8191) (any_of HT_.out (by kernel_rfl)) ?_
   refine stepU 13 (some 16) (tk 43 16383) (any_of HT_.out (by kernel_rfl)) ?_
   refine stepU 14 (some 17) (tk 43 32767) (any_of HT_.out (by kernel_rfl)) ?_
   refine stepU 15 (some 18) (tk 43 65535) (any_of HT_.out (by kernel_rfl)) ?_
   refine stepP 16 (some 19) (tk 43 131071) (any_of HT_.out (by kernel_rfl)) ?_
   refine stepP 17 (some 20) (tk 43 262143) (any_of HT_.out (by kernel_rfl)) ?_
   refine stepU 18 (some 21) (tk 43 524287) (any_of HT_.out (by kernel_rfl)) ?_
   refine stepU 19 (some 22) (tk 43 1048575) (any_of HT_.out (by kernel_rfl)) ?_
   refine stepU 20 (some 23) (tk 43 2097151) (any_of HT_.out (by kernel_rfl)) ?_
   refine stepU 21 (some 24) (tk 43 4194303) (any_of HT_.out (by kernel_rfl)) ?_
   refine stepU 22 (some 25) (tk 43 8388607) (any_of HT_.out (by kernel_rfl)) ?_
   refine stepU 23 (some 26) (tk 43 16777215) (any_of HT_.out (by kernel_rfl)) ?_
   refine stepU 24 (some 27) (tk 43 33554431) (any_of HT_.out (by kernel_rfl)) ?_
   refine stepU 25 (some 28) (tk 43 67108863) (any_of HT_.out (by kernel_rfl)) ?_
   refine stepU 26 (some 29) (tk 43 134217727) (any_of HT_.out (by kernel_rfl)) ?_
   refine stepU 27 (some 30) (tk 43 268435455) (any_of HT_.out (by kernel_rfl)) ?_
   refine stepU 28 (some 31) (tk 43 536870911) (any_of HT_.out (by kernel_rfl)) ?_
   refine stepP 29 (some 32) (tk 43 1073741823) (any_of HT_.out (by kernel_rfl)) ?_
   refine stepP 30 (some 33) (tk 43 2147483647) (any_of HT_.out (by kernel_rfl)) ?_
   refine stepU 31 (some 34) (tk 43 4294967295) (any_of HT_.out (by kernel_rfl)) ?_
   refine stepU 32 (some 35) (tk 43 8589934591) (any_of HT_.out (by kernel_rfl)) ?_
   refine stepU 33 (some 36) (tk 43 17179869183) (any_of HT_.out (by kernel_rfl)) ?_
   refine stepU 34 (some 37) (tk 43 34359738367) (any_of HT_.out (by kernel_rfl)) ?_
   refine stepU 35 (some 38) (tk 43 68719476735) (any_of HT_.out (by kernel_rfl)) ?_
   refine stepU 36 (some 39) (tk 43 137438953471) (any_of HT_.out (by kernel_rfl)) ?_
   refine stepU 37 (some 40) (tk 43 274877906943) (any_of HT_.out (by kernel_rfl)) ?_
   refine stepU 38 (some 41) (tk 43 549755813887) (any_of HT_.out (by kernel_rfl)) ?_
   refine stepU 39 (some 42) (tk 43 1099511627775) (any_of HT_.out (by kernel_rfl)) ?_
   refine stepU 40 (some 43) (tk 43 2199023255551) (any_of HT_.out (by kernel_rfl)) ?_
   refine stepP 41 (some 44) (tk 43 4398046511103) (any_of HT_.out (by kernel_rfl)) ?_
   refine stepP 42 (some 2) (tk 43 8796093022207) (any_of HT_.out (by kernel_rfl)) ?_
   refine done_ (done_of HT_.out (by kernel_rfl)) ?_
   try go_wp2
   go_ret
   exact ⟨eqN, bel_now⟩
  subst c3
  rw [if_pos rfl] at H
  replace H := Option.bind_eq_some_iff.mp H
  obtain ⟨t398, A40, H⟩ := H
  (try dsimp only at H)
  have A4 := Aside0.mk A40
  clear A40
  by_cases c5 : t398 = true
  rotate_left
  ·replace c5 := Bool.eq_false_iff.mpr c5
   subst c5
   rw [if_neg (show ¬ (false = true) by decide)] at H
   obtain rfl := Option.some.inj H
   go_enter Try.func57, Try.ntmps57
   try go_wp2_with (first | ((with_reducible refine gate_dst (N := 1) rfl ?_); (try (refine gate_guard (by rfl) ?_; dsimp only)); refine boxM 1 #[.int .i64 a0_0, .int .i64 a0_1, .int .i64 a0_2, .slice A0_3 l0_3.length c0_3, .int .i64 a0_4, .int .i64 a0_5, .int .i64 a0_6, .int .i64 a0_7, .slice A0_8 l0_8.length c0_8, .int .i64 a0_9] 55 ?_; intro gb396 hg w35 BK396 hb; replace HB := box_at w hb hg; obtain ⟨HB, GW396, GE396⟩ := HB; clear hb hg))
   replace BK396 := Aside0.mk (blk_drew BK396.out)
   replace HB := Aside0.mk (below_drew1 HB.out)
   refine start_ (n := 43) (S := fun w' => w'.cell? ⟨gb396, 0, none⟩ = some (.int .i64 a0_0) ∧ w'.cell? ⟨gb396, 1, none⟩ = some (.int .i64 a0_1) ∧ w'.cell? ⟨gb396, 2, none⟩ = some (.int .i64 a0_2) ∧ w'.cell? ⟨gb396, 3, none⟩ = some (.slice A0_3 l0_3.length c0_3) ∧ w'.cell? ⟨gb396, 4, none⟩ = some (.int .i64 a0_4) ∧ w'.cell? ⟨gb396, 5, none⟩ = some (.int .i64 a0_5) ∧ w'.cell? ⟨gb396, 6, none⟩ = some (.int .i64 a0_6) ∧ w'.cell? ⟨gb396, 7, none⟩ = some (.int .i64 a0_7) ∧ w'.cell? ⟨gb396, 8, none⟩ = some (.slice A0_8 l0_8.length c0_8) ∧ w'.cell? ⟨gb396, 9, none⟩ = some (.int .i64 a0_9)) (ds := []) #[O, O, O, O, O, O, O, O, O, O, O, O, O, O, O, O, O, O, O, O, O, O, O, O, O, O, O, O, O, O, O, O, O, O, O, O, O, O, O, O, O, O, O] (by kernel_rfl) rfl rfl ⟨bc BK396 0, bc BK396 1, bc BK396 2, bc BK396 3, bc BK396 4, bc BK396 5, bc BK396 6, bc BK396 7, bc BK396 8, bc BK396 9⟩ (fun hHeld => ?_); refine with_tabW impl_JobOk.tab1 impl_JobOk.bits1 (fun HT_ HW_ => ?_)
   generalize w35.drew = w36 at BK396 HB hHeld ⊢
   refine stepP 0 (some 3) (tk 43 1) (any_of HT_.out (by kernel_rfl)) ?_
   refine stepT 1 (some 4) (tk 43 3) (take_ofW HT_.out HW_.out (by kernel_rfl)) hHeld ?_
   refine one_ (i := 2) (N := some 5) #[I, I, I, O, O, O, O, O, O, O, O, O, O, O, O, O, O, O, O, O, O, O, O, O, O, O, O, O, O, O, O, O, O, O, O, O, O, O, O, O, O, O, O] rfl rfl (one_of HT_.out (by kernel_rfl)) (by decide) (fun K hK => ?_)
   refine goes_ Try.func87 (by kernel_rfl) rfl #[.agg #[.int .i64 a0_0, .int .i64 a0_1, .int .i64 a0_2, .slice A0_3 l0_3.length c0_3]] (by rfl) rfl rfl (by (try simp only [List.map_toArray, List.map_cons, List.map_nil]); first | done | rfl | (simp only [List.length_drop, List.length_take]; rfl)) ?_
   with_reducible refine (impl_ModelOk.calls k a0_0 a0_1 a0_2 _ _ l0_3 true _ ?side1 ?side2 A2.out).mono ?_
   (case side1 => exact C_now HR0_3.out)
   (case side2 => exact HC0_3.out)
   rintro e w37 ⟨rfl, hb⟩
   refine ⟨_, rfl, ?_⟩
   replace BK396 := blk_on gb396 hb
   replace HB := bel_on w hb
   (try clear hb)
   refine hK.out _ _ ⟨bc BK396 0, bc BK396 1, bc BK396 2, bc BK396 3, bc BK396 4, bc BK396 5, bc BK396 6, bc BK396 7, bc BK396 8, bc BK396 9⟩ (fun hHeld => ?_)
   clear hK K
   refine normP 5 ?_
   refine stepP 3 (some 6) (tk 43 15) (any_of HT_.out (by kernel_rfl)) ?_
   refine stepP 4 (some 7) (tk 43 31) (any_of HT_.out (by kernel_rfl)) ?_
   refine stepP 6 (some 9) (tk 43 95) (any_of HT_.out (by kernel_rfl)) ?_
   refine stepP 7 (some 10) (tk 43 223) (any_of HT_.out (by kernel_rfl)) ?_
   refine stepT 5 (some 8) (tk 43 255) (take_ofW HT_.out HW_.out (by kernel_rfl)) hHeld ?_
   refine stepT 8 (some 11) (tk 43 511) (take_ofW HT_.out HW_.out (by kernel_rfl)) hHeld ?_
   refine stepP 9 (some 12) (tk 43 1023) (any_of HT_.out (by kernel_rfl)) ?_
   refine one_ (i := 10) (N := some 13) #[I, I, I, I, I, I, I, I, I, I, I, O, O, O, O, O, O, O, O, O, O, O, O, O, O, O, O, O, O, O, O, O, O, O, O, O, O, O, O, O, O, O, O] rfl rfl (one_of HT_.out (by kernel_rfl)) (by decide) (fun K hK => ?_)
   refine goes_ Try.func70 (by kernel_rfl) rfl #[.int .i64 a0_4, .int .i64 0, .int .i64 (l0_3.length : Int)] (by rfl) rfl rfl (by (try simp only [List.map_toArray, List.map_cons, List.map_nil]); first | done | rfl | (simp only [List.length_drop, List.length_take]; rfl)) ?_
   with_reducible refine (impl_in.calls a0_4 0 (l0_3.length : Int) false _ A4.out).mono ?_
   rintro e w' ⟨rfl, ⟨nd, rfl⟩⟩
   refine ⟨_, rfl, ?_⟩
   refine hK.out _ _ ⟨bc BK396 0, bc BK396 1, bc BK396 2, bc BK396 3, bc BK396 4, bc BK396 5, bc BK396 6, bc BK396 7, bc BK396 8, bc BK396 9⟩ (fun hHeld => ?_)
   clear hK K
   refine normP 13 ?_
   refine stepP 11 (some 14) (tk 43 4095) (any_of HT_.out (by kernel_rfl)) ?_
   refine stepP 12 (some 15) (tk 43 8191) (any_of HT_.out (by kernel_rfl)) ?_
   refine stepU 13 (some 16) (tk 43 16383) (any_of HT_.out (by kernel_rfl)) ?_
   refine stepU 14 (some 17) (tk 43 32767) (any_of HT_.out (by kernel_rfl)) ?_
   refine stepU 15 (some 18) (tk 43 65535) (any_of HT_.out (by kernel_rfl)) ?_
   refine stepP 16 (some 19) (tk 43 131071) (any_of HT_.out (by kernel_rfl)) ?_
   refine stepP 17 (some 20) (tk 43 262143) (any_of HT_.out (by kernel_rfl)) ?_
   refine stepU 18 (some 21) (tk 43 524287) (any_of HT_.out (by kernel_rfl)) ?_
   refine stepU 19 (some 22) (tk 43 1048575) (any_of HT_.out (by kernel_rfl)) ?_
   refine stepU 20 (some 23) (tk 43 2097151) (any_of HT_.out (by kernel_rfl)) ?_
   refine stepU 21 (some 24) (tk 43 4194303) (any_of HT_.out (by kernel_rfl)) ?_
   refine stepU 22 (some 25) (tk 43 8388607) (any_of HT_.out (by kernel_rfl)) ?_
   refine stepU 23 (some 26) (tk 43 16777215) (any_of HT_.out (by kernel_rfl)) ?_
   refine stepU 24 (some 27) (tk 43 33554431) (any_of HT_.out (by kernel_rfl)) ?_
   refine stepU 25 (some 28) (tk 43 67108863) (any_of HT_.out (by kernel_rfl)) ?_
   refine stepU 26 (some 29) (tk 43 134217727) (any_of HT_.out (by kernel_rfl)) ?_
   refine stepU 27 (some 30) (tk 43 268435455) (any_of HT_.out (by kernel_rfl)) ?_
   refine stepU 28 (some 31) (tk 43 536870911) (any_of HT_.out (by kernel_rfl)) ?_
   refine stepP 29 (some 32) (tk 43 1073741823) (any_of HT_.out (by kernel_rfl)) ?_
   refine stepP 30 (some 33) (tk 43 2147483647) (any_of HT_.out (by kernel_rfl)) ?_
   refine stepU 31 (some 34) (tk 43 4294967295) (any_of HT_.out (by kernel_rfl)) ?_
   refine stepU 32 (some 35) (tk 43 8589934591) (any_of HT_.out (by kernel_rfl)) ?_
   refine stepU 33 (some 36) (tk 43 17179869183) (any_of HT_.out (by kernel_rfl)) ?_
   refine stepU 34 (some 37) (tk 43 34359738367) (any_of HT_.out (by kernel_rfl)) ?_
   refine stepU 35 (some 38) (tk 43 68719476735) (any_of HT_.out (by kernel_rfl)) ?_
   refine stepU 36 (some 39) (tk 43 137438953471) (any_of HT_.out (by kernel_rfl)) ?_
   refine stepU 37 (some 40) (tk 43 274877906943) (any_of HT_.out (by kernel_rfl)) ?_
   refine stepU 38 (some 41) (tk 43 549755813887) (any_of HT_.out (by kernel_rfl)) ?_
   refine stepU 39 (some 42) (tk 43 1099511627775) (any_of HT_.out (by kernel_rfl)) ?_
   refine stepU 40 (some 43) (tk 43 2199023255551) (any_of HT_.out (by kernel_rfl)) ?_
   refine stepP 41 (some 44) (tk 43 4398046511103) (any_of HT_.out (by kernel_rfl)) ?_
   refine stepP 42 (some 2) (tk 43 8796093022207) (any_of HT_.out (by kernel_rfl)) ?_
   refine done_ (done_of HT_.out (by kernel_rfl)) ?_
   try go_wp2
   go_ret
   exact ⟨eqN, bel_now⟩
  subst c5
  rw [if_pos rfl] at H
  replace H := Option.bind_eq_some_iff.mp H
  obtain ⟨t399, A60, H⟩ := H
  (try dsimp only at H)
  have A6 := Aside0.mk A60
  clear A60
  by_cases c7 : t399 = true
  rotate_left
  ·replace c7 := Bool.eq_false_iff.mpr c7
   subst c7
   rw [if_neg (show ¬ (false = true) by decide)] at H
   obtain rfl := Option.some.inj H
   go_enter Try.func57, Try.ntmps57
   try go_wp2_with (first | ((with_reducible refine gate_dst (N := 1) rfl ?_); (try (refine gate_guard (by rfl) ?_; dsimp only)); refine boxM 1 #[.int .i64 a0_0, .int .i64 a0_1, .int .i64 a0_2, .slice A0_3 l0_3.length c0_3, .int .i64 a0_4, .int .i64 a0_5, .int .i64 a0_6, .int .i64 a0_7, .slice A0_8 l0_8.length c0_8, .int .i64 a0_9] 55 ?_; intro gb396 hg w31 BK396 hb; replace HB := box_at w hb hg; obtain ⟨HB, GW396, GE396⟩ := HB; clear hb hg))
   replace BK396 := Aside0.mk (blk_drew BK396.out)
   replace HB := Aside0.mk (below_drew1 HB.out)
   refine start_ (n := 43) (S := fun w' => w'.cell? ⟨gb396, 0, none⟩ = some (.int .i64 a0_0) ∧ w'.cell? ⟨gb396, 1, none⟩ = some (.int .i64 a0_1) ∧ w'.cell? ⟨gb396, 2, none⟩ = some (.int .i64 a0_2) ∧ w'.cell? ⟨gb396, 3, none⟩ = some (.slice A0_3 l0_3.length c0_3) ∧ w'.cell? ⟨gb396, 4, none⟩ = some (.int .i64 a0_4) ∧ w'.cell? ⟨gb396, 5, none⟩ = some (.int .i64 a0_5) ∧ w'.cell? ⟨gb396, 6, none⟩ = some (.int .i64 a0_6) ∧ w'.cell? ⟨gb396, 7, none⟩ = some (.int .i64 a0_7) ∧ w'.cell? ⟨gb396, 8, none⟩ = some (.slice A0_8 l0_8.length c0_8) ∧ w'.cell? ⟨gb396, 9, none⟩ = some (.int .i64 a0_9)) (ds := []) #[O, O, O, O, O, O, O, O, O, O, O, O, O, O, O, O, O, O, O, O, O, O, O, O, O, O, O, O, O, O, O, O, O, O, O, O, O, O, O, O, O, O, O] (by kernel_rfl) rfl rfl ⟨bc BK396 0, bc BK396 1, bc BK396 2, bc BK396 3, bc BK396 4, bc BK396 5, bc BK396 6, bc BK396 7, bc BK396 8, bc BK396 9⟩ (fun hHeld => ?_); refine with_tabW impl_JobOk.tab1 impl_JobOk.bits1 (fun HT_ HW_ => ?_)
   generalize w31.drew = w32 at BK396 HB hHeld ⊢
   refine stepP 0 (some 3) (tk 43 1) (any_of HT_.out (by kernel_rfl)) ?_
   refine stepT 1 (some 4) (tk 43 3) (take_ofW HT_.out HW_.out (by kernel_rfl)) hHeld ?_
   refine one_ (i := 2) (N := some 5) #[I, I, I, O, O, O, O, O, O, O, O, O, O, O, O, O, O, O, O, O, O, O, O, O, O, O, O, O, O, O, O, O, O, O, O, O, O, O, O, O, O, O, O] rfl rfl (one_of HT_.out (by kernel_rfl)) (by decide) (fun K hK => ?_)
   refine goes_ Try.func87 (by kernel_rfl) rfl #[.agg #[.int .i64 a0_0, .int .i64 a0_1, .int .i64 a0_2, .slice A0_3 l0_3.length c0_3]] (by rfl) rfl rfl (by (try simp only [List.map_toArray, List.map_cons, List.map_nil]); first | done | rfl | (simp only [List.length_drop, List.length_take]; rfl)) ?_
   with_reducible refine (impl_ModelOk.calls k a0_0 a0_1 a0_2 _ _ l0_3 true _ ?side1 ?side2 A2.out).mono ?_
   (case side1 => exact C_now HR0_3.out)
   (case side2 => exact HC0_3.out)
   rintro e w33 ⟨rfl, hb⟩
   refine ⟨_, rfl, ?_⟩
   replace BK396 := blk_on gb396 hb
   replace HB := bel_on w hb
   (try clear hb)
   refine hK.out _ _ ⟨bc BK396 0, bc BK396 1, bc BK396 2, bc BK396 3, bc BK396 4, bc BK396 5, bc BK396 6, bc BK396 7, bc BK396 8, bc BK396 9⟩ (fun hHeld => ?_)
   clear hK K
   refine normP 5 ?_
   refine stepP 3 (some 6) (tk 43 15) (any_of HT_.out (by kernel_rfl)) ?_
   refine stepP 4 (some 7) (tk 43 31) (any_of HT_.out (by kernel_rfl)) ?_
   refine stepP 6 (some 9) (tk 43 95) (any_of HT_.out (by kernel_rfl)) ?_
   refine stepP 7 (some 10) (tk 43 223) (any_of HT_.out (by kernel_rfl)) ?_
   refine stepT 5 (some 8) (tk 43 255) (take_ofW HT_.out HW_.out (by kernel_rfl)) hHeld ?_
   refine stepT 8 (some 11) (tk 43 511) (take_ofW HT_.out HW_.out (by kernel_rfl)) hHeld ?_
   refine stepP 9 (some 12) (tk 43 1023) (any_of HT_.out (by kernel_rfl)) ?_
   refine one_ (i := 10) (N := some 13) #[I, I, I, I, I, I, I, I, I, I, I, O, O, O, O, O, O, O, O, O, O, O, O, O, O, O, O, O, O, O, O, O, O, O, O, O, O, O, O, O, O, O, O] rfl rfl (one_of HT_.out (by kernel_rfl)) (by decide) (fun K hK => ?_)
   refine goes_ Try.func70 (by kernel_rfl) rfl #[.int .i64 a0_4, .int .i64 0, .int .i64 (l0_3.length : Int)] (by rfl) rfl rfl (by (try simp only [List.map_toArray, List.map_cons, List.map_nil]); first | done | rfl | (simp only [List.length_drop, List.length_take]; rfl)) ?_
   with_reducible refine (impl_in.calls a0_4 0 (l0_3.length : Int) true _ A4.out).mono ?_
   rintro e w' ⟨rfl, ⟨nd, rfl⟩⟩
   refine ⟨_, rfl, ?_⟩
   refine hK.out _ _ ⟨bc BK396 0, bc BK396 1, bc BK396 2, bc BK396 3, bc BK396 4, bc BK396 5, bc BK396 6, bc BK396 7, bc BK396 8, bc BK396 9⟩ (fun hHeld => ?_)
   clear hK K
   refine normP 13 ?_
   refine stepP 11 (some 14) (tk 43 4095) (any_of HT_.out (by kernel_rfl)) ?_
   refine stepP 12 (some 15) (tk 43 8191) (any_of HT_.out (by kernel_rfl)) ?_
   refine stepP 13 (some 16) (tk 43 16383) (any_of HT_.out (by kernel_rfl)) ?_
   refine stepT 14 (some 17) (tk 43 32767) (take_ofW HT_.out HW_.out (by kernel_rfl)) hHeld ?_
   refine one_ (i := 15) (N := some 18) #[I, I, I, I, I, I, I, I, I, I, I, I, I, I, I, I, O, O, O, O, O, O, O, O, O, O, O, O, O, O, O, O, O, O, O, O, O, O, O, O, O, O, O] rfl rfl (one_of HT_.out (by kernel_rfl)) (by decide) (fun K hK => ?_)
   refine goes_ Try.func52 (by kernel_rfl) rfl #[.agg #[.int .i64 a0_5, .int .i64 a0_6, .int .i64 a0_7, .slice A0_8 l0_8.length c0_8]] (by rfl) rfl rfl (by (try simp only [List.map_toArray, List.map_cons, List.map_nil]); first | done | rfl | (simp only [List.length_drop, List.length_take]; rfl)) ?_
   with_reducible refine (impl_TensorOk.calls k a0_5 a0_6 a0_7 _ _ l0_8 false _ ?side1 ?side2 A6.out).mono ?_
   (case side1 => exact C_now HR0_8.out)
   (case side2 => exact HC0_8.out)
   rintro e w34 ⟨rfl, hb⟩
   refine ⟨_, rfl, ?_⟩
   replace BK396 := blk_on gb396 hb
   replace HB := bel_on w hb
   (try clear hb)
   refine hK.out _ _ ⟨bc BK396 0, bc BK396 1, bc BK396 2, bc BK396 3, bc BK396 4, bc BK396 5, bc BK396 6, bc BK396 7, bc BK396 8, bc BK396 9⟩ (fun hHeld => ?_)
   clear hK K
   refine normP 18 ?_
   refine stepP 16 (some 19) (tk 43 131071) (any_of HT_.out (by kernel_rfl)) ?_
   refine stepP 17 (some 20) (tk 43 262143) (any_of HT_.out (by kernel_rfl)) ?_
   refine stepU 18 (some 21) (tk 43 524287) (any_of HT_.out (by kernel_rfl)) ?_
   refine stepU 19 (some 22) (tk 43 1048575) (any_of HT_.out (by kernel_rfl)) ?_
   refine stepU 20 (some 23) (tk 43 2097151) (any_of HT_.out (by kernel_rfl)) ?_
   refine stepU 21 (some 24) (tk 43 4194303) (any_of HT_.out (by kernel_rfl)) ?_
   refine stepU 22 (some 25) (tk 43 8388607) (any_of HT_.out (by kernel_rfl)) ?_
   refine stepU 23 (some 26) (tk 43 16777215) (any_of HT_.out (by kernel_rfl)) ?_
   refine stepU 24 (some 27) (tk 43 33554431) (any_of HT_.out (by kernel_rfl)) ?_
   refine stepU 25 (some 28) (tk 43 67108863) (any_of HT_.out (by kernel_rfl)) ?_
   refine stepU 26 (some 29) (tk 43 134217727) (any_of HT_.out (by kernel_rfl)) ?_
   refine stepU 27 (some 30) (tk 43 268435455) (any_of HT_.out (by kernel_rfl)) ?_
   refine stepU 28 (some 31) (tk 43 536870911) (any_of HT_.out (by kernel_rfl)) ?_
   refine stepP 29 (some 32) (tk 43 1073741823) (any_of HT_.out (by kernel_rfl)) ?_
   refine stepP 30 (some 33) (tk 43 2147483647) (any_of HT_.out (by kernel_rfl)) ?_
   refine stepU 31 (some 34) (tk 43 4294967295) (any_of HT_.out (by kernel_rfl)) ?_
   refine stepU 32 (some 35) (tk 43 8589934591) (any_of HT_.out (by kernel_rfl)) ?_
   refine stepU 33 (some 36) (tk 43 17179869183) (any_of HT_.out (by kernel_rfl)) ?_
   refine stepU 34 (some 37) (tk 43 34359738367) (any_of HT_.out (by kernel_rfl)) ?_
   refine stepU 35 (some 38) (tk 43 68719476735) (any_of HT_.out (by kernel_rfl)) ?_
   refine stepU 36 (some 39) (tk 43 137438953471) (any_of HT_.out (by kernel_rfl)) ?_
   refine stepU 37 (some 40) (tk 43 274877906943) (any_of HT_.out (by kernel_rfl)) ?_
   refine stepU 38 (some 41) (tk 43 549755813887) (any_of HT_.out (by kernel_rfl)) ?_
   refine stepU 39 (some 42) (tk 43 1099511627775) (any_of HT_.out (by kernel_rfl)) ?_
   refine stepU 40 (some 43) (tk 43 2199023255551) (any_of HT_.out (by kernel_rfl)) ?_
   refine stepP 41 (some 44) (tk 43 4398046511103) (any_of HT_.out (by kernel_rfl)) ?_
   refine stepP 42 (some 2) (tk 43 8796093022207) (any_of HT_.out (by kernel_rfl)) ?_
   refine done_ (done_of HT_.out (by kernel_rfl)) ?_
   try go_wp2
   go_ret
   exact ⟨eqN, bel_now⟩
  subst c7
  rw [if_pos rfl] at H
  replace H := Option.bind_eq_some_iff.mp H
  obtain ⟨t400, A80, H⟩ := H
  (try dsimp only at H)
  have A8 := Aside0.mk A80
  clear A80
  by_cases c9 : 0 ≤ a0_4
  rotate_left
  ·rw [if_neg c9] at H
   exact absurd H (by simp)
  rw [if_pos c9] at H
  have c9b0 : decide (0 ≤ a0_4) = true := decide_eq_true c9
  clear c9
  by_cases c10 : a0_4 < (t400.length : Int)
  rotate_left
  ·rw [if_neg c10] at H
   exact absurd H (by simp)
  rw [if_pos c10] at H
  have c10b0 : decide (a0_4 < (t400.length : Int)) = true := decide_eq_true c10
  clear c10
  by_cases c11 : (a0_5 == ((rd_T31 t400 a0_4).f0) && (a0_6 == ((rd_T31 t400 a0_4).f1) && (a0_7 == ((rd_T31 t400 a0_4).f2)))) = true
  rotate_left
  ·rw [if_neg c11] at H
   have c11b0 : (a0_5 == ((rd_T31 t400 a0_4).f0) && (a0_6 == ((rd_T31 t400 a0_4).f1) && (a0_7 == ((rd_T31 t400 a0_4).f2)))) = false := by simpa using c11
   (try (have c11b1 : decide (a0_5 = ((rd_T31 t400 a0_4).f0) && (a0_6 == ((rd_T31 t400 a0_4).f1) && (a0_7 == ((rd_T31 t400 a0_4).f2)))) = false := by simpa using c11))
   (try (have c11b2 : (a0_5 == ((rd_T31 t400 a0_4).f0) && (a0_6 == ((rd_T31 t400 a0_4).f1) && (a0_7 == ((rd_T31 t400 a0_4).f2)))) = false := by simpa using c11))
   (try (have c11b3 : ¬ (a0_5 = ((rd_T31 t400 a0_4).f0) && (a0_6 == ((rd_T31 t400 a0_4).f1) && (a0_7 == ((rd_T31 t400 a0_4).f2)))) := by simpa using c11))
   clear c11
   obtain rfl := Option.some.inj H
   go_enter Try.func57, Try.ntmps57
   try go_wp2_with (first | ((with_reducible refine gate_dst (N := 1) rfl ?_); (try (refine gate_guard (by rfl) ?_; dsimp only)); refine boxM 1 #[.int .i64 a0_0, .int .i64 a0_1, .int .i64 a0_2, .slice A0_3 l0_3.length c0_3, .int .i64 a0_4, .int .i64 a0_5, .int .i64 a0_6, .int .i64 a0_7, .slice A0_8 l0_8.length c0_8, .int .i64 a0_9] 55 ?_; intro gb396 hg w25 BK396 hb; replace HB := box_at w hb hg; obtain ⟨HB, GW396, GE396⟩ := HB; clear hb hg))
   replace BK396 := Aside0.mk (blk_drew BK396.out)
   replace HB := Aside0.mk (below_drew1 HB.out)
   refine start_ (n := 43) (S := fun w' => w'.cell? ⟨gb396, 0, none⟩ = some (.int .i64 a0_0) ∧ w'.cell? ⟨gb396, 1, none⟩ = some (.int .i64 a0_1) ∧ w'.cell? ⟨gb396, 2, none⟩ = some (.int .i64 a0_2) ∧ w'.cell? ⟨gb396, 3, none⟩ = some (.slice A0_3 l0_3.length c0_3) ∧ w'.cell? ⟨gb396, 4, none⟩ = some (.int .i64 a0_4) ∧ w'.cell? ⟨gb396, 5, none⟩ = some (.int .i64 a0_5) ∧ w'.cell? ⟨gb396, 6, none⟩ = some (.int .i64 a0_6) ∧ w'.cell? ⟨gb396, 7, none⟩ = some (.int .i64 a0_7) ∧ w'.cell? ⟨gb396, 8, none⟩ = some (.slice A0_8 l0_8.length c0_8) ∧ w'.cell? ⟨gb396, 9, none⟩ = some (.int .i64 a0_9)) (ds := []) #[O, O, O, O, O, O, O, O, O, O, O, O, O, O, O, O, O, O, O, O, O, O, O, O, O, O, O, O, O, O, O, O, O, O, O, O, O, O, O, O, O, O, O] (by kernel_rfl) rfl rfl ⟨bc BK396 0, bc BK396 1, bc BK396 2, bc BK396 3, bc BK396 4, bc BK396 5, bc BK396 6, bc BK396 7, bc BK396 8, bc BK396 9⟩ (fun hHeld => ?_); refine with_tabW impl_JobOk.tab1 impl_JobOk.bits1 (fun HT_ HW_ => ?_)
   generalize w25.drew = w26 at BK396 HB hHeld ⊢
   refine stepP 0 (some 3) (tk 43 1) (any_of HT_.out (by kernel_rfl)) ?_
   refine stepT 1 (some 4) (tk 43 3) (take_ofW HT_.out HW_.out (by kernel_rfl)) hHeld ?_
   refine one_ (i := 2) (N := some 5) #[I, I, I, O, O, O, O, O, O, O, O, O, O, O, O, O, O, O, O, O, O, O, O, O, O, O, O, O, O, O, O, O, O, O, O, O, O, O, O, O, O, O, O] rfl rfl (one_of HT_.out (by kernel_rfl)) (by decide) (fun K hK => ?_)
   refine goes_ Try.func87 (by kernel_rfl) rfl #[.agg #[.int .i64 a0_0, .int .i64 a0_1, .int .i64 a0_2, .slice A0_3 l0_3.length c0_3]] (by rfl) rfl rfl (by (try simp only [List.map_toArray, List.map_cons, List.map_nil]); first | done | rfl | (simp only [List.length_drop, List.length_take]; rfl)) ?_
   with_reducible refine (impl_ModelOk.calls k a0_0 a0_1 a0_2 _ _ l0_3 true _ ?side1 ?side2 A2.out).mono ?_
   (case side1 => exact C_now HR0_3.out)
   (case side2 => exact HC0_3.out)
   rintro e w27 ⟨rfl, hb⟩
   refine ⟨_, rfl, ?_⟩
   replace BK396 := blk_on gb396 hb
   replace HB := bel_on w hb
   (try clear hb)
   refine hK.out _ _ ⟨bc BK396 0, bc BK396 1, bc BK396 2, bc BK396 3, bc BK396 4, bc BK396 5, bc BK396 6, bc BK396 7, bc BK396 8, bc BK396 9⟩ (fun hHeld => ?_)
   clear hK K
   refine normP 5 ?_
   refine stepP 3 (some 6) (tk 43 15) (any_of HT_.out (by kernel_rfl)) ?_
   refine stepP 4 (some 7) (tk 43 31) (any_of HT_.out (by kernel_rfl)) ?_
   refine stepP 6 (some 9) (tk 43 95) (any_of HT_.out (by kernel_rfl)) ?_
   refine stepP 7 (some 10) (tk 43 223) (any_of HT_.out (by kernel_rfl)) ?_
   refine stepT 5 (some 8) (tk 43 255) (take_ofW HT_.out HW_.out (by kernel_rfl)) hHeld ?_
   refine stepT 8 (some 11) (tk 43 511) (take_ofW HT_.out HW_.out (by kernel_rfl)) hHeld ?_
   refine stepP 9 (some 12) (tk 43 1023) (any_of HT_.out (by kernel_rfl)) ?_
   refine one_ (i := 10) (N := some 13) #[I, I, I, I, I, I, I, I, I, I, I, O, O, O, O, O, O, O, O, O, O, O, O, O, O, O, O, O, O, O, O, O, O, O, O, O, O, O, O, O, O, O, O] rfl rfl (one_of HT_.out (by kernel_rfl)) (by decide) (fun K hK => ?_)
   refine goes_ Try.func70 (by kernel_rfl) rfl #[.int .i64 a0_4, .int .i64 0, .int .i64 (l0_3.length : Int)] (by rfl) rfl rfl (by (try simp only [List.map_toArray, List.map_cons, List.map_nil]); first | done | rfl | (simp only [List.length_drop, List.length_take]; rfl)) ?_
   with_reducible refine (impl_in.calls a0_4 0 (l0_3.length : Int) true _ A4.out).mono ?_
   rintro e w' ⟨rfl, ⟨nd, rfl⟩⟩
   refine ⟨_, rfl, ?_⟩
   refine hK.out _ _ ⟨bc BK396 0, bc BK396 1, bc BK396 2, bc BK396 3, bc BK396 4, bc BK396 5, bc BK396 6, bc BK396 7, bc BK396 8, bc BK396 9⟩ (fun hHeld => ?_)
   clear hK K
   refine normP 13 ?_
   refine stepP 11 (some 14) (tk 43 4095) (any_of HT_.out (by kernel_rfl)) ?_
   refine stepP 12 (some 15) (tk 43 8191) (any_of HT_.out (by kernel_rfl)) ?_
   refine stepP 13 (some 16) (tk 43 16383) (any_of HT_.out (by kernel_rfl)) ?_
   refine stepT 14 (some 17) (tk 43 32767) (take_ofW HT_.out HW_.out (by kernel_rfl)) hHeld ?_
   refine one_ (i := 15) (N := some 18) #[I, I, I, I, I, I, I, I, I, I, I, I, I, I, I, I, O, O, O, O, O, O, O, O, O, O, O, O, O, O, O, O, O, O, O, O, O, O, O, O, O, O, O] rfl rfl (one_of HT_.out (by kernel_rfl)) (by decide) (fun K hK => ?_)
   refine goes_ Try.func52 (by kernel_rfl) rfl #[.agg #[.int .i64 a0_5, .int .i64 a0_6, .int .i64 a0_7, .slice A0_8 l0_8.length c0_8]] (by rfl) rfl rfl (by (try simp only [List.map_toArray, List.map_cons, List.map_nil]); first | done | rfl | (simp only [List.length_drop, List.length_take]; rfl)) ?_
   with_reducible refine (impl_TensorOk.calls k a0_5 a0_6 a0_7 _ _ l0_8 true _ ?side1 ?side2 A6.out).mono ?_
   (case side1 => exact C_now HR0_8.out)
   (case side2 => exact HC0_8.out)
   rintro e w28 ⟨rfl, hb⟩
   refine ⟨_, rfl, ?_⟩
   replace BK396 := blk_on gb396 hb
   replace HB := bel_on w hb
   (try clear hb)
   refine hK.out _ _ ⟨bc BK396 0, bc BK396 1, bc BK396 2, bc BK396 3, bc BK396 4, bc BK396 5, bc BK396 6, bc BK396 7, bc BK396 8, bc BK396 9⟩ (fun hHeld => ?_)
   clear hK K
   refine normP 18 ?_
   refine stepP 16 (some 19) (tk 43 131071) (any_of HT_.out (by kernel_rfl)) ?_
   refine stepP 17 (some 20) (tk 43 262143) (any_of HT_.out (by kernel_rfl)) ?_
   refine stepP 18 (some 21) (tk 43 524287) (any_of HT_.out (by kernel_rfl)) ?_
   refine stepP 19 (some 22) (tk 43 1048575) (any_of HT_.out (by kernel_rfl)) ?_
   refine stepP 21 (some 24) (tk 43 3145727) (any_of HT_.out (by kernel_rfl)) ?_
   refine stepP 24 (some 27) (tk 43 19922943) (any_of HT_.out (by kernel_rfl)) ?_
   refine stepT 20 (some 23) (tk 43 20971519) (take_ofW HT_.out HW_.out (by kernel_rfl)) hHeld ?_
   refine stepT 22 (some 25) (tk 43 25165823) (take_ofW HT_.out HW_.out (by kernel_rfl)) hHeld ?_
   refine stepT 25 (some 28) (tk 43 58720255) (take_ofW HT_.out HW_.out (by kernel_rfl)) hHeld ?_
   refine one_ (i := 23) (N := some 26) #[I, I, I, I, I, I, I, I, I, I, I, I, I, I, I, I, I, I, I, I, I, I, I, I, I, I, O, O, O, O, O, O, O, O, O, O, O, O, O, O, O, O, O] rfl rfl (one_of HT_.out (by kernel_rfl)) (by decide) (fun K hK => ?_)
   refine goes_ Try.func108 (by kernel_rfl) rfl #[.agg #[.int .i64 a0_0, .int .i64 a0_1, .int .i64 a0_2, .slice A0_3 l0_3.length c0_3]] (by rfl) rfl rfl (by (try simp only [List.map_toArray, List.map_cons, List.map_nil]); first | done | rfl | (simp only [List.length_drop, List.length_take]; rfl)) ?_
   with_reducible refine (impl_ShapesOf.calls k a0_0 a0_1 a0_2 _ _ l0_3 t400 _ ?side1 ?side2 A8.out).mono ?_
   (case side1 => exact C_now HR0_3.out)
   (case side2 => exact HC0_3.out)
   rintro e w29 ⟨v401, rfl, ho0, hb⟩
   refine ⟨_, rfl, ?_⟩
   have n0_ := Aside0.mk (Kd.R_lower ho0 (below_size bel_now))
   replace BK396 := blk_on gb396 hb
   replace HB := bel_on w hb
   have HO402 := n0_
   clear n0_
   (try clear hb)
   (try clear ho0)
   obtain ⟨Ao30, co30, eo30⟩ := Kd.R_slice HO402.out
   (first | subst eo30 | (injection eo30 with f1_ f2_ f3_; have f4_ := f1_.symm; have f5_ := f3_.symm; clear f1_ f2_ f3_; subst f4_; subst f5_))
   have p403 : 0 ≤ (a0_4 : Int) := of_decide_eq_true (by first | (with_reducible assumption) | assumption)
   have q403 : a0_4 < (t400.length : Int) := of_decide_eq_true (by first | (with_reducible assumption) | assumption)
   (try (obtain ⟨_, _, eo_⟩ := Kd.R_slice HO402.out; subst eo_))
   obtain ⟨ad403, e403, hx403_0, hx403_1, hx403_2⟩ := at_T31 (Kd.R_reads' HO402.out).2.2 a0_4 p403 q403
   cases e403
   replace p403 := eq_true p403
   replace q403 := eq_true q403
   refine hK.out _ _ ⟨bc BK396 0, bc BK396 1, bc BK396 2, bc BK396 3, bc BK396 4, bc BK396 5, bc BK396 6, bc BK396 7, bc BK396 8, bc BK396 9⟩ (fun hHeld => ?_)
   clear hHeld
   have hHeld : (fun w' : World => w'.cell? ⟨gb396, 0, none⟩ = some (.int .i64 a0_0) ∧ w'.cell? ⟨gb396, 1, none⟩ = some (.int .i64 a0_1) ∧ w'.cell? ⟨gb396, 2, none⟩ = some (.int .i64 a0_2) ∧ w'.cell? ⟨gb396, 3, none⟩ = some (.slice A0_3 l0_3.length c0_3) ∧ w'.cell? ⟨gb396, 4, none⟩ = some (.int .i64 a0_4) ∧ w'.cell? ⟨gb396, 5, none⟩ = some (.int .i64 a0_5) ∧ w'.cell? ⟨gb396, 6, none⟩ = some (.int .i64 a0_6) ∧ w'.cell? ⟨gb396, 7, none⟩ = some (.int .i64 a0_7) ∧ w'.cell? ⟨gb396, 8, none⟩ = some (.slice A0_8 l0_8.length c0_8) ∧ w'.cell? ⟨gb396, 9, none⟩ = some (.int .i64 a0_9) ∧ w'.cell? (ad403.add ((a0_4).toNat * 3)) = some (.int .i64 ((rd_T31 t400 a0_4).f0)) ∧ w'.cell? ⟨(ad403.add ((a0_4).toNat * 3)).block, (ad403.add ((a0_4).toNat * 3)).off + 1, none⟩ = some (.int .i64 ((rd_T31 t400 a0_4).f1)) ∧ w'.cell? ⟨(ad403.add ((a0_4).toNat * 3)).block, (ad403.add ((a0_4).toNat * 3)).off + 2, none⟩ = some (.int .i64 ((rd_T31 t400 a0_4).f2))) w29 := ⟨bc BK396 0, bc BK396 1, bc BK396 2, bc BK396 3, bc BK396 4, bc BK396 5, bc BK396 6, bc BK396 7, bc BK396 8, bc BK396 9, hx403_0, hx403_1, hx403_2⟩
   refine last_more (S' := fun w' => w'.cell? ⟨gb396, 0, none⟩ = some (.int .i64 a0_0) ∧ w'.cell? ⟨gb396, 1, none⟩ = some (.int .i64 a0_1) ∧ w'.cell? ⟨gb396, 2, none⟩ = some (.int .i64 a0_2) ∧ w'.cell? ⟨gb396, 3, none⟩ = some (.slice A0_3 l0_3.length c0_3) ∧ w'.cell? ⟨gb396, 4, none⟩ = some (.int .i64 a0_4) ∧ w'.cell? ⟨gb396, 5, none⟩ = some (.int .i64 a0_5) ∧ w'.cell? ⟨gb396, 6, none⟩ = some (.int .i64 a0_6) ∧ w'.cell? ⟨gb396, 7, none⟩ = some (.int .i64 a0_7) ∧ w'.cell? ⟨gb396, 8, none⟩ = some (.slice A0_8 l0_8.length c0_8) ∧ w'.cell? ⟨gb396, 9, none⟩ = some (.int .i64 a0_9) ∧ w'.cell? (ad403.add ((a0_4).toNat * 3)) = some (.int .i64 ((rd_T31 t400 a0_4).f0)) ∧ w'.cell? ⟨(ad403.add ((a0_4).toNat * 3)).block, (ad403.add ((a0_4).toNat * 3)).off + 1, none⟩ = some (.int .i64 ((rd_T31 t400 a0_4).f1)) ∧ w'.cell? ⟨(ad403.add ((a0_4).toNat * 3)).block, (ad403.add ((a0_4).toNat * 3)).off + 2, none⟩ = some (.int .i64 ((rd_T31 t400 a0_4).f2))) (fun _ h_ => ⟨h_.1, h_.2.1, h_.2.2.1, h_.2.2.2.1, h_.2.2.2.2.1, h_.2.2.2.2.2.1, h_.2.2.2.2.2.2.1, h_.2.2.2.2.2.2.2.1, h_.2.2.2.2.2.2.2.2.1, h_.2.2.2.2.2.2.2.2.2.1⟩) _ _ _ _ hHeld ?_
   dsimp only at hHeld
   clear hK K
   refine normP 26 ?_
   refine stepP 26 (some 29) (tk 43 134217727) (any_of HT_.out (by kernel_rfl)) ?_
   refine stepT 27 (some 30) (tk 43 268435455) (take_ofW HT_.out HW_.out (by kernel_rfl)) hHeld ?_
   refine stepP 28 (some 31) (tk 43 536870911) (any_of HT_.out (by kernel_rfl)) ?_
   refine stepP 29 (some 32) (tk 43 1073741823) (any_of HT_.out (by kernel_rfl)) ?_
   refine stepP 30 (some 33) (tk 43 2147483647) (any_of HT_.out (by kernel_rfl)) ?_
   refine stepU 31 (some 34) (tk 43 4294967295) (any_of HT_.out (by kernel_rfl)) ?_
   refine stepU 32 (some 35) (tk 43 8589934591) (any_of HT_.out (by kernel_rfl)) ?_
   refine stepU 33 (some 36) (tk 43 17179869183) (any_of HT_.out (by kernel_rfl)) ?_
   refine stepU 34 (some 37) (tk 43 34359738367) (any_of HT_.out (by kernel_rfl)) ?_
   refine stepU 35 (some 38) (tk 43 68719476735) (any_of HT_.out (by kernel_rfl)) ?_
   refine stepU 36 (some 39) (tk 43 137438953471) (any_of HT_.out (by kernel_rfl)) ?_
   refine stepU 37 (some 40) (tk 43 274877906943) (any_of HT_.out (by kernel_rfl)) ?_
   refine stepU 38 (some 41) (tk 43 549755813887) (any_of HT_.out (by kernel_rfl)) ?_
   refine stepU 39 (some 42) (tk 43 1099511627775) (any_of HT_.out (by kernel_rfl)) ?_
   refine stepU 40 (some 43) (tk 43 2199023255551) (any_of HT_.out (by kernel_rfl)) ?_
   refine stepP 41 (some 44) (tk 43 4398046511103) (any_of HT_.out (by kernel_rfl)) ?_
   refine stepP 42 (some 2) (tk 43 8796093022207) (any_of HT_.out (by kernel_rfl)) ?_
   refine done_ (done_of HT_.out (by kernel_rfl)) ?_
   try go_wp2
   go_ret
   exact ⟨eqN, bel_now⟩
  rw [if_pos c11] at H
  have c11b0 : (a0_5 == ((rd_T31 t400 a0_4).f0) && (a0_6 == ((rd_T31 t400 a0_4).f1) && (a0_7 == ((rd_T31 t400 a0_4).f2)))) = true := c11
  (try (have c11b1 : decide (a0_5 = ((rd_T31 t400 a0_4).f0) && (a0_6 == ((rd_T31 t400 a0_4).f1) && (a0_7 == ((rd_T31 t400 a0_4).f2)))) = true := by simpa using c11))
  (try (have c11b2 : (a0_5 == ((rd_T31 t400 a0_4).f0) && (a0_6 == ((rd_T31 t400 a0_4).f1) && (a0_7 == ((rd_T31 t400 a0_4).f2)))) = true := by simpa using c11))
  clear c11
  replace H := Option.bind_eq_some_iff.mp H
  obtain ⟨t404, A120, H⟩ := H
  (try dsimp only at H)
  have A12 := Aside0.mk A120
  clear A120
  have c13b0 := eq_true (of_decide_eq_true (by first | (with_reducible assumption) | assumption) : 0 ≤ a0_4)
  by_cases c14 : a0_4 ≤ (t404.length : Int)
  rotate_left
  ·rw [if_neg c14] at H
   exact absurd H (by simp)
  rw [if_pos c14] at H
  have c14b0 := eq_true c14
  have c14b1 : decide (a0_4 ≤ (t404.length : Int)) = true := decide_eq_true c14
  clear c14
  obtain ⟨y407, hy407⟩ : ∃ y_ : List Int, y_ = (t404.take (a0_4 : Int).toNat) := ⟨_, rfl⟩
  replace H : ((impl_sum.f k y407).bind fun t411 => (some (a0_9 == t411))) = some r := by first | (rw [hy407]; with_reducible exact H) | (have H2_ := (Option.bind_some _ _).symm.trans H; rw [hy407]; with_reducible exact H2_) | (have H2_ := (Option.bind_some _ _).symm.trans H; with_reducible exact H2_) | with_reducible exact H | (rw [hy407]; exact H) | exact H
  have Ny407 := Aside0.mk hy407
  clear hy407
  replace H := Option.bind_eq_some_iff.mp H
  obtain ⟨t411, A150, H⟩ := H
  (try dsimp only at H)
  have A15 := Aside0.mk A150
  clear A150
  obtain rfl := Option.some.inj H
  go_enter Try.func57, Try.ntmps57
  try go_wp2_with (first | ((with_reducible refine gate_dst (N := 1) rfl ?_); (try (refine gate_guard (by rfl) ?_; dsimp only)); refine boxM 1 #[.int .i64 a0_0, .int .i64 a0_1, .int .i64 a0_2, .slice A0_3 l0_3.length c0_3, .int .i64 a0_4, .int .i64 a0_5, .int .i64 a0_6, .int .i64 a0_7, .slice A0_8 l0_8.length c0_8, .int .i64 a0_9] 55 ?_; intro gb396 hg w16 BK396 hb; replace HB := box_at w hb hg; obtain ⟨HB, GW396, GE396⟩ := HB; clear hb hg))
  replace BK396 := Aside0.mk (blk_drew BK396.out)
  replace HB := Aside0.mk (below_drew1 HB.out)
  refine start_ (n := 43) (S := fun w' => w'.cell? ⟨gb396, 0, none⟩ = some (.int .i64 a0_0) ∧ w'.cell? ⟨gb396, 1, none⟩ = some (.int .i64 a0_1) ∧ w'.cell? ⟨gb396, 2, none⟩ = some (.int .i64 a0_2) ∧ w'.cell? ⟨gb396, 3, none⟩ = some (.slice A0_3 l0_3.length c0_3) ∧ w'.cell? ⟨gb396, 4, none⟩ = some (.int .i64 a0_4) ∧ w'.cell? ⟨gb396, 5, none⟩ = some (.int .i64 a0_5) ∧ w'.cell? ⟨gb396, 6, none⟩ = some (.int .i64 a0_6) ∧ w'.cell? ⟨gb396, 7, none⟩ = some (.int .i64 a0_7) ∧ w'.cell? ⟨gb396, 8, none⟩ = some (.slice A0_8 l0_8.length c0_8) ∧ w'.cell? ⟨gb396, 9, none⟩ = some (.int .i64 a0_9)) (ds := []) #[O, O, O, O, O, O, O, O, O, O, O, O, O, O, O, O, O, O, O, O, O, O, O, O, O, O, O, O, O, O, O, O, O, O, O, O, O, O, O, O, O, O, O] (by kernel_rfl) rfl rfl ⟨bc BK396 0, bc BK396 1, bc BK396 2, bc BK396 3, bc BK396 4, bc BK396 5, bc BK396 6, bc BK396 7, bc BK396 8, bc BK396 9⟩ (fun hHeld => ?_); refine with_tabW impl_JobOk.tab1 impl_JobOk.bits1 (fun HT_ HW_ => ?_)
  generalize w16.drew = w17 at BK396 HB hHeld ⊢
  refine stepP 0 (some 3) (tk 43 1) (any_of HT_.out (by kernel_rfl)) ?_
  refine stepT 1 (some 4) (tk 43 3) (take_ofW HT_.out HW_.out (by kernel_rfl)) hHeld ?_
  refine one_ (i := 2) (N := some 5) #[I, I, I, O, O, O, O, O, O, O, O, O, O, O, O, O, O, O, O, O, O, O, O, O, O, O, O, O, O, O, O, O, O, O, O, O, O, O, O, O, O, O, O] rfl rfl (one_of HT_.out (by kernel_rfl)) (by decide) (fun K hK => ?_)
  refine goes_ Try.func87 (by kernel_rfl) rfl #[.agg #[.int .i64 a0_0, .int .i64 a0_1, .int .i64 a0_2, .slice A0_3 l0_3.length c0_3]] (by rfl) rfl rfl (by (try simp only [List.map_toArray, List.map_cons, List.map_nil]); first | done | rfl | (simp only [List.length_drop, List.length_take]; rfl)) ?_
  with_reducible refine (impl_ModelOk.calls k a0_0 a0_1 a0_2 _ _ l0_3 true _ ?side1 ?side2 A2.out).mono ?_
  (case side1 => exact C_now HR0_3.out)
  (case side2 => exact HC0_3.out)
  rintro e w18 ⟨rfl, hb⟩
  refine ⟨_, rfl, ?_⟩
  replace BK396 := blk_on gb396 hb
  replace HB := bel_on w hb
  (try clear hb)
  refine hK.out _ _ ⟨bc BK396 0, bc BK396 1, bc BK396 2, bc BK396 3, bc BK396 4, bc BK396 5, bc BK396 6, bc BK396 7, bc BK396 8, bc BK396 9⟩ (fun hHeld => ?_)
  clear hK K
  refine normP 5 ?_
  refine stepP 3 (some 6) (tk 43 15) (any_of HT_.out (by kernel_rfl)) ?_
  refine stepP 4 (some 7) (tk 43 31) (any_of HT_.out (by kernel_rfl)) ?_
  refine stepP 6 (some 9) (tk 43 95) (any_of HT_.out (by kernel_rfl)) ?_
  refine stepP 7 (some 10) (tk 43 223) (any_of HT_.out (by kernel_rfl)) ?_
  refine stepT 5 (some 8) (tk 43 255) (take_ofW HT_.out HW_.out (by kernel_rfl)) hHeld ?_
  refine stepT 8 (some 11) (tk 43 511) (take_ofW HT_.out HW_.out (by kernel_rfl)) hHeld ?_
  refine stepP 9 (some 12) (tk 43 1023) (any_of HT_.out (by kernel_rfl)) ?_
  refine one_ (i := 10) (N := some 13) #[I, I, I, I, I, I, I, I, I, I, I, O, O, O, O, O, O, O, O, O, O, O, O, O, O, O, O, O, O, O, O, O, O, O, O, O, O, O, O, O, O, O, O] rfl rfl (one_of HT_.out (by kernel_rfl)) (by decide) (fun K hK => ?_)
  refine goes_ Try.func70 (by kernel_rfl) rfl #[.int .i64 a0_4, .int .i64 0, .int .i64 (l0_3.length : Int)] (by rfl) rfl rfl (by (try simp only [List.map_toArray, List.map_cons, List.map_nil]); first | done | rfl | (simp only [List.length_drop, List.length_take]; rfl)) ?_
  with_reducible refine (impl_in.calls a0_4 0 (l0_3.length : Int) true _ A4.out).mono ?_
  rintro e w' ⟨rfl, ⟨nd, rfl⟩⟩
  refine ⟨_, rfl, ?_⟩
  refine hK.out _ _ ⟨bc BK396 0, bc BK396 1, bc BK396 2, bc BK396 3, bc BK396 4, bc BK396 5, bc BK396 6, bc BK396 7, bc BK396 8, bc BK396 9⟩ (fun hHeld => ?_)
  clear hK K
  refine normP 13 ?_
  refine stepP 11 (some 14) (tk 43 4095) (any_of HT_.out (by kernel_rfl)) ?_
  refine stepP 12 (some 15) (tk 43 8191) (any_of HT_.out (by kernel_rfl)) ?_
  refine stepP 13 (some 16) (tk 43 16383) (any_of HT_.out (by kernel_rfl)) ?_
  refine stepT 14 (some 17) (tk 43 32767) (take_ofW HT_.out HW_.out (by kernel_rfl)) hHeld ?_
  refine one_ (i := 15) (N := some 18) #[I, I, I, I, I, I, I, I, I, I, I, I, I, I, I, I, O, O, O, O, O, O, O, O, O, O, O, O, O, O, O, O, O, O, O, O, O, O, O, O, O, O, O] rfl rfl (one_of HT_.out (by kernel_rfl)) (by decide) (fun K hK => ?_)
  refine goes_ Try.func52 (by kernel_rfl) rfl #[.agg #[.int .i64 a0_5, .int .i64 a0_6, .int .i64 a0_7, .slice A0_8 l0_8.length c0_8]] (by rfl) rfl rfl (by (try simp only [List.map_toArray, List.map_cons, List.map_nil]); first | done | rfl | (simp only [List.length_drop, List.length_take]; rfl)) ?_
  with_reducible refine (impl_TensorOk.calls k a0_5 a0_6 a0_7 _ _ l0_8 true _ ?side1 ?side2 A6.out).mono ?_
  (case side1 => exact C_now HR0_8.out)
  (case side2 => exact HC0_8.out)
  rintro e w19 ⟨rfl, hb⟩
  refine ⟨_, rfl, ?_⟩
  replace BK396 := blk_on gb396 hb
  replace HB := bel_on w hb
  (try clear hb)
  refine hK.out _ _ ⟨bc BK396 0, bc BK396 1, bc BK396 2, bc BK396 3, bc BK396 4, bc BK396 5, bc BK396 6, bc BK396 7, bc BK396 8, bc BK396 9⟩ (fun hHeld => ?_)
  clear hK K
  refine normP 18 ?_
  refine stepP 16 (some 19) (tk 43 131071) (any_of HT_.out (by kernel_rfl)) ?_
  refine stepP 17 (some 20) (tk 43 262143) (any_of HT_.out (by kernel_rfl)) ?_
  refine stepP 18 (some 21) (tk 43 524287) (any_of HT_.out (by kernel_rfl)) ?_
  refine stepP 19 (some 22) (tk 43 1048575) (any_of HT_.out (by kernel_rfl)) ?_
  refine stepP 21 (some 24) (tk 43 3145727) (any_of HT_.out (by kernel_rfl)) ?_
  refine stepP 24 (some 27) (tk 43 19922943) (any_of HT_.out (by kernel_rfl)) ?_
  refine stepT 20 (some 23) (tk 43 20971519) (take_ofW HT_.out HW_.out (by kernel_rfl)) hHeld ?_
  refine stepT 22 (some 25) (tk 43 25165823) (take_ofW HT_.out HW_.out (by kernel_rfl)) hHeld ?_
  refine stepT 25 (some 28) (tk 43 58720255) (take_ofW HT_.out HW_.out (by kernel_rfl)) hHeld ?_
  refine one_ (i := 23) (N := some 26) #[I, I, I, I, I, I, I, I, I, I, I, I, I, I, I, I, I, I, I, I, I, I, I, I, I, I, O, O, O, O, O, O, O, O, O, O, O, O, O, O, O, O, O] rfl rfl (one_of HT_.out (by kernel_rfl)) (by decide) (fun K hK => ?_)
  refine goes_ Try.func108 (by kernel_rfl) rfl #[.agg #[.int .i64 a0_0, .int .i64 a0_1, .int .i64 a0_2, .slice A0_3 l0_3.length c0_3]] (by rfl) rfl rfl (by (try simp only [List.map_toArray, List.map_cons, List.map_nil]); first | done | rfl | (simp only [List.length_drop, List.length_take]; rfl)) ?_
  with_reducible refine (impl_ShapesOf.calls k a0_0 a0_1 a0_2 _ _ l0_3 t400 _ ?side1 ?side2 A8.out).mono ?_
  (case side1 => exact C_now HR0_3.out)
  (case side2 => exact HC0_3.out)
  rintro e w20 ⟨v401, rfl, ho0, hb⟩
  refine ⟨_, rfl, ?_⟩
  have n0_ := Aside0.mk (Kd.R_lower ho0 (below_size bel_now))
  replace BK396 := blk_on gb396 hb
  replace HB := bel_on w hb
  have HO402 := n0_
  clear n0_
  (try clear hb)
  (try clear ho0)
  obtain ⟨Ao21, co21, eo21⟩ := Kd.R_slice HO402.out
  (first | subst eo21 | (injection eo21 with f1_ f2_ f3_; have f4_ := f1_.symm; have f5_ := f3_.symm; clear f1_ f2_ f3_; subst f4_; subst f5_))
  have p403 : 0 ≤ (a0_4 : Int) := of_decide_eq_true (by first | (with_reducible assumption) | assumption)
  have q403 : a0_4 < (t400.length : Int) := of_decide_eq_true (by first | (with_reducible assumption) | assumption)
  (try (obtain ⟨_, _, eo_⟩ := Kd.R_slice HO402.out; subst eo_))
  obtain ⟨ad403, e403, hx403_0, hx403_1, hx403_2⟩ := at_T31 (Kd.R_reads' HO402.out).2.2 a0_4 p403 q403
  cases e403
  replace p403 := eq_true p403
  replace q403 := eq_true q403
  refine hK.out _ _ ⟨bc BK396 0, bc BK396 1, bc BK396 2, bc BK396 3, bc BK396 4, bc BK396 5, bc BK396 6, bc BK396 7, bc BK396 8, bc BK396 9⟩ (fun hHeld => ?_)
  clear hHeld
  have hHeld : (fun w' : World => w'.cell? ⟨gb396, 0, none⟩ = some (.int .i64 a0_0) ∧ w'.cell? ⟨gb396, 1, none⟩ = some (.int .i64 a0_1) ∧ w'.cell? ⟨gb396, 2, none⟩ = some (.int .i64 a0_2) ∧ w'.cell? ⟨gb396, 3, none⟩ = some (.slice A0_3 l0_3.length c0_3) ∧ w'.cell? ⟨gb396, 4, none⟩ = some (.int .i64 a0_4) ∧ w'.cell? ⟨gb396, 5, none⟩ = some (.int .i64 a0_5) ∧ w'.cell? ⟨gb396, 6, none⟩ = some (.int .i64 a0_6) ∧ w'.cell? ⟨gb396, 7, none⟩ = some (.int .i64 a0_7) ∧ w'.cell? ⟨gb396, 8, none⟩ = some (.slice A0_8 l0_8.length c0_8) ∧ w'.cell? ⟨gb396, 9, none⟩ = some (.int .i64 a0_9) ∧ w'.cell? (ad403.add ((a0_4).toNat * 3)) = some (.int .i64 ((rd_T31 t400 a0_4).f0)) ∧ w'.cell? ⟨(ad403.add ((a0_4).toNat * 3)).block, (ad403.add ((a0_4).toNat * 3)).off + 1, none⟩ = some (.int .i64 ((rd_T31 t400 a0_4).f1)) ∧ w'.cell? ⟨(ad403.add ((a0_4).toNat * 3)).block, (ad403.add ((a0_4).toNat * 3)).off + 2, none⟩ = some (.int .i64 ((rd_T31 t400 a0_4).f2))) w20 := ⟨bc BK396 0, bc BK396 1, bc BK396 2, bc BK396 3, bc BK396 4, bc BK396 5, bc BK396 6, bc BK396 7, bc BK396 8, bc BK396 9, hx403_0, hx403_1, hx403_2⟩
  refine last_more (S' := fun w' => w'.cell? ⟨gb396, 0, none⟩ = some (.int .i64 a0_0) ∧ w'.cell? ⟨gb396, 1, none⟩ = some (.int .i64 a0_1) ∧ w'.cell? ⟨gb396, 2, none⟩ = some (.int .i64 a0_2) ∧ w'.cell? ⟨gb396, 3, none⟩ = some (.slice A0_3 l0_3.length c0_3) ∧ w'.cell? ⟨gb396, 4, none⟩ = some (.int .i64 a0_4) ∧ w'.cell? ⟨gb396, 5, none⟩ = some (.int .i64 a0_5) ∧ w'.cell? ⟨gb396, 6, none⟩ = some (.int .i64 a0_6) ∧ w'.cell? ⟨gb396, 7, none⟩ = some (.int .i64 a0_7) ∧ w'.cell? ⟨gb396, 8, none⟩ = some (.slice A0_8 l0_8.length c0_8) ∧ w'.cell? ⟨gb396, 9, none⟩ = some (.int .i64 a0_9) ∧ w'.cell? (ad403.add ((a0_4).toNat * 3)) = some (.int .i64 ((rd_T31 t400 a0_4).f0)) ∧ w'.cell? ⟨(ad403.add ((a0_4).toNat * 3)).block, (ad403.add ((a0_4).toNat * 3)).off + 1, none⟩ = some (.int .i64 ((rd_T31 t400 a0_4).f1)) ∧ w'.cell? ⟨(ad403.add ((a0_4).toNat * 3)).block, (ad403.add ((a0_4).toNat * 3)).off + 2, none⟩ = some (.int .i64 ((rd_T31 t400 a0_4).f2))) (fun _ h_ => ⟨h_.1, h_.2.1, h_.2.2.1, h_.2.2.2.1, h_.2.2.2.2.1, h_.2.2.2.2.2.1, h_.2.2.2.2.2.2.1, h_.2.2.2.2.2.2.2.1, h_.2.2.2.2.2.2.2.2.1, h_.2.2.2.2.2.2.2.2.2.1⟩) _ _ _ _ hHeld ?_
  dsimp only at hHeld
  clear hK K
  refine normP 26 ?_
  refine stepP 26 (some 29) (tk 43 134217727) (any_of HT_.out (by kernel_rfl)) ?_
  refine stepT 27 (some 30) (tk 43 268435455) (take_ofW HT_.out HW_.out (by kernel_rfl)) hHeld ?_
  refine stepP 28 (some 31) (tk 43 536870911) (any_of HT_.out (by kernel_rfl)) ?_
  refine stepP 29 (some 32) (tk 43 1073741823) (any_of HT_.out (by kernel_rfl)) ?_
  refine stepP 30 (some 33) (tk 43 2147483647) (any_of HT_.out (by kernel_rfl)) ?_
  refine stepP 31 (some 34) (tk 43 4294967295) (any_of HT_.out (by kernel_rfl)) ?_
  refine stepP 33 (some 36) (tk 43 12884901887) (any_of HT_.out (by kernel_rfl)) ?_
  refine stepP 36 (some 39) (tk 43 81604378623) (any_of HT_.out (by kernel_rfl)) ?_
  refine stepT 32 (some 35) (tk 43 85899345919) (take_ofW HT_.out HW_.out (by kernel_rfl)) hHeld ?_
  refine stepT 34 (some 37) (tk 43 103079215103) (take_ofW HT_.out HW_.out (by kernel_rfl)) hHeld ?_
  refine stepT 37 (some 40) (tk 43 240518168575) (take_ofW HT_.out HW_.out (by kernel_rfl)) hHeld ?_
  refine one_ (i := 35) (N := some 38) #[I, I, I, I, I, I, I, I, I, I, I, I, I, I, I, I, I, I, I, I, I, I, I, I, I, I, I, I, I, I, I, I, I, I, I, I, I, I, O, O, O, O, O] rfl rfl (one_of HT_.out (by kernel_rfl)) (by decide) (fun K hK => ?_)
  refine goes_ Try.func58 (by kernel_rfl) rfl #[.agg #[.int .i64 a0_0, .int .i64 a0_1, .int .i64 a0_2, .slice A0_3 l0_3.length c0_3]] (by rfl) rfl rfl (by (try simp only [List.map_toArray, List.map_cons, List.map_nil]); first | done | rfl | (simp only [List.length_drop, List.length_take]; rfl)) ?_
  with_reducible refine (impl_CostsOf.calls k a0_0 a0_1 a0_2 _ _ l0_3 t404 _ ?side1 ?side2 A12.out).mono ?_
  (case side1 => exact C_now HR0_3.out)
  (case side2 => exact HC0_3.out)
  rintro e w22 ⟨v405, rfl, ho0, hb⟩
  have HS10_ := (hb.cell (World.block_lt_of_cell? _ _ (hHeld.2.2.2.2.2.2.2.2.2.2.1))).trans (hHeld.2.2.2.2.2.2.2.2.2.2.1)
  have HS11_ := (hb.cell (World.block_lt_of_cell? _ _ (hHeld.2.2.2.2.2.2.2.2.2.2.2.1))).trans (hHeld.2.2.2.2.2.2.2.2.2.2.2.1)
  have HS12_ := (hb.cell (World.block_lt_of_cell? _ _ (hHeld.2.2.2.2.2.2.2.2.2.2.2.2))).trans (hHeld.2.2.2.2.2.2.2.2.2.2.2.2)
  refine ⟨_, rfl, ?_⟩
  have n1_ := Aside0.mk (Kd.R_lower ho0 (below_size bel_now))
  replace HO402 := Aside0.mk (Kd.R_below (R_at HO402.out) hb)
  replace BK396 := blk_on gb396 hb
  replace HB := bel_on w hb
  have HO406 := n1_
  clear n1_
  (try clear hb)
  (try clear ho0)
  obtain ⟨Ao24, co24, eo24⟩ := Kd.R_slice HO406.out
  (first | subst eo24 | (injection eo24 with f1_ f2_ f3_; have f4_ := f1_.symm; have f5_ := f3_.symm; clear f1_ f2_ f3_; subst f4_; subst f5_))
  have q23 : (a0_4 : Int) ≤ ((t404.length : Int) : Int) := of_decide_eq_true (by first | (with_reducible assumption) | assumption)
  obtain ⟨i023, hi023, _, hsz23, _⟩ := info_parts info3
  have hroom23 : t404.length ≤ co24 := (Kd.R_reads' HO406.out).2.1
  have hC23 : Kd.C (Kd.int .i64) _ Ao24 t404.length t404 := (Kd.R_reads' HO406.out).2.2
  have hcut23 := cut_to (P := Try.prog) 24 3 .i64 Try.underlying24 hi023 Ao24 t404.length co24 a0_4 (of_decide_eq_true (by first | (with_reducible assumption) | assumption)) q23 hroom23
  have hr23 := Kd.C_take (m := (a0_4 : Int).toNat) hC23 (by omega)
  have hy23 : y407.length = (a0_4 : Int).toNat := (by rw [Ny407.out, List.length_take]; omega)
  rw [← Ny407.out] at hr23
  rw [← hy23] at hcut23
  have HR410 := Aside0.mk hr23
  have HC410 := Aside0.mk (show y407.length ≤ co24 from by omega)
  clear hr23 hC23 hroom23 hi023 hsz23
  have KY23 := Aside0.mk hy23
  clear hy23
  have KL23 := Aside0.mk (show (a0_4 : Int).toNat ≤ t404.length from by omega)
  replace q23 := eq_true q23
  refine hK.out _ _ ⟨bc BK396 0, bc BK396 1, bc BK396 2, bc BK396 3, bc BK396 4, bc BK396 5, bc BK396 6, bc BK396 7, bc BK396 8, bc BK396 9, HS10_, HS11_, HS12_⟩ (fun hHeld => ?_)
  clear hK K
  refine normP 38 ?_
  refine stepP 38 (some 41) (tk 43 549755813887) (any_of HT_.out (by kernel_rfl)) ?_
  refine one_ (i := 39) (N := some 42) #[I, I, I, I, I, I, I, I, I, I, I, I, I, I, I, I, I, I, I, I, I, I, I, I, I, I, I, I, I, I, I, I, I, I, I, I, I, I, I, I, O, O, O] rfl rfl (one_of HT_.out (by kernel_rfl)) (by decide) (fun K hK => ?_)
  refine goes_ Try.func109 (by kernel_rfl) rfl #[.slice Ao24 y407.length co24] (by rfl) rfl rfl (by (try simp only [List.map_toArray, List.map_cons, List.map_nil]); first | done | rfl | (simp only [List.length_drop, List.length_take]; rfl)) ?_
  with_reducible refine (impl_sum.calls k _ _ y407 t411 _ ?side1 ?side2 A15.out).mono ?_
  (case side1 => repeat (first | exact (by repeat (first | (with_reducible exact HR410.out) | (with_reducible refine Kd.C_alloc ?_ _) | (with_reducible refine Kd.C_drewN ?_ _) | (with_reducible refine Kd.C_drew ?_) | exact HR410.out)) | (with_reducible refine Kd.C_alloc ?_ _) | (with_reducible refine Kd.C_drewN ?_ _) | (with_reducible refine Kd.C_drew ?_)))
  (case side2 => exact HC410.out)
  rintro e w' ⟨rfl, ⟨nd, rfl⟩⟩
  refine ⟨_, rfl, ?_⟩
  refine hK.out _ _ ⟨bc BK396 0, bc BK396 1, bc BK396 2, bc BK396 3, bc BK396 4, bc BK396 5, bc BK396 6, bc BK396 7, bc BK396 8, bc BK396 9, hHeld.2.2.2.2.2.2.2.2.2.2.1, hHeld.2.2.2.2.2.2.2.2.2.2.2.1, hHeld.2.2.2.2.2.2.2.2.2.2.2.2⟩ (fun hHeld => ?_)
  clear hK K
  refine normP 42 ?_
  refine stepP 40 (some 43) (tk 43 2199023255551) (any_of HT_.out (by kernel_rfl)) ?_
  refine stepP 41 (some 44) (tk 43 4398046511103) (any_of HT_.out (by kernel_rfl)) ?_
  refine stepP 42 (some 2) (tk 43 8796093022207) (any_of HT_.out (by kernel_rfl)) ?_
  refine done_ (done_of HT_.out (by kernel_rfl)) ?_
  try go_wp2
  go_ret
  exact ⟨eqN, bel_now⟩

end Go.Proofs.Ytclpojeofclbjaa.PFnExactLeftOf
