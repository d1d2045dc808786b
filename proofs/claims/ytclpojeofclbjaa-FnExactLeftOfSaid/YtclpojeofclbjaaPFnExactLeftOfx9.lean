-- Printed by the session's own program (wip/myprint.py) for this claim out of the translation. Not trusted: Lean checks it.
import Derived.Test.YtclpojeofclbjaaPFnExactLeftOfx0
import Derived.Test.YtclpojeofclbjaaPFnExactLeftOfx5
import Derived.Test.YtclpojeofclbjaaPFnExactLeftOfx6
namespace Go.Proofs.Ytclpojeofclbjaa.PFnExactLeftOf
open Go.RowKit Go.Proofs.YtclpojeofclbjaaW.PrintWords Go.Proofs.YtclpojeofclbjaaW.PrintLast Go.Proofs.YtclpojeofclbjaaW.PrintMore
attribute [local go_sem] max2_int min2_int max_two min_two max_three min_three max_four min_four   -- for this text's walks alone
set_option linter.unusedVariables false
set_option linter.unusedSimpArgs false

/-! ### spec_CostOf: function 34 -/
def spec_CostOf.f (k : Nat) (a0_0 : Int) (a0_1 : Int) (a0_2 : Int) (a1_0 : Int) (a1_1 : Int) (a1_2 : Int) (a1_3 : Int) (a1_4 : Int) (a1_5 : Int) (a1_6 : Int) (l1_7 : List Int) (l1_8 : List Int) : Option (Int) := (spec_OutShape.f k a0_0 a0_1 a0_2 a1_0 a1_1 a1_2 a1_3 a1_4 a1_5 a1_6 l1_7 l1_8).bind fun bt236 => (if bt236.2.2.2 = true then ((spec_SizeOf.f a0_0 a0_1 a0_2).bind fun t241 => (if a1_0 = 0 then ((spec_SizeOf.f bt236.1 bt236.2.1 bt236.2.2.1).bind fun t242 => ((spec_SizeOf.f a0_0 a0_1 a0_2).bind fun t243 => (some (wrap64 (1 + (wrap64 (Int.tdiv (wrap64 (t242 * t243)) 16))))))) else (if a1_0 = 1 then ((spec_SizeOf.f bt236.1 bt236.2.1 bt236.2.2.1).bind fun t244 => (some (wrap64 (1 + (wrap64 (Int.tdiv (wrap64 ((wrap64 ((wrap64 (t244 * a1_2)) * a1_2)) * a0_2)) 16)))))) else (if a1_0 = 2 then ((spec_SizeOf.f bt236.1 bt236.2.1 bt236.2.2.1).bind fun t245 => (some (wrap64 (1 + (wrap64 (Int.tdiv (wrap64 ((wrap64 (t245 * a1_2)) * a1_2)) 16)))))) else (if a1_0 = 3 then ((spec_SizeOf.f bt236.1 bt236.2.1 bt236.2.2.1).bind fun t246 => (some (wrap64 (1 + (wrap64 (Int.tdiv (wrap64 ((wrap64 (t246 * a1_2)) * a1_2)) 16)))))) else (some (wrap64 (1 + (wrap64 (Int.tdiv t241 16)))))))))) else (some 0))
def spec_CostOf.T9 : Bool × List (List Nat × List Nat) := (true, [([], []), ([0], [0]), ([], []), ([2], [2]), ([1, 3], [1, 3]), ([], []), ([5], [5]), ([4, 6], [4, 6]), ([], []), ([8], [8]), ([7, 9], [7, 9]), ([10, 1, 0, 1, 2, 3, 4, 5, 6, 7, 8, 9, 10], [10])])
def spec_CostOf.B9 : List Nat := [0, 1, 0, 4, 15, 0, 32, 127, 0, 256, 1023, 2047]
theorem spec_CostOf.tab9 : rtab .any (opsOf Try.f34 9) = spec_CostOf.T9 := by kernel_rfl
theorem spec_CostOf.bits9 : waitsOk spec_CostOf.T9.2 spec_CostOf.B9 = true := by kernel_rfl
def spec_CostOf.T12 : Bool × List (List Nat × List Nat) := (true, [([], []), ([0], [0]), ([], []), ([2], [2]), ([1, 3], [1, 3]), ([], []), ([5], [5]), ([4, 6], [4, 6]), ([7, 1, 0, 1, 2, 3, 4, 5, 6, 7], [7])])
def spec_CostOf.B12 : List Nat := [0, 1, 0, 4, 15, 0, 32, 127, 255]
theorem spec_CostOf.tab12 : rtab .any (opsOf Try.f34 12) = spec_CostOf.T12 := by kernel_rfl
theorem spec_CostOf.bits12 : waitsOk spec_CostOf.T12.2 spec_CostOf.B12 = true := by kernel_rfl
set_option maxHeartbeats 8000000 in
set_option maxRecDepth 100000 in
theorem spec_CostOf.calls (k : Nat) (a0_0 : Int) (a0_1 : Int) (a0_2 : Int) (a1_0 : Int) (a1_1 : Int) (a1_2 : Int) (a1_3 : Int) (a1_4 : Int) (a1_5 : Int) (a1_6 : Int) (A1_7 : Option Addr) (c1_7 : Nat) (l1_7 : List Int) (A1_8 : Option Addr) (c1_8 : Nat) (l1_8 : List Int) (r : Int) (w : World) (hr1_7 : Kd.C (Kd.int .i64) w A1_7 l1_7.length l1_7) (hc1_7 : l1_7.length ≤ c1_7) (hr1_8 : Kd.C (Kd.int .i64) w A1_8 l1_8.length l1_8) (hc1_8 : l1_8.length ≤ c1_8) (h : spec_CostOf.f k a0_0 a0_1 a0_2 a1_0 a1_1 a1_2 a1_3 a1_4 a1_5 a1_6 l1_7 l1_8 = some r) :
   Calls Try.prog 34 #[.agg #[.int .i64 a0_0, .int .i64 a0_1, .int .i64 a0_2], .agg #[.int .i64 a1_0, .int .i64 a1_1, .int .i64 a1_2, .int .i64 a1_3, .int .i64 a1_4, .int .i64 a1_5, .int .i64 a1_6, .slice A1_7 l1_7.length c1_7, .slice A1_8 l1_8.length c1_8]] w fun e w' => e = .returned (.int .i64 r) ∧ Below w.heap.size w w' := by
  have hu31 := Try.underlying31
  have hu37 := Try.underlying37
  have HR1_7 := Aside0.mk hr1_7
  have HC1_7 := Aside0.mk hc1_7
  clear hr1_7 hc1_7
  have HR1_8 := Aside0.mk hr1_8
  have HC1_8 := Aside0.mk hc1_8
  clear hr1_8 hc1_8
  have HB := Aside0.mk (Below.refl w.heap.size w)
  have H : ((spec_OutShape.f k a0_0 a0_1 a0_2 a1_0 a1_1 a1_2 a1_3 a1_4 a1_5 a1_6 l1_7 l1_8).bind fun bt236 => (if bt236.2.2.2 = true then ((spec_SizeOf.f a0_0 a0_1 a0_2).bind fun t241 => (if a1_0 = 0 then ((spec_SizeOf.f bt236.1 bt236.2.1 bt236.2.2.1).bind fun t242 => ((spec_SizeOf.f a0_0 a0_1 a0_2).bind fun t243 => (some (wrap64 (1 + (wrap64 (Int.tdiv (wrap64 (t242 * t243)) 16))))))) else (if a1_0 = 1 then ((spec_SizeOf.f bt236.1 bt236.2.1 bt236.2.2.1).bind fun t244 => (some (wrap64 (1 + (wrap64 (Int.tdiv (wrap64 ((wrap64 ((wrap64 (t244 * a1_2)) * a1_2)) * a0_2)) 16)))))) else (if a1_0 = 2 then ((spec_SizeOf.f bt236.1 bt236.2.1 bt236.2.2.1).bind fun t245 => (some (wrap64 (1 + (wrap64 (Int.tdiv (wrap64 ((wrap64 (t245 * a1_2)) * a1_2)) 16)))))) else (if a1_0 = 3 then ((spec_SizeOf.f bt236.1 bt236.2.1 bt236.2.2.1).bind fun t246 => (some (wrap64 (1 + (wrap64 (Int.tdiv (wrap64 ((wrap64 (t246 * a1_2)) * a1_2)) 16)))))) else (some (wrap64 (1 + (wrap64 (Int.tdiv t241 16)))))))))) else (some 0))) = some r := h
  clear h
  replace H := Option.bind_eq_some_iff.mp H
  obtain ⟨⟨t236, t237, t238, t239⟩, A30, H⟩ := H
  (try dsimp only at H)
  have A3 := Aside0.mk A30
  clear A30
  by_cases c4 : t239 = true
  rotate_left
  ·replace c4 := Bool.eq_false_iff.mpr c4
   subst c4
   rw [if_neg (show ¬ (false = true) by decide)] at H
   obtain rfl := Option.some.inj H
   go_enter Try.func34, Try.ntmps34
   go_wp2_with (first | ((with_reducible refine gate_dst (N := 2) rfl ?_); refine boxM 2 #[.int .i64 a0_0, .int .i64 a0_1, .int .i64 a0_2] 31 ?_; intro gb234 hg w89 BK234 hb; replace HB := box_at w hb hg; obtain ⟨HB, GW234, GE234⟩ := HB; clear hb hg) | ((with_reducible refine gate_dst (N := 3) rfl ?_); refine boxM 3 #[.int .i64 a1_0, .int .i64 a1_1, .int .i64 a1_2, .int .i64 a1_3, .int .i64 a1_4, .int .i64 a1_5, .int .i64 a1_6, .slice A1_7 l1_7.length c1_7, .slice A1_8 l1_8.length c1_8] 37 ?_; intro gb235 hg w90 BK235 hb; replace HB := box_at w hb hg; obtain ⟨HB, GW235, GE235⟩ := HB; replace BK234 := box_on gb234 hb hg; obtain ⟨BK234, NB234_235, NB235_234⟩ := BK234; clear hb hg; have hn91 := ne2 NB234_235; have hcz92 := cells3 BK234.out; have hcz93 := cells9 BK235.out) | ((with_reducible refine gate_callee (f := 48) rfl ?_); refine goesM (some 11) rfl rfl Try.func48 (by kernel_rfl) rfl #[.agg #[.int .i64 a0_0, .int .i64 a0_1, .int .i64 a0_2], .agg #[.int .i64 a1_0, .int .i64 a1_1, .int .i64 a1_2, .int .i64 a1_3, .int .i64 a1_4, .int .i64 a1_5, .int .i64 a1_6, .slice A1_7 l1_7.length c1_7, .slice A1_8 l1_8.length c1_8]] rfl ?_; (with_reducible refine (spec_OutShape.calls k a0_0 a0_1 a0_2 a1_0 a1_1 a1_2 a1_3 a1_4 a1_5 a1_6 _ _ l1_7 _ _ l1_8 t236 t237 t238 false _ ?side1 ?side2 ?side3 ?side4 A3.out).mono ?_); (case side1 => exact C_now HR1_7.out); (case side2 => exact HC1_7.out); (case side3 => exact C_now HR1_8.out); (case side4 => exact HC1_8.out); rintro e w94 ⟨rfl, hb⟩; refine ⟨_, rfl, ?_⟩; replace HB := bel_on w hb; replace BK234 := blk_on gb234 hb; replace BK235 := blk_on gb235 hb; (try clear hb)) | ((with_reducible refine gate_dst (N := 5) rfl ?_); refine boxM 5 #[.int .i64 0, .int .i64 0, .int .i64 0] 31 ?_; intro gb240 hg w95 BK240 hb; replace HB := box_at w hb hg; obtain ⟨HB, GW240, GE240⟩ := HB; replace BK234 := box_on gb234 hb hg; obtain ⟨BK234, NB234_240, NB240_234⟩ := BK234; replace BK235 := box_on gb235 hb hg; obtain ⟨BK235, NB235_240, NB240_235⟩ := BK235; clear hb hg; have hn96 := ne2 NB240_234; have hn97 := ne2 NB240_235; have hcz98 := cells3 BK240.out))
   go_ret
   exact ⟨eqN, bel_now⟩
  subst c4
  rw [if_pos rfl] at H
  replace H := Option.bind_eq_some_iff.mp H
  obtain ⟨t241, A50, H⟩ := H
  (try dsimp only at H)
  have A5 := Aside0.mk A50
  clear A50
  by_cases c6 : a1_0 = 0
  ·rw [if_pos c6] at H
   have c6b0 : (a1_0 == 0) = true := beq_iff_eq.mpr c6
   have c6b1 : (a1_0 != 0) = false := bne_eq_false_iff_eq.mpr c6
   clear c6
   replace H := Option.bind_eq_some_iff.mp H
   obtain ⟨t242, A70, H⟩ := H
   (try dsimp only at H)
   have A7 := Aside0.mk A70
   clear A70
   replace H := Option.bind_eq_some_iff.mp H
   obtain ⟨t243, A80, H⟩ := H
   (try dsimp only at H)
   have A8 := Aside0.mk A80
   clear A80
   obtain rfl := Option.some.inj H
   go_enter Try.func34, Try.ntmps34
   try go_wp2_with (first | ((with_reducible refine gate_dst (N := 2) rfl ?_); refine boxM 2 #[.int .i64 a0_0, .int .i64 a0_1, .int .i64 a0_2] 31 ?_; intro gb234 hg w9 BK234 hb; replace HB := box_at w hb hg; obtain ⟨HB, GW234, GE234⟩ := HB; clear hb hg) | ((with_reducible refine gate_dst (N := 3) rfl ?_); refine boxM 3 #[.int .i64 a1_0, .int .i64 a1_1, .int .i64 a1_2, .int .i64 a1_3, .int .i64 a1_4, .int .i64 a1_5, .int .i64 a1_6, .slice A1_7 l1_7.length c1_7, .slice A1_8 l1_8.length c1_8] 37 ?_; intro gb235 hg w10 BK235 hb; replace HB := box_at w hb hg; obtain ⟨HB, GW235, GE235⟩ := HB; replace BK234 := box_on gb234 hb hg; obtain ⟨BK234, NB234_235, NB235_234⟩ := BK234; clear hb hg; have hn11 := ne2 NB234_235; have hcz12 := cells3 BK234.out; have hcz13 := cells9 BK235.out) | ((with_reducible refine gate_callee (f := 48) rfl ?_); refine goesM (some 11) rfl rfl Try.func48 (by kernel_rfl) rfl #[.agg #[.int .i64 a0_0, .int .i64 a0_1, .int .i64 a0_2], .agg #[.int .i64 a1_0, .int .i64 a1_1, .int .i64 a1_2, .int .i64 a1_3, .int .i64 a1_4, .int .i64 a1_5, .int .i64 a1_6, .slice A1_7 l1_7.length c1_7, .slice A1_8 l1_8.length c1_8]] rfl ?_; (with_reducible refine (spec_OutShape.calls k a0_0 a0_1 a0_2 a1_0 a1_1 a1_2 a1_3 a1_4 a1_5 a1_6 _ _ l1_7 _ _ l1_8 t236 t237 t238 true _ ?side1 ?side2 ?side3 ?side4 A3.out).mono ?_); (case side1 => exact C_now HR1_7.out); (case side2 => exact HC1_7.out); (case side3 => exact C_now HR1_8.out); (case side4 => exact HC1_8.out); rintro e w14 ⟨rfl, hb⟩; refine ⟨_, rfl, ?_⟩; replace HB := bel_on w hb; replace BK234 := blk_on gb234 hb; replace BK235 := blk_on gb235 hb; (try clear hb)) | ((with_reducible refine gate_dst (N := 5) rfl ?_); refine boxM 5 #[.int .i64 0, .int .i64 0, .int .i64 0] 31 ?_; intro gb240 hg w15 BK240 hb; replace HB := box_at w hb hg; obtain ⟨HB, GW240, GE240⟩ := HB; replace BK234 := box_on gb234 hb hg; obtain ⟨BK234, NB234_240, NB240_234⟩ := BK234; replace BK235 := box_on gb235 hb hg; obtain ⟨BK235, NB235_240, NB240_235⟩ := BK235; clear hb hg; have hn16 := ne2 NB240_234; have hn17 := ne2 NB240_235; have hcz18 := cells3 BK240.out; have hcz19 := cells3 BK234.out) | ((with_reducible refine gate_callee (f := 73) rfl ?_); refine goesM (some 17) rfl rfl Try.func73 (by kernel_rfl) rfl #[.agg #[.int .i64 a0_0, .int .i64 a0_1, .int .i64 a0_2]] rfl ?_; (with_reducible refine (spec_SizeOf.calls a0_0 a0_1 a0_2 t241 _ A5.out).mono ?_); rintro e w20 ⟨rfl, hb⟩; refine ⟨_, rfl, ?_⟩; replace HB := bel_on w hb; replace BK234 := Aside0.mk (blk_below (g := gb234) (o := .cells #[.int .i64 a0_0, .int .i64 a0_1, .int .i64 a0_2] 31 (0, 0)) (blk_fars BK234.out) hb); replace BK235 := Aside0.mk (blk_below (g := gb235) (o := .cells #[.int .i64 a1_0, .int .i64 a1_1, .int .i64 a1_2, .int .i64 a1_3, .int .i64 a1_4, .int .i64 a1_5, .int .i64 a1_6, .slice A1_7 l1_7.length c1_7, .slice A1_8 l1_8.length c1_8] 37 (0, 0)) (blk_fars BK235.out) hb); replace BK240 := Aside0.mk (blk_below (g := gb240) (o := .cells #[.int .i64 t236, .int .i64 t237, .int .i64 t238] 31 (0, 0)) (blk_fars (puts3 BK240.out)) hb); (try clear hb); have hcz21 := cells9 BK235.out))
   replace BK234 := Aside0.mk (blk_drew BK234.out)
   replace BK235 := Aside0.mk (blk_drew BK235.out)
   replace BK240 := Aside0.mk (blk_drew BK240.out)
   replace HB := Aside0.mk (below_drew1 HB.out)
   refine start_ (n := 6) (S := fun w' => w'.cell? ⟨gb240, 0, none⟩ = some (.int .i64 t236) ∧ w'.cell? ⟨gb240, 1, none⟩ = some (.int .i64 t237) ∧ w'.cell? ⟨gb240, 2, none⟩ = some (.int .i64 t238) ∧ w'.cell? ⟨gb234, 0, none⟩ = some (.int .i64 a0_0) ∧ w'.cell? ⟨gb234, 1, none⟩ = some (.int .i64 a0_1) ∧ w'.cell? ⟨gb234, 2, none⟩ = some (.int .i64 a0_2)) (ds := []) #[O, O, O, O, O, O] (by kernel_rfl) rfl rfl ⟨bc BK240 0, bc BK240 1, bc BK240 2, bc BK234 0, bc BK234 1, bc BK234 2⟩ (fun hHeld => ?_)
   generalize w20.drew = w22 at BK234 BK235 BK240 HB hHeld ⊢
   refine stepT 0 (some 22) (tk 6 1) (by kernel_rfl) hHeld ?_
   refine stepT 2 (some 24) (tk 6 5) (by kernel_rfl) hHeld ?_
   refine one_ (i := 1) (N := some 23) #[I, I, I, O, O, O] rfl rfl (by kernel_rfl) (by decide) (fun K hK => ?_)
   refine goes_ Try.func73 (by kernel_rfl) rfl #[.agg #[.int .i64 t236, .int .i64 t237, .int .i64 t238]] (by rfl) rfl rfl (by (try simp only [List.map_toArray, List.map_cons, List.map_nil]); first | done | rfl | (simp only [List.length_drop, List.length_take]; rfl)) ?_
   with_reducible refine (spec_SizeOf.calls t236 t237 t238 t242 _ A7.out).mono ?_
   rintro e w23 ⟨rfl, hb⟩
   refine ⟨_, rfl, ?_⟩
   replace BK234 := blk_on gb234 hb
   replace BK235 := blk_on gb235 hb
   replace BK240 := blk_on gb240 hb
   replace HB := bel_on w hb
   (try clear hb)
   refine hK.out _ _ ⟨bc BK240 0, bc BK240 1, bc BK240 2, bc BK234 0, bc BK234 1, bc BK234 2⟩ (fun hHeld => ?_)
   clear hK K
   refine normP 23 ?_
   refine one_ (i := 3) (N := some 25) #[I, I, I, I, O, O] rfl rfl (by kernel_rfl) (by decide) (fun K hK => ?_)
   refine goes_ Try.func73 (by kernel_rfl) rfl #[.agg #[.int .i64 a0_0, .int .i64 a0_1, .int .i64 a0_2]] (by rfl) rfl rfl (by (try simp only [List.map_toArray, List.map_cons, List.map_nil]); first | done | rfl | (simp only [List.length_drop, List.length_take]; rfl)) ?_
   with_reducible refine (spec_SizeOf.calls a0_0 a0_1 a0_2 t243 _ A8.out).mono ?_
   rintro e w24 ⟨rfl, hb⟩
   refine ⟨_, rfl, ?_⟩
   replace BK234 := blk_on gb234 hb
   replace BK235 := blk_on gb235 hb
   replace BK240 := blk_on gb240 hb
   replace HB := bel_on w hb
   (try clear hb)
   refine hK.out _ _ ⟨bc BK240 0, bc BK240 1, bc BK240 2, bc BK234 0, bc BK234 1, bc BK234 2⟩ (fun hHeld => ?_)
   clear hK K
   refine normP 25 ?_
   refine stepP 4 (some 26) (tk 6 31) (by kernel_rfl) ?_
   refine stepP 5 (some 7) (tk 6 63) (by kernel_rfl) ?_
   refine done_ (by kernel_rfl) ?_
   try go_wp2
   go_ret
   exact ⟨eqN, bel_now⟩
  rw [if_neg c6] at H
  have c6b0 : (a1_0 == 0) = false := beq_eq_false_iff_ne.mpr c6
  have c6b1 : (a1_0 != 0) = true := bne_iff_ne.mpr c6
  by_cases c25 : a1_0 = 1
  ·rw [if_pos c25] at H
   have c25b0 : (a1_0 == 1) = true := beq_iff_eq.mpr c25
   have c25b1 : (a1_0 != 1) = false := bne_eq_false_iff_eq.mpr c25
   clear c25
   replace H := Option.bind_eq_some_iff.mp H
   obtain ⟨t244, A260, H⟩ := H
   (try dsimp only at H)
   have A26 := Aside0.mk A260
   clear A260
   obtain rfl := Option.some.inj H
   go_enter Try.func34, Try.ntmps34
   try go_wp2_with (first | ((with_reducible refine gate_dst (N := 2) rfl ?_); refine boxM 2 #[.int .i64 a0_0, .int .i64 a0_1, .int .i64 a0_2] 31 ?_; intro gb234 hg w27 BK234 hb; replace HB := box_at w hb hg; obtain ⟨HB, GW234, GE234⟩ := HB; clear hb hg) | ((with_reducible refine gate_dst (N := 3) rfl ?_); refine boxM 3 #[.int .i64 a1_0, .int .i64 a1_1, .int .i64 a1_2, .int .i64 a1_3, .int .i64 a1_4, .int .i64 a1_5, .int .i64 a1_6, .slice A1_7 l1_7.length c1_7, .slice A1_8 l1_8.length c1_8] 37 ?_; intro gb235 hg w28 BK235 hb; replace HB := box_at w hb hg; obtain ⟨HB, GW235, GE235⟩ := HB; replace BK234 := box_on gb234 hb hg; obtain ⟨BK234, NB234_235, NB235_234⟩ := BK234; clear hb hg; have hn29 := ne2 NB234_235; have hcz30 := cells3 BK234.out; have hcz31 := cells9 BK235.out) | ((with_reducible refine gate_callee (f := 48) rfl ?_); refine goesM (some 11) rfl rfl Try.func48 (by kernel_rfl) rfl #[.agg #[.int .i64 a0_0, .int .i64 a0_1, .int .i64 a0_2], .agg #[.int .i64 a1_0, .int .i64 a1_1, .int .i64 a1_2, .int .i64 a1_3, .int .i64 a1_4, .int .i64 a1_5, .int .i64 a1_6, .slice A1_7 l1_7.length c1_7, .slice A1_8 l1_8.length c1_8]] rfl ?_; (with_reducible refine (spec_OutShape.calls k a0_0 a0_1 a0_2 a1_0 a1_1 a1_2 a1_3 a1_4 a1_5 a1_6 _ _ l1_7 _ _ l1_8 t236 t237 t238 true _ ?side1 ?side2 ?side3 ?side4 A3.out).mono ?_); (case side1 => exact C_now HR1_7.out); (case side2 => exact HC1_7.out); (case side3 => exact C_now HR1_8.out); (case side4 => exact HC1_8.out); rintro e w32 ⟨rfl, hb⟩; refine ⟨_, rfl, ?_⟩; replace HB := bel_on w hb; replace BK234 := blk_on gb234 hb; replace BK235 := blk_on gb235 hb; (try clear hb)) | ((with_reducible refine gate_dst (N := 5) rfl ?_); refine boxM 5 #[.int .i64 0, .int .i64 0, .int .i64 0] 31 ?_; intro gb240 hg w33 BK240 hb; replace HB := box_at w hb hg; obtain ⟨HB, GW240, GE240⟩ := HB; replace BK234 := box_on gb234 hb hg; obtain ⟨BK234, NB234_240, NB240_234⟩ := BK234; replace BK235 := box_on gb235 hb hg; obtain ⟨BK235, NB235_240, NB240_235⟩ := BK235; clear hb hg; have hn34 := ne2 NB240_234; have hn35 := ne2 NB240_235; have hcz36 := cells3 BK240.out; have hcz37 := cells3 BK234.out) | ((with_reducible refine gate_callee (f := 73) rfl ?_); refine goesM (some 17) rfl rfl Try.func73 (by kernel_rfl) rfl #[.agg #[.int .i64 a0_0, .int .i64 a0_1, .int .i64 a0_2]] rfl ?_; (with_reducible refine (spec_SizeOf.calls a0_0 a0_1 a0_2 t241 _ A5.out).mono ?_); rintro e w38 ⟨rfl, hb⟩; refine ⟨_, rfl, ?_⟩; replace HB := bel_on w hb; replace BK234 := Aside0.mk (blk_below (g := gb234) (o := .cells #[.int .i64 a0_0, .int .i64 a0_1, .int .i64 a0_2] 31 (0, 0)) (blk_fars BK234.out) hb); replace BK235 := Aside0.mk (blk_below (g := gb235) (o := .cells #[.int .i64 a1_0, .int .i64 a1_1, .int .i64 a1_2, .int .i64 a1_3, .int .i64 a1_4, .int .i64 a1_5, .int .i64 a1_6, .slice A1_7 l1_7.length c1_7, .slice A1_8 l1_8.length c1_8] 37 (0, 0)) (blk_fars BK235.out) hb); replace BK240 := Aside0.mk (blk_below (g := gb240) (o := .cells #[.int .i64 t236, .int .i64 t237, .int .i64 t238] 31 (0, 0)) (blk_fars (puts3 BK240.out)) hb); (try clear hb); have hcz39 := cells9 BK235.out))
   replace BK234 := Aside0.mk (blk_drew BK234.out)
   replace BK235 := Aside0.mk (blk_drew BK235.out)
   replace BK240 := Aside0.mk (blk_drew BK240.out)
   replace HB := Aside0.mk (below_drew1 HB.out)
   refine start_ (n := 12) (S := fun w' => w'.cell? ⟨gb240, 0, none⟩ = some (.int .i64 t236) ∧ w'.cell? ⟨gb240, 1, none⟩ = some (.int .i64 t237) ∧ w'.cell? ⟨gb240, 2, none⟩ = some (.int .i64 t238) ∧ w'.cell? ⟨gb235, 0, none⟩ = some (.int .i64 a1_0) ∧ w'.cell? ⟨gb235, 1, none⟩ = some (.int .i64 a1_1) ∧ w'.cell? ⟨gb235, 2, none⟩ = some (.int .i64 a1_2) ∧ w'.cell? ⟨gb235, 3, none⟩ = some (.int .i64 a1_3) ∧ w'.cell? ⟨gb235, 4, none⟩ = some (.int .i64 a1_4) ∧ w'.cell? ⟨gb235, 5, none⟩ = some (.int .i64 a1_5) ∧ w'.cell? ⟨gb235, 6, none⟩ = some (.int .i64 a1_6) ∧ w'.cell? ⟨gb235, 7, none⟩ = some (.slice A1_7 l1_7.length c1_7) ∧ w'.cell? ⟨gb235, 8, none⟩ = some (.slice A1_8 l1_8.length c1_8) ∧ w'.cell? ⟨gb234, 0, none⟩ = some (.int .i64 a0_0) ∧ w'.cell? ⟨gb234, 1, none⟩ = some (.int .i64 a0_1) ∧ w'.cell? ⟨gb234, 2, none⟩ = some (.int .i64 a0_2)) (ds := []) #[O, O, O, O, O, O, O, O, O, O, O, O] (by kernel_rfl) rfl rfl ⟨bc BK240 0, bc BK240 1, bc BK240 2, bc BK235 0, bc BK235 1, bc BK235 2, bc BK235 3, bc BK235 4, bc BK235 5, bc BK235 6, bc BK235 7, bc BK235 8, bc BK234 0, bc BK234 1, bc BK234 2⟩ (fun hHeld => ?_); refine with_tabW spec_CostOf.tab9 spec_CostOf.bits9 (fun HT_ HW_ => ?_)
   generalize w38.drew = w40 at BK234 BK235 BK240 HB hHeld ⊢
   refine stepP 2 (some 31) (tk 12 4) (any_of HT_.out (by kernel_rfl)) ?_
   refine stepP 5 (some 34) (tk 12 36) (any_of HT_.out (by kernel_rfl)) ?_
   refine stepP 8 (some 37) (tk 12 292) (any_of HT_.out (by kernel_rfl)) ?_
   refine stepT 0 (some 29) (tk 12 293) (take_ofW HT_.out HW_.out (by kernel_rfl)) hHeld ?_
   refine stepT 3 (some 32) (tk 12 301) (take_ofW HT_.out HW_.out (by kernel_rfl)) hHeld ?_
   refine stepT 6 (some 35) (tk 12 365) (take_ofW HT_.out HW_.out (by kernel_rfl)) hHeld ?_
   refine stepT 9 (some 38) (tk 12 877) (take_ofW HT_.out HW_.out (by kernel_rfl)) hHeld ?_
   refine one_ (i := 1) (N := some 30) #[I, I, I, I, O, I, I, O, I, I, O, O] rfl rfl (one_of HT_.out (by kernel_rfl)) (by decide) (fun K hK => ?_)
   refine goes_ Try.func73 (by kernel_rfl) rfl #[.agg #[.int .i64 t236, .int .i64 t237, .int .i64 t238]] (by rfl) rfl rfl (by (try simp only [List.map_toArray, List.map_cons, List.map_nil]); first | done | rfl | (simp only [List.length_drop, List.length_take]; rfl)) ?_
   with_reducible refine (spec_SizeOf.calls t236 t237 t238 t244 _ A26.out).mono ?_
   rintro e w41 ⟨rfl, hb⟩
   refine ⟨_, rfl, ?_⟩
   replace BK234 := blk_on gb234 hb
   replace BK235 := blk_on gb235 hb
   replace BK240 := blk_on gb240 hb
   replace HB := bel_on w hb
   (try clear hb)
   refine hK.out _ _ ⟨bc BK240 0, bc BK240 1, bc BK240 2, bc BK235 0, bc BK235 1, bc BK235 2, bc BK235 3, bc BK235 4, bc BK235 5, bc BK235 6, bc BK235 7, bc BK235 8, bc BK234 0, bc BK234 1, bc BK234 2⟩ (fun hHeld => ?_)
   clear hK K
   refine normP 30 ?_
   refine stepP 4 (some 33) (tk 12 895) (any_of HT_.out (by kernel_rfl)) ?_
   refine stepP 7 (some 36) (tk 12 1023) (any_of HT_.out (by kernel_rfl)) ?_
   refine stepP 10 (some 39) (tk 12 2047) (any_of HT_.out (by kernel_rfl)) ?_
   refine stepP 11 (some 7) (tk 12 4095) (any_of HT_.out (by kernel_rfl)) ?_
   refine done_ (done_of HT_.out (by kernel_rfl)) ?_
   try go_wp2
   go_ret
   exact ⟨eqN, bel_now⟩
  rw [if_neg c25] at H
  have c25b0 : (a1_0 == 1) = false := beq_eq_false_iff_ne.mpr c25
  have c25b1 : (a1_0 != 1) = true := bne_iff_ne.mpr c25
  by_cases c42 : a1_0 = 2
  ·rw [if_pos c42] at H
   have c42b0 : (a1_0 == 2) = true := beq_iff_eq.mpr c42
   have c42b1 : (a1_0 != 2) = false := bne_eq_false_iff_eq.mpr c42
   clear c42
   replace H := Option.bind_eq_some_iff.mp H
   obtain ⟨t245, A430, H⟩ := H
   (try dsimp only at H)
   have A43 := Aside0.mk A430
   clear A430
   obtain rfl := Option.some.inj H
   go_enter Try.func34, Try.ntmps34
   try go_wp2_with (first | ((with_reducible refine gate_dst (N := 2) rfl ?_); refine boxM 2 #[.int .i64 a0_0, .int .i64 a0_1, .int .i64 a0_2] 31 ?_; intro gb234 hg w44 BK234 hb; replace HB := box_at w hb hg; obtain ⟨HB, GW234, GE234⟩ := HB; clear hb hg) | ((with_reducible refine gate_dst (N := 3) rfl ?_); refine boxM 3 #[.int .i64 a1_0, .int .i64 a1_1, .int .i64 a1_2, .int .i64 a1_3, .int .i64 a1_4, .int .i64 a1_5, .int .i64 a1_6, .slice A1_7 l1_7.length c1_7, .slice A1_8 l1_8.length c1_8] 37 ?_; intro gb235 hg w45 BK235 hb; replace HB := box_at w hb hg; obtain ⟨HB, GW235, GE235⟩ := HB; replace BK234 := box_on gb234 hb hg; obtain ⟨BK234, NB234_235, NB235_234⟩ := BK234; clear hb hg; have hn46 := ne2 NB234_235; have hcz47 := cells3 BK234.out; have hcz48 := cells9 BK235.out) | ((with_reducible refine gate_callee (f := 48) rfl ?_); refine goesM (some 11) rfl rfl Try.func48 (by kernel_rfl) rfl #[.agg #[.int .i64 a0_0, .int .i64 a0_1, .int .i64 a0_2], .agg #[.int .i64 a1_0, .int .i64 a1_1, .int .i64 a1_2, .int .i64 a1_3, .int .i64 a1_4, .int .i64 a1_5, .int .i64 a1_6, .slice A1_7 l1_7.length c1_7, .slice A1_8 l1_8.length c1_8]] rfl ?_; (with_reducible refine (spec_OutShape.calls k a0_0 a0_1 a0_2 a1_0 a1_1 a1_2 a1_3 a1_4 a1_5 a1_6 _ _ l1_7 _ _ l1_8 t236 t237 t238 true _ ?side1 ?side2 ?side3 ?side4 A3.out).mono ?_); (case side1 => exact C_now HR1_7.out); (case side2 => exact HC1_7.out); (case side3 => exact C_now HR1_8.out); (case side4 => exact HC1_8.out); rintro e w49 ⟨rfl, hb⟩; refine ⟨_, rfl, ?_⟩; replace HB := bel_on w hb; replace BK234 := blk_on gb234 hb; replace BK235 := blk_on gb235 hb; (try clear hb)) | ((with_reducible refine gate_dst (N := 5) rfl ?_); refine boxM 5 #[.int .i64 0, .int .i64 0, .int .i64 0] 31 ?_; intro gb240 hg w50 BK240 hb; replace HB := box_at w hb hg; obtain ⟨HB, GW240, GE240⟩ := HB; replace BK234 := box_on gb234 hb hg; obtain ⟨BK234, NB234_240, NB240_234⟩ := BK234; replace BK235 := box_on gb235 hb hg; obtain ⟨BK235, NB235_240, NB240_235⟩ := BK235; clear hb hg; have hn51 := ne2 NB240_234; have hn52 := ne2 NB240_235; have hcz53 := cells3 BK240.out; have hcz54 := cells3 BK234.out) | ((with_reducible refine gate_callee (f := 73) rfl ?_); refine goesM (some 17) rfl rfl Try.func73 (by kernel_rfl) rfl #[.agg #[.int .i64 a0_0, .int .i64 a0_1, .int .i64 a0_2]] rfl ?_; (with_reducible refine (spec_SizeOf.calls a0_0 a0_1 a0_2 t241 _ A5.out).mono ?_); rintro e w55 ⟨rfl, hb⟩; refine ⟨_, rfl, ?_⟩; replace HB := bel_on w hb; replace BK234 := Aside0.mk (blk_below (g := gb234) (o := .cells #[.int .i64 a0_0, .int .i64 a0_1, .int .i64 a0_2] 31 (0, 0)) (blk_fars BK234.out) hb); replace BK235 := Aside0.mk (blk_below (g := gb235) (o := .cells #[.int .i64 a1_0, .int .i64 a1_1, .int .i64 a1_2, .int .i64 a1_3, .int .i64 a1_4, .int .i64 a1_5, .int .i64 a1_6, .slice A1_7 l1_7.length c1_7, .slice A1_8 l1_8.length c1_8] 37 (0, 0)) (blk_fars BK235.out) hb); replace BK240 := Aside0.mk (blk_below (g := gb240) (o := .cells #[.int .i64 t236, .int .i64 t237, .int .i64 t238] 31 (0, 0)) (blk_fars (puts3 BK240.out)) hb); (try clear hb); have hcz56 := cells9 BK235.out))
   replace BK234 := Aside0.mk (blk_drew BK234.out)
   replace BK235 := Aside0.mk (blk_drew BK235.out)
   replace BK240 := Aside0.mk (blk_drew BK240.out)
   replace HB := Aside0.mk (below_drew1 HB.out)
   refine start_ (n := 9) (S := fun w' => w'.cell? ⟨gb240, 0, none⟩ = some (.int .i64 t236) ∧ w'.cell? ⟨gb240, 1, none⟩ = some (.int .i64 t237) ∧ w'.cell? ⟨gb240, 2, none⟩ = some (.int .i64 t238) ∧ w'.cell? ⟨gb235, 0, none⟩ = some (.int .i64 a1_0) ∧ w'.cell? ⟨gb235, 1, none⟩ = some (.int .i64 a1_1) ∧ w'.cell? ⟨gb235, 2, none⟩ = some (.int .i64 a1_2) ∧ w'.cell? ⟨gb235, 3, none⟩ = some (.int .i64 a1_3) ∧ w'.cell? ⟨gb235, 4, none⟩ = some (.int .i64 a1_4) ∧ w'.cell? ⟨gb235, 5, none⟩ = some (.int .i64 a1_5) ∧ w'.cell? ⟨gb235, 6, none⟩ = some (.int .i64 a1_6) ∧ w'.cell? ⟨gb235, 7, none⟩ = some (.slice A1_7 l1_7.length c1_7) ∧ w'.cell? ⟨gb235, 8, none⟩ = some (.slice A1_8 l1_8.length c1_8)) (ds := []) #[O, O, O, O, O, O, O, O, O] (by kernel_rfl) rfl rfl ⟨bc BK240 0, bc BK240 1, bc BK240 2, bc BK235 0, bc BK235 1, bc BK235 2, bc BK235 3, bc BK235 4, bc BK235 5, bc BK235 6, bc BK235 7, bc BK235 8⟩ (fun hHeld => ?_); refine with_tabW spec_CostOf.tab12 spec_CostOf.bits12 (fun HT_ HW_ => ?_)
   generalize w55.drew = w57 at BK234 BK235 BK240 HB hHeld ⊢
   refine stepP 2 (some 45) (tk 9 4) (any_of HT_.out (by kernel_rfl)) ?_
   refine stepP 5 (some 48) (tk 9 36) (any_of HT_.out (by kernel_rfl)) ?_
   refine stepT 0 (some 43) (tk 9 37) (take_ofW HT_.out HW_.out (by kernel_rfl)) hHeld ?_
   refine stepT 3 (some 46) (tk 9 45) (take_ofW HT_.out HW_.out (by kernel_rfl)) hHeld ?_
   refine stepT 6 (some 49) (tk 9 109) (take_ofW HT_.out HW_.out (by kernel_rfl)) hHeld ?_
   refine one_ (i := 1) (N := some 44) #[I, I, I, I, O, I, I, O, O] rfl rfl (one_of HT_.out (by kernel_rfl)) (by decide) (fun K hK => ?_)
   refine goes_ Try.func73 (by kernel_rfl) rfl #[.agg #[.int .i64 t236, .int .i64 t237, .int .i64 t238]] (by rfl) rfl rfl (by (try simp only [List.map_toArray, List.map_cons, List.map_nil]); first | done | rfl | (simp only [List.length_drop, List.length_take]; rfl)) ?_
   with_reducible refine (spec_SizeOf.calls t236 t237 t238 t245 _ A43.out).mono ?_
   rintro e w58 ⟨rfl, hb⟩
   refine ⟨_, rfl, ?_⟩
   replace BK234 := blk_on gb234 hb
   replace BK235 := blk_on gb235 hb
   replace BK240 := blk_on gb240 hb
   replace HB := bel_on w hb
   (try clear hb)
   refine hK.out _ _ ⟨bc BK240 0, bc BK240 1, bc BK240 2, bc BK235 0, bc BK235 1, bc BK235 2, bc BK235 3, bc BK235 4, bc BK235 5, bc BK235 6, bc BK235 7, bc BK235 8⟩ (fun hHeld => ?_)
   clear hK K
   refine normP 44 ?_
   refine stepP 4 (some 47) (tk 9 127) (any_of HT_.out (by kernel_rfl)) ?_
   refine stepP 7 (some 50) (tk 9 255) (any_of HT_.out (by kernel_rfl)) ?_
   refine stepP 8 (some 7) (tk 9 511) (any_of HT_.out (by kernel_rfl)) ?_
   refine done_ (done_of HT_.out (by kernel_rfl)) ?_
   try go_wp2
   go_ret
   exact ⟨eqN, bel_now⟩
  rw [if_neg c42] at H
  have c42b0 : (a1_0 == 2) = false := beq_eq_false_iff_ne.mpr c42
  have c42b1 : (a1_0 != 2) = true := bne_iff_ne.mpr c42
  by_cases c59 : a1_0 = 3
  rotate_left
  ·rw [if_neg c59] at H
   have c59b0 : (a1_0 == 3) = false := beq_eq_false_iff_ne.mpr c59
   have c59b1 : (a1_0 != 3) = true := bne_iff_ne.mpr c59
   obtain rfl := Option.some.inj H
   go_enter Try.func34, Try.ntmps34
   go_wp2_with (first | ((with_reducible refine gate_dst (N := 2) rfl ?_); refine boxM 2 #[.int .i64 a0_0, .int .i64 a0_1, .int .i64 a0_2] 31 ?_; intro gb234 hg w76 BK234 hb; replace HB := box_at w hb hg; obtain ⟨HB, GW234, GE234⟩ := HB; clear hb hg) | ((with_reducible refine gate_dst (N := 3) rfl ?_); refine boxM 3 #[.int .i64 a1_0, .int .i64 a1_1, .int .i64 a1_2, .int .i64 a1_3, .int .i64 a1_4, .int .i64 a1_5, .int .i64 a1_6, .slice A1_7 l1_7.length c1_7, .slice A1_8 l1_8.length c1_8] 37 ?_; intro gb235 hg w77 BK235 hb; replace HB := box_at w hb hg; obtain ⟨HB, GW235, GE235⟩ := HB; replace BK234 := box_on gb234 hb hg; obtain ⟨BK234, NB234_235, NB235_234⟩ := BK234; clear hb hg; have hn78 := ne2 NB234_235; have hcz79 := cells3 BK234.out; have hcz80 := cells9 BK235.out) | ((with_reducible refine gate_callee (f := 48) rfl ?_); refine goesM (some 11) rfl rfl Try.func48 (by kernel_rfl) rfl #[.agg #[.int .i64 a0_0, .int .i64 a0_1, .int .i64 a0_2], .agg #[.int .i64 a1_0, .int .i64 a1_1, .int .i64 a1_2, .int .i64 a1_3, .int .i64 a1_4, .int .i64 a1_5, .int .i64 a1_6, .slice A1_7 l1_7.length c1_7, .slice A1_8 l1_8.length c1_8]] rfl ?_; (with_reducible refine (spec_OutShape.calls k a0_0 a0_1 a0_2 a1_0 a1_1 a1_2 a1_3 a1_4 a1_5 a1_6 _ _ l1_7 _ _ l1_8 t236 t237 t238 true _ ?side1 ?side2 ?side3 ?side4 A3.out).mono ?_); (case side1 => exact C_now HR1_7.out); (case side2 => exact HC1_7.out); (case side3 => exact C_now HR1_8.out); (case side4 => exact HC1_8.out); rintro e w81 ⟨rfl, hb⟩; refine ⟨_, rfl, ?_⟩; replace HB := bel_on w hb; replace BK234 := blk_on gb234 hb; replace BK235 := blk_on gb235 hb; (try clear hb)) | ((with_reducible refine gate_dst (N := 5) rfl ?_); refine boxM 5 #[.int .i64 0, .int .i64 0, .int .i64 0] 31 ?_; intro gb240 hg w82 BK240 hb; replace HB := box_at w hb hg; obtain ⟨HB, GW240, GE240⟩ := HB; replace BK234 := box_on gb234 hb hg; obtain ⟨BK234, NB234_240, NB240_234⟩ := BK234; replace BK235 := box_on gb235 hb hg; obtain ⟨BK235, NB235_240, NB240_235⟩ := BK235; clear hb hg; have hn83 := ne2 NB240_234; have hn84 := ne2 NB240_235; have hcz85 := cells3 BK240.out; have hcz86 := cells3 BK234.out) | ((with_reducible refine gate_callee (f := 73) rfl ?_); refine goesM (some 17) rfl rfl Try.func73 (by kernel_rfl) rfl #[.agg #[.int .i64 a0_0, .int .i64 a0_1, .int .i64 a0_2]] rfl ?_; (with_reducible refine (spec_SizeOf.calls a0_0 a0_1 a0_2 t241 _ A5.out).mono ?_); rintro e w87 ⟨rfl, hb⟩; refine ⟨_, rfl, ?_⟩; replace HB := bel_on w hb; replace BK234 := Aside0.mk (blk_below (g := gb234) (o := .cells #[.int .i64 a0_0, .int .i64 a0_1, .int .i64 a0_2] 31 (0, 0)) (blk_fars BK234.out) hb); replace BK235 := Aside0.mk (blk_below (g := gb235) (o := .cells #[.int .i64 a1_0, .int .i64 a1_1, .int .i64 a1_2, .int .i64 a1_3, .int .i64 a1_4, .int .i64 a1_5, .int .i64 a1_6, .slice A1_7 l1_7.length c1_7, .slice A1_8 l1_8.length c1_8] 37 (0, 0)) (blk_fars BK235.out) hb); replace BK240 := Aside0.mk (blk_below (g := gb240) (o := .cells #[.int .i64 t236, .int .i64 t237, .int .i64 t238] 31 (0, 0)) (blk_fars (puts3 BK240.out)) hb); (try clear hb); have hcz88 := cells9 BK235.out))
   go_ret
   exact ⟨eqN, bel_now⟩
  rw [if_pos c59] at H
  have c59b0 : (a1_0 == 3) = true := beq_iff_eq.mpr c59
  have c59b1 : (a1_0 != 3) = false := bne_eq_false_iff_eq.mpr c59
  clear c59
  replace H := Option.bind_eq_some_iff.mp H
  obtain ⟨t246, A600, H⟩ := H
  (try dsimp only at H)
  have A60 := Aside0.mk A600
  clear A600
  obtain rfl := Option.some.inj H
  go_enter Try.func34, Try.ntmps34
  try go_wp2_with (first | ((with_reducible refine gate_dst (N := 2) rfl ?_); refine boxM 2 #[.int .i64 a0_0, .int .i64 a0_1, .int .i64 a0_2] 31 ?_; intro gb234 hg w61 BK234 hb; replace HB := box_at w hb hg; obtain ⟨HB, GW234, GE234⟩ := HB; clear hb hg) | ((with_reducible refine gate_dst (N := 3) rfl ?_); refine boxM 3 #[.int .i64 a1_0, .int .i64 a1_1, .int .i64 a1_2, .int .i64 a1_3, .int .i64 a1_4, .int .i64 a1_5, .int .i64 a1_6, .slice A1_7 l1_7.length c1_7, .slice A1_8 l1_8.length c1_8] 37 ?_; intro gb235 hg w62 BK235 hb; replace HB := box_at w hb hg; obtain ⟨HB, GW235, GE235⟩ := HB; replace BK234 := box_on gb234 hb hg; obtain ⟨BK234, NB234_235, NB235_234⟩ := BK234; clear hb hg; have hn63 := ne2 NB234_235; have hcz64 := cells3 BK234.out; have hcz65 := cells9 BK235.out) | ((with_reducible refine gate_callee (f := 48) rfl ?_); refine goesM (some 11) rfl rfl Try.func48 (by kernel_rfl) rfl #[.agg #[.int .i64 a0_0, .int .i64 a0_1, .int .i64 a0_2], .agg #[.int .i64 a1_0, .int .i64 a1_1, .int .i64 a1_2, .int .i64 a1_3, .int .i64 a1_4, .int .i64 a1_5, .int .i64 a1_6, .slice A1_7 l1_7.length c1_7, .slice A1_8 l1_8.length c1_8]] rfl ?_; (with_reducible refine (spec_OutShape.calls k a0_0 a0_1 a0_2 a1_0 a1_1 a1_2 a1_3 a1_4 a1_5 a1_6 _ _ l1_7 _ _ l1_8 t236 t237 t238 true _ ?side1 ?side2 ?side3 ?side4 A3.out).mono ?_); (case side1 => exact C_now HR1_7.out); (case side2 => exact HC1_7.out); (case side3 => exact C_now HR1_8.out); (case side4 => exact HC1_8.out); rintro e w66 ⟨rfl, hb⟩; refine ⟨_, rfl, ?_⟩; replace HB := bel_on w hb; replace BK234 := blk_on gb234 hb; replace BK235 := blk_on gb235 hb; (try clear hb)) | ((with_reducible refine gate_dst (N := 5) rfl ?_); refine boxM 5 #[.int .i64 0, .int .i64 0, .int .i64 0] 31 ?_; intro gb240 hg w67 BK240 hb; replace HB := box_at w hb hg; obtain ⟨HB, GW240, GE240⟩ := HB; replace BK234 := box_on gb234 hb hg; obtain ⟨BK234, NB234_240, NB240_234⟩ := BK234; replace BK235 := box_on gb235 hb hg; obtain ⟨BK235, NB235_240, NB240_235⟩ := BK235; clear hb hg; have hn68 := ne2 NB240_234; have hn69 := ne2 NB240_235; have hcz70 := cells3 BK240.out; have hcz71 := cells3 BK234.out) | ((with_reducible refine gate_callee (f := 73) rfl ?_); refine goesM (some 17) rfl rfl Try.func73 (by kernel_rfl) rfl #[.agg #[.int .i64 a0_0, .int .i64 a0_1, .int .i64 a0_2]] rfl ?_; (with_reducible refine (spec_SizeOf.calls a0_0 a0_1 a0_2 t241 _ A5.out).mono ?_); rintro e w72 ⟨rfl, hb⟩; refine ⟨_, rfl, ?_⟩; replace HB := bel_on w hb; replace BK234 := Aside0.mk (blk_below (g := gb234) (o := .cells #[.int .i64 a0_0, .int .i64 a0_1, .int .i64 a0_2] 31 (0, 0)) (blk_fars BK234.out) hb); replace BK235 := Aside0.mk (blk_below (g := gb235) (o := .cells #[.int .i64 a1_0, .int .i64 a1_1, .int .i64 a1_2, .int .i64 a1_3, .int .i64 a1_4, .int .i64 a1_5, .int .i64 a1_6, .slice A1_7 l1_7.length c1_7, .slice A1_8 l1_8.length c1_8] 37 (0, 0)) (blk_fars BK235.out) hb); replace BK240 := Aside0.mk (blk_below (g := gb240) (o := .cells #[.int .i64 t236, .int .i64 t237, .int .i64 t238] 31 (0, 0)) (blk_fars (puts3 BK240.out)) hb); (try clear hb); have hcz73 := cells9 BK235.out))
  replace BK234 := Aside0.mk (blk_drew BK234.out)
  replace BK235 := Aside0.mk (blk_drew BK235.out)
  replace BK240 := Aside0.mk (blk_drew BK240.out)
  replace HB := Aside0.mk (below_drew1 HB.out)
  refine start_ (n := 9) (S := fun w' => w'.cell? ⟨gb240, 0, none⟩ = some (.int .i64 t236) ∧ w'.cell? ⟨gb240, 1, none⟩ = some (.int .i64 t237) ∧ w'.cell? ⟨gb240, 2, none⟩ = some (.int .i64 t238) ∧ w'.cell? ⟨gb235, 0, none⟩ = some (.int .i64 a1_0) ∧ w'.cell? ⟨gb235, 1, none⟩ = some (.int .i64 a1_1) ∧ w'.cell? ⟨gb235, 2, none⟩ = some (.int .i64 a1_2) ∧ w'.cell? ⟨gb235, 3, none⟩ = some (.int .i64 a1_3) ∧ w'.cell? ⟨gb235, 4, none⟩ = some (.int .i64 a1_4) ∧ w'.cell? ⟨gb235, 5, none⟩ = some (.int .i64 a1_5) ∧ w'.cell? ⟨gb235, 6, none⟩ = some (.int .i64 a1_6) ∧ w'.cell? ⟨gb235, 7, none⟩ = some (.slice A1_7 l1_7.length c1_7) ∧ w'.cell? ⟨gb235, 8, none⟩ = some (.slice A1_8 l1_8.length c1_8)) (ds := []) #[O, O, O, O, O, O, O, O, O] (by kernel_rfl) rfl rfl ⟨bc BK240 0, bc BK240 1, bc BK240 2, bc BK235 0, bc BK235 1, bc BK235 2, bc BK235 3, bc BK235 4, bc BK235 5, bc BK235 6, bc BK235 7, bc BK235 8⟩ (fun hHeld => ?_); refine with_tabW spec_CostOf.tab12 spec_CostOf.bits12 (fun HT_ HW_ => ?_)
  generalize w72.drew = w74 at BK234 BK235 BK240 HB hHeld ⊢
  refine stepP 2 (some 45) (tk 9 4) (any_of HT_.out (by kernel_rfl)) ?_
  refine stepP 5 (some 48) (tk 9 36) (any_of HT_.out (by kernel_rfl)) ?_
  refine stepT 0 (some 43) (tk 9 37) (take_ofW HT_.out HW_.out (by kernel_rfl)) hHeld ?_
  refine stepT 3 (some 46) (tk 9 45) (take_ofW HT_.out HW_.out (by kernel_rfl)) hHeld ?_
  refine stepT 6 (some 49) (tk 9 109) (take_ofW HT_.out HW_.out (by kernel_rfl)) hHeld ?_
  refine one_ (i := 1) (N := some 44) #[I, I, I, I, O, I, I, O, O] rfl rfl (one_of HT_.out (by kernel_rfl)) (by decide) (fun K hK => ?_)
  refine goes_ Try.func73 (by kernel_rfl) rfl #[.agg #[.int .i64 t236, .int .i64 t237, .int .i64 t238]] (by rfl) rfl rfl (by (try simp only [List.map_toArray, List.map_cons, List.map_nil]); first | done | rfl | (simp only [List.length_drop, List.length_take]; rfl)) ?_
  with_reducible refine (spec_SizeOf.calls t236 t237 t238 t246 _ A60.out).mono ?_
  rintro e w75 ⟨rfl, hb⟩
  refine ⟨_, rfl, ?_⟩
  replace BK234 := blk_on gb234 hb
  replace BK235 := blk_on gb235 hb
  replace BK240 := blk_on gb240 hb
  replace HB := bel_on w hb
  (try clear hb)
  refine hK.out _ _ ⟨bc BK240 0, bc BK240 1, bc BK240 2, bc BK235 0, bc BK235 1, bc BK235 2, bc BK235 3, bc BK235 4, bc BK235 5, bc BK235 6, bc BK235 7, bc BK235 8⟩ (fun hHeld => ?_)
  clear hK K
  refine normP 44 ?_
  refine stepP 4 (some 47) (tk 9 127) (any_of HT_.out (by kernel_rfl)) ?_
  refine stepP 7 (some 50) (tk 9 255) (any_of HT_.out (by kernel_rfl)) ?_
  refine stepP 8 (some 7) (tk 9 511) (any_of HT_.out (by kernel_rfl)) ?_
  refine done_ (done_of HT_.out (by kernel_rfl)) ?_
  try go_wp2
  go_ret
  exact ⟨eqN, bel_now⟩

end Go.Proofs.Ytclpojeofclbjaa.PFnExactLeftOf
