-- Printed by the session's own program (wip/myprint.py) for this claim out of the translation. Not trusted: Lean checks it.
import Derived.Test.YtljdcemdhmaahaaPFnExactNextCostx0
import Derived.Test.YtljdcemdhmaahaaPFnExactNextCostx5
import Derived.Test.YtljdcemdhmaahaaPFnExactNextCostx6
namespace Go.Proofs.Ytljdcemdhmaahaa.PFnExactNextCost
open Go.RowKit Go.Proofs.YtljdcemdhmaahaaW.PrintWords Go.Proofs.YtljdcemdhmaahaaW.PrintLast Go.Proofs.YtljdcemdhmaahaaW.PrintMore
attribute [local go_sem] max2_int min2_int max_two min_two max_three min_three max_four min_four   -- for this text's walks alone
set_option linter.unusedVariables false
set_option linter.unusedSimpArgs false

/-! ### spec_CostOf: function 76 -/
def spec_CostOf.f (k : Nat) (a0_0 : Int) (a0_1 : Int) (a0_2 : Int) (a1_0 : Int) (a1_1 : Int) (a1_2 : Int) (a1_3 : Int) (a1_4 : Int) (a1_5 : Int) (a1_6 : Int) (l1_7 : List Int) (l1_8 : List Int) : Option (Int) := (spec_OutShape.f k a0_0 a0_1 a0_2 a1_0 a1_1 a1_2 a1_3 a1_4 a1_5 a1_6 l1_7 l1_8).bind fun bt236 => (if bt236.2.2.2 = true then ((spec_SizeOf.f a0_0 a0_1 a0_2).bind fun t241 => (if a1_0 = 0 then ((spec_SizeOf.f bt236.1 bt236.2.1 bt236.2.2.1).bind fun t242 => ((spec_SizeOf.f a0_0 a0_1 a0_2).bind fun t243 => (some (wrap64 (1 + (wrap64 (Int.tdiv (wrap64 (t242 * t243)) 16))))))) else (if a1_0 = 1 then ((spec_SizeOf.f bt236.1 bt236.2.1 bt236.2.2.1).bind fun t244 => (some (wrap64 (1 + (wrap64 (Int.tdiv (wrap64 ((wrap64 ((wrap64 (t244 * a1_2)) * a1_2)) * a0_2)) 16)))))) else (if a1_0 = 2 then ((spec_SizeOf.f bt236.1 bt236.2.1 bt236.2.2.1).bind fun t245 => (some (wrap64 (1 + (wrap64 (Int.tdiv (wrap64 ((wrap64 (t245 * a1_2)) * a1_2)) 16)))))) else (if a1_0 = 3 then ((spec_SizeOf.f bt236.1 bt236.2.1 bt236.2.2.1).bind fun t246 => (some (wrap64 (1 + (wrap64 (Int.tdiv (wrap64 ((wrap64 (t246 * a1_2)) * a1_2)) 16)))))) else (some (wrap64 (1 + (wrap64 (Int.tdiv t241 16)))))))))) else (some 0))
def spec_CostOf.T9 : Bool × List (List Nat × List Nat) := (true, [([], []), ([0], [0]), ([], []), ([2], [2]), ([1, 3], [1, 3]), ([], []), ([5], [5]), ([4, 6], [4, 6]), ([], []), ([8], [8]), ([7, 9], [7, 9]), ([10, 1, 0, 1, 2, 3, 4, 5, 6, 7, 8, 9, 10], [10])])
def spec_CostOf.B9 : List Nat := [0, 1, 0, 4, 15, 0, 32, 127, 0, 256, 1023, 2047]
theorem spec_CostOf.tab9 : rtab .any (opsOf Try.f76 9) = spec_CostOf.T9 := by kernel_rfl
theorem spec_CostOf.bits9 : waitsOk spec_CostOf.T9.2 spec_CostOf.B9 = true := by kernel_rfl
def spec_CostOf.T12 : Bool × List (List Nat × List Nat) := (true, [([], []), ([0], [0]), ([], []), ([2], [2]), ([1, 3], [1, 3]), ([], []), ([5], [5]), ([4, 6], [4, 6]), ([7, 1, 0, 1, 2, 3, 4, 5, 6, 7], [7])])
def spec_CostOf.B12 : List Nat := [0, 1, 0, 4, 15, 0, 32, 127, 255]
theorem spec_CostOf.tab12 : rtab .any (opsOf Try.f76 12) = spec_CostOf.T12 := by kernel_rfl
theorem spec_CostOf.bits12 : waitsOk spec_CostOf.T12.2 spec_CostOf.B12 = true := by kernel_rfl
set_option maxHeartbeats 8000000 in
set_option maxRecDepth 100000 in
theorem spec_CostOf.calls (k : Nat) (a0_0 : Int) (a0_1 : Int) (a0_2 : Int) (a1_0 : Int) (a1_1 : Int) (a1_2 : Int) (a1_3 : Int) (a1_4 : Int) (a1_5 : Int) (a1_6 : Int) (A1_7 : Option Addr) (c1_7 : Nat) (l1_7 : List Int) (A1_8 : Option Addr) (c1_8 : Nat) (l1_8 : List Int) (r : Int) (w : World) (hr1_7 : Kd.C (Kd.int .i64) w A1_7 l1_7.length l1_7) (hc1_7 : l1_7.length ≤ c1_7) (hr1_8 : Kd.C (Kd.int .i64) w A1_8 l1_8.length l1_8) (hc1_8 : l1_8.length ≤ c1_8) (h : spec_CostOf.f k a0_0 a0_1 a0_2 a1_0 a1_1 a1_2 a1_3 a1_4 a1_5 a1_6 l1_7 l1_8 = some r) :
   Calls Try.prog 76 #[.agg #[.int .i64 a0_0, .int .i64 a0_1, .int .i64 a0_2], .agg #[.int .i64 a1_0, .int .i64 a1_1, .int .i64 a1_2, .int .i64 a1_3, .int .i64 a1_4, .int .i64 a1_5, .int .i64 a1_6, .slice A1_7 l1_7.length c1_7, .slice A1_8 l1_8.length c1_8]] w fun e w' => e = .returned (.int .i64 r) ∧ Below w.heap.size w w' := by
  have hu25 := Try.underlying25
  have hu73 := Try.underlying73
  have HR1_7 := Aside0.mk hr1_7
  have HC1_7 := Aside0.mk hc1_7
  clear hr1_7 hc1_7
  have HR1_8 := Aside0.mk hr1_8
  have HC1_8 := Aside0.mk hc1_8
  clear hr1_8 hc1_8
  have HB := Aside0.mk (Below.refl w.heap.size w)
  have H : ((spec_OutShape.f k a0_0 a0_1 a0_2 a1_0 a1_1 a1_2 a1_3 a1_4 a1_5 a1_6 l1_7 l1_8).bind fun bt236 => (if bt236.2.2.2 = true then ((spec_SizeOf.f a0_0 a0_1 a0_2).bind fun t241 => (if a1_0 = 0 then ((spec_SizeOf.f bt236.1 bt236.2.1 bt236.2.2.1).bind fun t242 => ((spec_SizeOf.f a0_0 a0_1 a0_2).bind fun t243 => (some (wrap64 (1 + (wrap64 (Int.tdiv (wrap64 (t242 * t243)) 16))))))) else (if a1_0 = 1 then ((spec_SizeOf.f bt236.1 bt236.2.1 bt236.2.2.1).bind fun t244 => (some (wrap64 (1 + (wrap64 (Int.tdiv (wrap64 ((wrap64 ((wrap64 (t244 * a1_2)) * a1_2)) * a0_2)) 16)))))) else (if a1_0 = 2 then ((spec_SizeOf.f bt236.1 bt236.2.1 bt236.2.2.1).bind fun t245 => (some (wrap64 (1 + (wrap64 (Int.tdiv (wrap64 ((wrap64 (t245 * a1_2)) * a1_2)) 16)))))) else (if a1_0 = 3 then ((spec_SizeOf.f bt236.1 bt236.2.1 bt236.2.2.1).bind fun t246 => (some (wrap64 (1 + (wrap64 (Int.tdiv (wrap64 ((wrap64 (t246 * a1_2)) * a1_2)) 16)))))) else (some (wrap64 (1 + (wrap64 (Int.tdiv t241 16)))))))))) else (some 0))) = some r := h
  clear h
  replace H := Option.bind_eq_some_iff.mp H
  obtain ⟨⟨t236, t237, t238, t239⟩, A30, H⟩ := H
  (try dsimp only at H)
  have A3 := Aside0.mk A30
  clear A30
  by_cases c4 : t239 = true
  ·subst c4
   rw [if_pos rfl] at H
   replace H := Option.bind_eq_some_iff.mp H
   obtain ⟨t241, A50, H⟩ := H
   (try dsimp only at H)
   have A5 := Aside0.mk A50
   clear A50
   by_cases c6 : a1_0 = 0
   ·rw [if_pos c6] at H
    have c6b0 : (a1_0 == 0) = true := beq_iff_eq.mpr c6
    have c6b1 : (a1_0 != 0) = false := bne_eq_false_iff_eq.mpr c6
    clear c6
    replace H := Option.bind_eq_some_iff.mp H
    obtain ⟨t242, A70, H⟩ := H
    (try dsimp only at H)
    have A7 := Aside0.mk A70
    clear A70
    replace H := Option.bind_eq_some_iff.mp H
    obtain ⟨t243, A80, H⟩ := H
    (try dsimp only at H)
    have A8 := Aside0.mk A80
    clear A80
    obtain rfl := Option.some.inj H
    go_enter Try.func76, Try.ntmps76
    try go_wp2_with (first | ((with_reducible refine gate_dst (N := 2) rfl ?_); refine boxM 2 #[.int .i64 a0_0, .int .i64 a0_1, .int .i64 a0_2] 25 ?_; intro gb234 hg w9 BK234 hb; replace HB := box_at w hb hg; obtain ⟨HB, GW234, GE234⟩ := HB; clear hb hg) | ((with_reducible refine gate_dst (N := 3) rfl ?_); refine boxM 3 #[.int .i64 a1_0, .int .i64 a1_1, .int .i64 a1_2, .int .i64 a1_3, .int .i64 a1_4, .int .i64 a1_5, .int .i64 a1_6, .slice A1_7 l1_7.length c1_7, .slice A1_8 l1_8.length c1_8] 73 ?_; intro gb235 hg w10 BK235 hb; replace HB := box_at w hb hg; obtain ⟨HB, GW235, GE235⟩ := HB; replace BK234 := box_on gb234 hb hg; obtain ⟨BK234, NB234_235, NB235_234⟩ := BK234; clear hb hg; have hnb11 := NB234_235.out; have hnc11 := NB235_234.out; obtain ⟨hcz12_0, hcz12_1, hcz12_2, hfz12_0, hfz12_1, hfz12_2⟩ := cells3 BK234.out; obtain ⟨hcz13_0, hcz13_1, hcz13_2, hcz13_3, hcz13_4, hcz13_5, hcz13_6, hcz13_7, hcz13_8, hfz13_0, hfz13_1, hfz13_2, hfz13_3, hfz13_4, hfz13_5, hfz13_6, hfz13_7, hfz13_8⟩ := cells9 BK235.out) | ((with_reducible refine gate_callee (f := 98) rfl ?_); refine goesM (some 11) rfl rfl Try.func98 (by kernel_rfl) rfl #[.agg #[.int .i64 a0_0, .int .i64 a0_1, .int .i64 a0_2], .agg #[.int .i64 a1_0, .int .i64 a1_1, .int .i64 a1_2, .int .i64 a1_3, .int .i64 a1_4, .int .i64 a1_5, .int .i64 a1_6, .slice A1_7 l1_7.length c1_7, .slice A1_8 l1_8.length c1_8]] rfl ?_; (with_reducible refine (spec_OutShape.calls k a0_0 a0_1 a0_2 a1_0 a1_1 a1_2 a1_3 a1_4 a1_5 a1_6 _ _ l1_7 _ _ l1_8 t236 t237 t238 true _ ?side1 ?side2 ?side3 ?side4 A3.out).mono ?_); (case side1 => exact C_now HR1_7.out); (case side2 => exact HC1_7.out); (case side3 => exact C_now HR1_8.out); (case side4 => exact HC1_8.out); rintro e w14 ⟨rfl, hb⟩; refine ⟨_, rfl, ?_⟩; replace HB := bel_on w hb; replace BK234 := blk_on gb234 hb; replace BK235 := blk_on gb235 hb; (try clear hb)) | ((with_reducible refine gate_dst (N := 5) rfl ?_); refine boxM 5 #[.int .i64 0, .int .i64 0, .int .i64 0] 25 ?_; intro gb240 hg w15 BK240 hb; replace HB := box_at w hb hg; obtain ⟨HB, GW240, GE240⟩ := HB; replace BK234 := box_on gb234 hb hg; obtain ⟨BK234, NB234_240, NB240_234⟩ := BK234; replace BK235 := box_on gb235 hb hg; obtain ⟨BK235, NB235_240, NB240_235⟩ := BK235; clear hb hg; have hnb16 := NB240_234.out; have hnc16 := NB234_240.out; have hnb17 := NB240_235.out; have hnc17 := NB235_240.out; obtain ⟨hcz18_0, hcz18_1, hcz18_2, hfz18_0, hfz18_1, hfz18_2⟩ := cells3 BK240.out; obtain ⟨hcz19_0, hcz19_1, hcz19_2, hfz19_0, hfz19_1, hfz19_2⟩ := cells3 BK234.out) | ((with_reducible refine gate_callee (f := 102) rfl ?_); refine goesM (some 17) rfl rfl Try.func102 (by kernel_rfl) rfl #[.agg #[.int .i64 a0_0, .int .i64 a0_1, .int .i64 a0_2]] rfl ?_; (with_reducible refine (spec_SizeOf.calls a0_0 a0_1 a0_2 t241 _ A5.out).mono ?_); rintro e w20 ⟨rfl, hb⟩; refine ⟨_, rfl, ?_⟩; replace HB := bel_on w hb; replace BK234 := Aside0.mk (blk_below (g := gb234) (o := .cells #[.int .i64 a0_0, .int .i64 a0_1, .int .i64 a0_2] 25 (0, 0)) (blk_fars BK234.out) hb); replace BK235 := Aside0.mk (blk_below (g := gb235) (o := .cells #[.int .i64 a1_0, .int .i64 a1_1, .int .i64 a1_2, .int .i64 a1_3, .int .i64 a1_4, .int .i64 a1_5, .int .i64 a1_6, .slice A1_7 l1_7.length c1_7, .slice A1_8 l1_8.length c1_8] 73 (0, 0)) (blk_fars BK235.out) hb); replace BK240 := Aside0.mk (blk_below (g := gb240) (o := .cells #[.int .i64 t236, .int .i64 t237, .int .i64 t238] 25 (0, 0)) (blk_fars (puts3 BK240.out)) hb); (try clear hb); obtain ⟨hcz21_0, hcz21_1, hcz21_2, hcz21_3, hcz21_4, hcz21_5, hcz21_6, hcz21_7, hcz21_8, hfz21_0, hfz21_1, hfz21_2, hfz21_3, hfz21_4, hfz21_5, hfz21_6, hfz21_7, hfz21_8⟩ := cells9 BK235.out))
    replace BK234 := Aside0.mk (blk_drew BK234.out)
    replace BK235 := Aside0.mk (blk_drew BK235.out)
    replace BK240 := Aside0.mk (blk_drew BK240.out)
    replace HB := Aside0.mk (below_drew1 HB.out)
    refine start_ (n := 6) (S := fun w' => w'.cell? ⟨gb240, 0, none⟩ = some (.int .i64 t236) ∧ w'.cell? ⟨gb240, 1, none⟩ = some (.int .i64 t237) ∧ w'.cell? ⟨gb240, 2, none⟩ = some (.int .i64 t238) ∧ w'.cell? ⟨gb234, 0, none⟩ = some (.int .i64 a0_0) ∧ w'.cell? ⟨gb234, 1, none⟩ = some (.int .i64 a0_1) ∧ w'.cell? ⟨gb234, 2, none⟩ = some (.int .i64 a0_2)) (ds := []) #[O, O, O, O, O, O] (by kernel_rfl) rfl rfl ⟨bc BK240 0, bc BK240 1, bc BK240 2, bc BK234 0, bc BK234 1, bc BK234 2⟩ (fun hHeld => ?_)
    generalize w20.drew = w22 at BK234 BK235 BK240 HB hHeld ⊢
    refine stepT 0 (some 22) (tk 6 1) (by kernel_rfl) hHeld ?_
    refine stepT 2 (some 24) (tk 6 5) (by kernel_rfl) hHeld ?_
    refine one_ (i := 1) (N := some 23) #[I, I, I, O, O, O] rfl rfl (by kernel_rfl) (by decide) (fun K hK => ?_)
    refine goes_ Try.func102 (by kernel_rfl) rfl #[.agg #[.int .i64 t236, .int .i64 t237, .int .i64 t238]] (by rfl) rfl rfl (by (try simp only [List.map_toArray, List.map_cons, List.map_nil]); first | done | rfl | (simp only [List.length_drop, List.length_take]; rfl)) ?_
    with_reducible refine (spec_SizeOf.calls t236 t237 t238 t242 _ A7.out).mono ?_
    rintro e w23 ⟨rfl, hb⟩
    refine ⟨_, rfl, ?_⟩
    replace BK234 := blk_on gb234 hb
    replace BK235 := blk_on gb235 hb
    replace BK240 := blk_on gb240 hb
    replace HB := bel_on w hb
    (try clear hb)
    (try clear hb2)
    (try clear hk)
    (try clear hi)
    refine hK.out _ _ ⟨bc BK240 0, bc BK240 1, bc BK240 2, bc BK234 0, bc BK234 1, bc BK234 2⟩ (fun hHeld => ?_)
    clear hK K
    refine norm_ (a' := ?_) ?_ ?_
    rotate_left
    ·show Act.put _ (some 23) _ = _
     simp only [Act.put, zA, zB, zC, i64_w, i32_w]
     rfl
    refine one_ (i := 3) (N := some 25) #[I, I, I, I, O, O] rfl rfl (by kernel_rfl) (by decide) (fun K hK => ?_)
    refine goes_ Try.func102 (by kernel_rfl) rfl #[.agg #[.int .i64 a0_0, .int .i64 a0_1, .int .i64 a0_2]] (by rfl) rfl rfl (by (try simp only [List.map_toArray, List.map_cons, List.map_nil]); first | done | rfl | (simp only [List.length_drop, List.length_take]; rfl)) ?_
    with_reducible refine (spec_SizeOf.calls a0_0 a0_1 a0_2 t243 _ A8.out).mono ?_
    rintro e w24 ⟨rfl, hb⟩
    refine ⟨_, rfl, ?_⟩
    replace BK234 := blk_on gb234 hb
    replace BK235 := blk_on gb235 hb
    replace BK240 := blk_on gb240 hb
    replace HB := bel_on w hb
    (try clear hb)
    (try clear hb2)
    (try clear hk)
    (try clear hi)
    refine hK.out _ _ ⟨bc BK240 0, bc BK240 1, bc BK240 2, bc BK234 0, bc BK234 1, bc BK234 2⟩ (fun hHeld => ?_)
    clear hK K
    refine norm_ (a' := ?_) ?_ ?_
    rotate_left
    ·show Act.put _ (some 25) _ = _
     simp only [Act.put, zA, zB, zC, i64_w, i32_w]
     rfl
    refine stepP 4 (some 26) (tk 6 31) (by kernel_rfl) ?_
    refine stepP 5 (some 7) (tk 6 63) (by kernel_rfl) ?_
    refine done_ (by kernel_rfl) ?_
    try go_wp2
    go_ret
    exact ⟨eqN, bel_now⟩
   ·rw [if_neg c6] at H
    have c6b0 : (a1_0 == 0) = false := beq_eq_false_iff_ne.mpr c6
    have c6b1 : (a1_0 != 0) = true := bne_iff_ne.mpr c6
    by_cases c25 : a1_0 = 1
    ·rw [if_pos c25] at H
     have c25b0 : (a1_0 == 1) = true := beq_iff_eq.mpr c25
     have c25b1 : (a1_0 != 1) = false := bne_eq_false_iff_eq.mpr c25
     clear c25
     replace H := Option.bind_eq_some_iff.mp H
     obtain ⟨t244, A260, H⟩ := H
     (try dsimp only at H)
     have A26 := Aside0.mk A260
     clear A260
     obtain rfl := Option.some.inj H
     go_enter Try.func76, Try.ntmps76
     try go_wp2_with (first | ((with_reducible refine gate_dst (N := 2) rfl ?_); refine boxM 2 #[.int .i64 a0_0, .int .i64 a0_1, .int .i64 a0_2] 25 ?_; intro gb234 hg w27 BK234 hb; replace HB := box_at w hb hg; obtain ⟨HB, GW234, GE234⟩ := HB; clear hb hg) | ((with_reducible refine gate_dst (N := 3) rfl ?_); refine boxM 3 #[.int .i64 a1_0, .int .i64 a1_1, .int .i64 a1_2, .int .i64 a1_3, .int .i64 a1_4, .int .i64 a1_5, .int .i64 a1_6, .slice A1_7 l1_7.length c1_7, .slice A1_8 l1_8.length c1_8] 73 ?_; intro gb235 hg w28 BK235 hb; replace HB := box_at w hb hg; obtain ⟨HB, GW235, GE235⟩ := HB; replace BK234 := box_on gb234 hb hg; obtain ⟨BK234, NB234_235, NB235_234⟩ := BK234; clear hb hg; have hnb29 := NB234_235.out; have hnc29 := NB235_234.out; obtain ⟨hcz30_0, hcz30_1, hcz30_2, hfz30_0, hfz30_1, hfz30_2⟩ := cells3 BK234.out; obtain ⟨hcz31_0, hcz31_1, hcz31_2, hcz31_3, hcz31_4, hcz31_5, hcz31_6, hcz31_7, hcz31_8, hfz31_0, hfz31_1, hfz31_2, hfz31_3, hfz31_4, hfz31_5, hfz31_6, hfz31_7, hfz31_8⟩ := cells9 BK235.out) | ((with_reducible refine gate_callee (f := 98) rfl ?_); refine goesM (some 11) rfl rfl Try.func98 (by kernel_rfl) rfl #[.agg #[.int .i64 a0_0, .int .i64 a0_1, .int .i64 a0_2], .agg #[.int .i64 a1_0, .int .i64 a1_1, .int .i64 a1_2, .int .i64 a1_3, .int .i64 a1_4, .int .i64 a1_5, .int .i64 a1_6, .slice A1_7 l1_7.length c1_7, .slice A1_8 l1_8.length c1_8]] rfl ?_; (with_reducible refine (spec_OutShape.calls k a0_0 a0_1 a0_2 a1_0 a1_1 a1_2 a1_3 a1_4 a1_5 a1_6 _ _ l1_7 _ _ l1_8 t236 t237 t238 true _ ?side1 ?side2 ?side3 ?side4 A3.out).mono ?_); (case side1 => exact C_now HR1_7.out); (case side2 => exact HC1_7.out); (case side3 => exact C_now HR1_8.out); (case side4 => exact HC1_8.out); rintro e w32 ⟨rfl, hb⟩; refine ⟨_, rfl, ?_⟩; replace HB := bel_on w hb; replace BK234 := blk_on gb234 hb; replace BK235 := blk_on gb235 hb; (try clear hb)) | ((with_reducible refine gate_dst (N := 5) rfl ?_); refine boxM 5 #[.int .i64 0, .int .i64 0, .int .i64 0] 25 ?_; intro gb240 hg w33 BK240 hb; replace HB := box_at w hb hg; obtain ⟨HB, GW240, GE240⟩ := HB; replace BK234 := box_on gb234 hb hg; obtain ⟨BK234, NB234_240, NB240_234⟩ := BK234; replace BK235 := box_on gb235 hb hg; obtain ⟨BK235, NB235_240, NB240_235⟩ := BK235; clear hb hg; have hnb34 := NB240_234.out; have hnc34 := NB234_240.out; have hnb35 := NB240_235.out; have hnc35 := NB235_240.out; obtain ⟨hcz36_0, hcz36_1, hcz36_2, hfz36_0, hfz36_1, hfz36_2⟩ := cells3 BK240.out; obtain ⟨hcz37_0, hcz37_1, hcz37_2, hfz37_0, hfz37_1, hfz37_2⟩ := cells3 BK234.out) | ((with_reducible refine gate_callee (f := 102) rfl ?_); refine goesM (some 17) rfl rfl Try.func102 (by kernel_rfl) rfl #[.agg #[.int .i64 a0_0, .int .i64 a0_1, .int .i64 a0_2]] rfl ?_; (with_reducible refine (spec_SizeOf.calls a0_0 a0_1 a0_2 t241 _ A5.out).mono ?_); rintro e w38 ⟨rfl, hb⟩; refine ⟨_, rfl, ?_⟩; replace HB := bel_on w hb; replace BK234 := Aside0.mk (blk_below (g := gb234) (o := .cells #[.int .i64 a0_0, .int .i64 a0_1, .int .i64 a0_2] 25 (0, 0)) (blk_fars BK234.out) hb); replace BK235 := Aside0.mk (blk_below (g := gb235) (o := .cells #[.int .i64 a1_0, .int .i64 a1_1, .int .i64 a1_2, .int .i64 a1_3, .int .i64 a1_4, .int .i64 a1_5, .int .i64 a1_6, .slice A1_7 l1_7.length c1_7, .slice A1_8 l1_8.length c1_8] 73 (0, 0)) (blk_fars BK235.out) hb); replace BK240 := Aside0.mk (blk_below (g := gb240) (o := .cells #[.int .i64 t236, .int .i64 t237, .int .i64 t238] 25 (0, 0)) (blk_fars (puts3 BK240.out)) hb); (try clear hb); obtain ⟨hcz39_0, hcz39_1, hcz39_2, hcz39_3, hcz39_4, hcz39_5, hcz39_6, hcz39_7, hcz39_8, hfz39_0, hfz39_1, hfz39_2, hfz39_3, hfz39_4, hfz39_5, hfz39_6, hfz39_7, hfz39_8⟩ := cells9 BK235.out))
     replace BK234 := Aside0.mk (blk_drew BK234.out)
     replace BK235 := Aside0.mk (blk_drew BK235.out)
     replace BK240 := Aside0.mk (blk_drew BK240.out)
     replace HB := Aside0.mk (below_drew1 HB.out)
     refine start_ (n := 12) (S := fun w' => w'.cell? ⟨gb240, 0, none⟩ = some (.int .i64 t236) ∧ w'.cell? ⟨gb240, 1, none⟩ = some (.int .i64 t237) ∧ w'.cell? ⟨gb240, 2, none⟩ = some (.int .i64 t238) ∧ w'.cell? ⟨gb235, 0, none⟩ = some (.int .i64 a1_0) ∧ w'.cell? ⟨gb235, 1, none⟩ = some (.int .i64 a1_1) ∧ w'.cell? ⟨gb235, 2, none⟩ = some (.int .i64 a1_2) ∧ w'.cell? ⟨gb235, 3, none⟩ = some (.int .i64 a1_3) ∧ w'.cell? ⟨gb235, 4, none⟩ = some (.int .i64 a1_4) ∧ w'.cell? ⟨gb235, 5, none⟩ = some (.int .i64 a1_5) ∧ w'.cell? ⟨gb235, 6, none⟩ = some (.int .i64 a1_6) ∧ w'.cell? ⟨gb235, 7, none⟩ = some (.slice A1_7 l1_7.length c1_7) ∧ w'.cell? ⟨gb235, 8, none⟩ = some (.slice A1_8 l1_8.length c1_8) ∧ w'.cell? ⟨gb234, 0, none⟩ = some (.int .i64 a0_0) ∧ w'.cell? ⟨gb234, 1, none⟩ = some (.int .i64 a0_1) ∧ w'.cell? ⟨gb234, 2, none⟩ = some (.int .i64 a0_2)) (ds := []) #[O, O, O, O, O, O, O, O, O, O, O, O] (by kernel_rfl) rfl rfl ⟨bc BK240 0, bc BK240 1, bc BK240 2, bc BK235 0, bc BK235 1, bc BK235 2, bc BK235 3, bc BK235 4, bc BK235 5, bc BK235 6, bc BK235 7, bc BK235 8, bc BK234 0, bc BK234 1, bc BK234 2⟩ (fun hHeld => ?_); refine with_tabW spec_CostOf.tab9 spec_CostOf.bits9 (fun HT_ HW_ => ?_)
     generalize w38.drew = w40 at BK234 BK235 BK240 HB hHeld ⊢
     refine stepP 2 (some 31) (tk 12 4) (any_of HT_.out (by kernel_rfl)) ?_
     refine stepP 5 (some 34) (tk 12 36) (any_of HT_.out (by kernel_rfl)) ?_
     refine stepP 8 (some 37) (tk 12 292) (any_of HT_.out (by kernel_rfl)) ?_
     refine stepT 0 (some 29) (tk 12 293) (take_ofW HT_.out HW_.out (by kernel_rfl)) hHeld ?_
     refine stepT 3 (some 32) (tk 12 301) (take_ofW HT_.out HW_.out (by kernel_rfl)) hHeld ?_
     refine stepT 6 (some 35) (tk 12 365) (take_ofW HT_.out HW_.out (by kernel_rfl)) hHeld ?_
     refine stepT 9 (some 38) (tk 12 877) (take_ofW HT_.out HW_.out (by kernel_rfl)) hHeld ?_
     refine one_ (i := 1) (N := some 30) #[I, I, I, I, O, I, I, O, I, I, O, O] rfl rfl (one_of HT_.out (by kernel_rfl)) (by decide) (fun K hK => ?_)
     refine goes_ Try.func102 (by kernel_rfl) rfl #[.agg #[.int .i64 t236, .int .i64 t237, .int .i64 t238]] (by rfl) rfl rfl (by (try simp only [List.map_toArray, List.map_cons, List.map_nil]); first | done | rfl | (simp only [List.length_drop, List.length_take]; rfl)) ?_
     with_reducible refine (spec_SizeOf.calls t236 t237 t238 t244 _ A26.out).mono ?_
     rintro e w41 ⟨rfl, hb⟩
     refine ⟨_, rfl, ?_⟩
     replace BK234 := blk_on gb234 hb
     replace BK235 := blk_on gb235 hb
     replace BK240 := blk_on gb240 hb
     replace HB := bel_on w hb
     (try clear hb)
     (try clear hb2)
     (try clear hk)
     (try clear hi)
     refine hK.out _ _ ⟨bc BK240 0, bc BK240 1, bc BK240 2, bc BK235 0, bc BK235 1, bc BK235 2, bc BK235 3, bc BK235 4, bc BK235 5, bc BK235 6, bc BK235 7, bc BK235 8, bc BK234 0, bc BK234 1, bc BK234 2⟩ (fun hHeld => ?_)
     clear hK K
     refine norm_ (a' := ?_) ?_ ?_
     rotate_left
     ·show Act.put _ (some 30) _ = _
      simp only [Act.put, zA, zB, zC, i64_w, i32_w]
      rfl
     refine stepP 4 (some 33) (tk 12 895) (any_of HT_.out (by kernel_rfl)) ?_
     refine stepP 7 (some 36) (tk 12 1023) (any_of HT_.out (by kernel_rfl)) ?_
     refine stepP 10 (some 39) (tk 12 2047) (any_of HT_.out (by kernel_rfl)) ?_
     refine stepP 11 (some 7) (tk 12 4095) (any_of HT_.out (by kernel_rfl)) ?_
     refine done_ (done_of HT_.out (by kernel_rfl)) ?_
     try go_wp2
     go_ret
     exact ⟨eqN, bel_now⟩
    ·rw [if_neg c25] at H
     have c25b0 : (a1_0 == 1) = false := beq_eq_false_iff_ne.mpr c25
     have c25b1 : (a1_0 != 1) = true := bne_iff_ne.mpr c25
     by_cases c42 : a1_0 = 2
     ·rw [if_pos c42] at H
      have c42b0 : (a1_0 == 2) = true := beq_iff_eq.mpr c42
      have c42b1 : (a1_0 != 2) = false := bne_eq_false_iff_eq.mpr c42
      clear c42
      replace H := Option.bind_eq_some_iff.mp H
      obtain ⟨t245, A430, H⟩ := H
      (try dsimp only at H)
      have A43 := Aside0.mk A430
      clear A430
      obtain rfl := Option.some.inj H
      go_enter Try.func76, Try.ntmps76
      try go_wp2_with (first | ((with_reducible refine gate_dst (N := 2) rfl ?_); refine boxM 2 #[.int .i64 a0_0, .int .i64 a0_1, .int .i64 a0_2] 25 ?_; intro gb234 hg w44 BK234 hb; replace HB := box_at w hb hg; obtain ⟨HB, GW234, GE234⟩ := HB; clear hb hg) | ((with_reducible refine gate_dst (N := 3) rfl ?_); refine boxM 3 #[.int .i64 a1_0, .int .i64 a1_1, .int .i64 a1_2, .int .i64 a1_3, .int .i64 a1_4, .int .i64 a1_5, .int .i64 a1_6, .slice A1_7 l1_7.length c1_7, .slice A1_8 l1_8.length c1_8] 73 ?_; intro gb235 hg w45 BK235 hb; replace HB := box_at w hb hg; obtain ⟨HB, GW235, GE235⟩ := HB; replace BK234 := box_on gb234 hb hg; obtain ⟨BK234, NB234_235, NB235_234⟩ := BK234; clear hb hg; have hnb46 := NB234_235.out; have hnc46 := NB235_234.out; obtain ⟨hcz47_0, hcz47_1, hcz47_2, hfz47_0, hfz47_1, hfz47_2⟩ := cells3 BK234.out; obtain ⟨hcz48_0, hcz48_1, hcz48_2, hcz48_3, hcz48_4, hcz48_5, hcz48_6, hcz48_7, hcz48_8, hfz48_0, hfz48_1, hfz48_2, hfz48_3, hfz48_4, hfz48_5, hfz48_6, hfz48_7, hfz48_8⟩ := cells9 BK235.out) | ((with_reducible refine gate_callee (f := 98) rfl ?_); refine goesM (some 11) rfl rfl Try.func98 (by kernel_rfl) rfl #[.agg #[.int .i64 a0_0, .int .i64 a0_1, .int .i64 a0_2], .agg #[.int .i64 a1_0, .int .i64 a1_1, .int .i64 a1_2, .int .i64 a1_3, .int .i64 a1_4, .int .i64 a1_5, .int .i64 a1_6, .slice A1_7 l1_7.length c1_7, .slice A1_8 l1_8.length c1_8]] rfl ?_; (with_reducible refine (spec_OutShape.calls k a0_0 a0_1 a0_2 a1_0 a1_1 a1_2 a1_3 a1_4 a1_5 a1_6 _ _ l1_7 _ _ l1_8 t236 t237 t238 true _ ?side1 ?side2 ?side3 ?side4 A3.out).mono ?_); (case side1 => exact C_now HR1_7.out); (case side2 => exact HC1_7.out); (case side3 => exact C_now HR1_8.out); (case side4 => exact HC1_8.out); rintro e w49 ⟨rfl, hb⟩; refine ⟨_, rfl, ?_⟩; replace HB := bel_on w hb; replace BK234 := blk_on gb234 hb; replace BK235 := blk_on gb235 hb; (try clear hb)) | ((with_reducible refine gate_dst (N := 5) rfl ?_); refine boxM 5 #[.int .i64 0, .int .i64 0, .int .i64 0] 25 ?_; intro gb240 hg w50 BK240 hb; replace HB := box_at w hb hg; obtain ⟨HB, GW240, GE240⟩ := HB; replace BK234 := box_on gb234 hb hg; obtain ⟨BK234, NB234_240, NB240_234⟩ := BK234; replace BK235 := box_on gb235 hb hg; obtain ⟨BK235, NB235_240, NB240_235⟩ := BK235; clear hb hg; have hnb51 := NB240_234.out; have hnc51 := NB234_240.out; have hnb52 := NB240_235.out; have hnc52 := NB235_240.out; obtain ⟨hcz53_0, hcz53_1, hcz53_2, hfz53_0, hfz53_1, hfz53_2⟩ := cells3 BK240.out; obtain ⟨hcz54_0, hcz54_1, hcz54_2, hfz54_0, hfz54_1, hfz54_2⟩ := cells3 BK234.out) | ((with_reducible refine gate_callee (f := 102) rfl ?_); refine goesM (some 17) rfl rfl Try.func102 (by kernel_rfl) rfl #[.agg #[.int .i64 a0_0, .int .i64 a0_1, .int .i64 a0_2]] rfl ?_; (with_reducible refine (spec_SizeOf.calls a0_0 a0_1 a0_2 t241 _ A5.out).mono ?_); rintro e w55 ⟨rfl, hb⟩; refine ⟨_, rfl, ?_⟩; replace HB := bel_on w hb; replace BK234 := Aside0.mk (blk_below (g := gb234) (o := .cells #[.int .i64 a0_0, .int .i64 a0_1, .int .i64 a0_2] 25 (0, 0)) (blk_fars BK234.out) hb); replace BK235 := Aside0.mk (blk_below (g := gb235) (o := .cells #[.int .i64 a1_0, .int .i64 a1_1, .int .i64 a1_2, .int .i64 a1_3, .int .i64 a1_4, .int .i64 a1_5, .int .i64 a1_6, .slice A1_7 l1_7.length c1_7, .slice A1_8 l1_8.length c1_8] 73 (0, 0)) (blk_fars BK235.out) hb); replace BK240 := Aside0.mk (blk_below (g := gb240) (o := .cells #[.int .i64 t236, .int .i64 t237, .int .i64 t238] 25 (0, 0)) (blk_fars (puts3 BK240.out)) hb); (try clear hb); obtain ⟨hcz56_0, hcz56_1, hcz56_2, hcz56_3, hcz56_4, hcz56_5, hcz56_6, hcz56_7, hcz56_8, hfz56_0, hfz56_1, hfz56_2, hfz56_3, hfz56_4, hfz56_5, hfz56_6, hfz56_7, hfz56_8⟩ := cells9 BK235.out))
      replace BK234 := Aside0.mk (blk_drew BK234.out)
      replace BK235 := Aside0.mk (blk_drew BK235.out)
      replace BK240 := Aside0.mk (blk_drew BK240.out)
      replace HB := Aside0.mk (below_drew1 HB.out)
      refine start_ (n := 9) (S := fun w' => w'.cell? ⟨gb240, 0, none⟩ = some (.int .i64 t236) ∧ w'.cell? ⟨gb240, 1, none⟩ = some (.int .i64 t237) ∧ w'.cell? ⟨gb240, 2, none⟩ = some (.int .i64 t238) ∧ w'.cell? ⟨gb235, 0, none⟩ = some (.int .i64 a1_0) ∧ w'.cell? ⟨gb235, 1, none⟩ = some (.int .i64 a1_1) ∧ w'.cell? ⟨gb235, 2, none⟩ = some (.int .i64 a1_2) ∧ w'.cell? ⟨gb235, 3, none⟩ = some (.int .i64 a1_3) ∧ w'.cell? ⟨gb235, 4, none⟩ = some (.int .i64 a1_4) ∧ w'.cell? ⟨gb235, 5, none⟩ = some (.int .i64 a1_5) ∧ w'.cell? ⟨gb235, 6, none⟩ = some (.int .i64 a1_6) ∧ w'.cell? ⟨gb235, 7, none⟩ = some (.slice A1_7 l1_7.length c1_7) ∧ w'.cell? ⟨gb235, 8, none⟩ = some (.slice A1_8 l1_8.length c1_8)) (ds := []) #[O, O, O, O, O, O, O, O, O] (by kernel_rfl) rfl rfl ⟨bc BK240 0, bc BK240 1, bc BK240 2, bc BK235 0, bc BK235 1, bc BK235 2, bc BK235 3, bc BK235 4, bc BK235 5, bc BK235 6, bc BK235 7, bc BK235 8⟩ (fun hHeld => ?_); refine with_tabW spec_CostOf.tab12 spec_CostOf.bits12 (fun HT_ HW_ => ?_)
      generalize w55.drew = w57 at BK234 BK235 BK240 HB hHeld ⊢
      refine stepP 2 (some 45) (tk 9 4) (any_of HT_.out (by kernel_rfl)) ?_
      refine stepP 5 (some 48) (tk 9 36) (any_of HT_.out (by kernel_rfl)) ?_
      refine stepT 0 (some 43) (tk 9 37) (take_ofW HT_.out HW_.out (by kernel_rfl)) hHeld ?_
      refine stepT 3 (some 46) (tk 9 45) (take_ofW HT_.out HW_.out (by kernel_rfl)) hHeld ?_
      refine stepT 6 (some 49) (tk 9 109) (take_ofW HT_.out HW_.out (by kernel_rfl)) hHeld ?_
      refine one_ (i := 1) (N := some 44) #[I, I, I, I, O, I, I, O, O] rfl rfl (one_of HT_.out (by kernel_rfl)) (by decide) (fun K hK => ?_)
      refine goes_ Try.func102 (by kernel_rfl) rfl #[.agg #[.int .i64 t236, .int .i64 t237, .int .i64 t238]] (by rfl) rfl rfl (by (try simp only [List.map_toArray, List.map_cons, List.map_nil]); first | done | rfl | (simp only [List.length_drop, List.length_take]; rfl)) ?_
      with_reducible refine (spec_SizeOf.calls t236 t237 t238 t245 _ A43.out).mono ?_
      rintro e w58 ⟨rfl, hb⟩
      refine ⟨_, rfl, ?_⟩
      replace BK234 := blk_on gb234 hb
      replace BK235 := blk_on gb235 hb
      replace BK240 := blk_on gb240 hb
      replace HB := bel_on w hb
      (try clear hb)
      (try clear hb2)
      (try clear hk)
      (try clear hi)
      refine hK.out _ _ ⟨bc BK240 0, bc BK240 1, bc BK240 2, bc BK235 0, bc BK235 1, bc BK235 2, bc BK235 3, bc BK235 4, bc BK235 5, bc BK235 6, bc BK235 7, bc BK235 8⟩ (fun hHeld => ?_)
      clear hK K
      refine norm_ (a' := ?_) ?_ ?_
      rotate_left
      ·show Act.put _ (some 44) _ = _
       simp only [Act.put, zA, zB, zC, i64_w, i32_w]
       rfl
      refine stepP 4 (some 47) (tk 9 127) (any_of HT_.out (by kernel_rfl)) ?_
      refine stepP 7 (some 50) (tk 9 255) (any_of HT_.out (by kernel_rfl)) ?_
      refine stepP 8 (some 7) (tk 9 511) (any_of HT_.out (by kernel_rfl)) ?_
      refine done_ (done_of HT_.out (by kernel_rfl)) ?_
      try go_wp2
      go_ret
      exact ⟨eqN, bel_now⟩
     ·rw [if_neg c42] at H
      have c42b0 : (a1_0 == 2) = false := beq_eq_false_iff_ne.mpr c42
      have c42b1 : (a1_0 != 2) = true := bne_iff_ne.mpr c42
      by_cases c59 : a1_0 = 3
      ·rw [if_pos c59] at H
       have c59b0 : (a1_0 == 3) = true := beq_iff_eq.mpr c59
       have c59b1 : (a1_0 != 3) = false := bne_eq_false_iff_eq.mpr c59
       clear c59
       replace H := Option.bind_eq_some_iff.mp H
       obtain ⟨t246, A600, H⟩ := H
       (try dsimp only at H)
       have A60 := Aside0.mk A600
       clear A600
       obtain rfl := Option.some.inj H
       go_enter Try.func76, Try.ntmps76
       try go_wp2_with (first | ((with_reducible refine gate_dst (N := 2) rfl ?_); refine boxM 2 #[.int .i64 a0_0, .int .i64 a0_1, .int .i64 a0_2] 25 ?_; intro gb234 hg w61 BK234 hb; replace HB := box_at w hb hg; obtain ⟨HB, GW234, GE234⟩ := HB; clear hb hg) | ((with_reducible refine gate_dst (N := 3) rfl ?_); refine boxM 3 #[.int .i64 a1_0, .int .i64 a1_1, .int .i64 a1_2, .int .i64 a1_3, .int .i64 a1_4, .int .i64 a1_5, .int .i64 a1_6, .slice A1_7 l1_7.length c1_7, .slice A1_8 l1_8.length c1_8] 73 ?_; intro gb235 hg w62 BK235 hb; replace HB := box_at w hb hg; obtain ⟨HB, GW235, GE235⟩ := HB; replace BK234 := box_on gb234 hb hg; obtain ⟨BK234, NB234_235, NB235_234⟩ := BK234; clear hb hg; have hnb63 := NB234_235.out; have hnc63 := NB235_234.out; obtain ⟨hcz64_0, hcz64_1, hcz64_2, hfz64_0, hfz64_1, hfz64_2⟩ := cells3 BK234.out; obtain ⟨hcz65_0, hcz65_1, hcz65_2, hcz65_3, hcz65_4, hcz65_5, hcz65_6, hcz65_7, hcz65_8, hfz65_0, hfz65_1, hfz65_2, hfz65_3, hfz65_4, hfz65_5, hfz65_6, hfz65_7, hfz65_8⟩ := cells9 BK235.out) | ((with_reducible refine gate_callee (f := 98) rfl ?_); refine goesM (some 11) rfl rfl Try.func98 (by kernel_rfl) rfl #[.agg #[.int .i64 a0_0, .int .i64 a0_1, .int .i64 a0_2], .agg #[.int .i64 a1_0, .int .i64 a1_1, .int .i64 a1_2, .int .i64 a1_3, .int .i64 a1_4, .int .i64 a1_5, .int .i64 a1_6, .slice A1_7 l1_7.length c1_7, .slice A1_8 l1_8.length c1_8]] rfl ?_; (with_reducible refine (spec_OutShape.calls k a0_0 a0_1 a0_2 a1_0 a1_1 a1_2 a1_3 a1_4 a1_5 a1_6 _ _ l1_7 _ _ l1_8 t236 t237 t238 true _ ?side1 ?side2 ?side3 ?side4 A3.out).mono ?_); (case side1 => exact C_now HR1_7.out); (case side2 => exact HC1_7.out); (case side3 => exact C_now HR1_8.out); (case side4 => exact HC1_8.out); rintro e w66 ⟨rfl, hb⟩; refine ⟨_, rfl, ?_⟩; replace HB := bel_on w hb; replace BK234 := blk_on gb234 hb; replace BK235 := blk_on gb235 hb; (try clear hb)) | ((with_reducible refine gate_dst (N := 5) rfl ?_); refine boxM 5 #[.int .i64 0, .int .i64 0, .int .i64 0] 25 ?_; intro gb240 hg w67 BK240 hb; replace HB := box_at w hb hg; obtain ⟨HB, GW240, GE240⟩ := HB; replace BK234 := box_on gb234 hb hg; obtain ⟨BK234, NB234_240, NB240_234⟩ := BK234; replace BK235 := box_on gb235 hb hg; obtain ⟨BK235, NB235_240, NB240_235⟩ := BK235; clear hb hg; have hnb68 := NB240_234.out; have hnc68 := NB234_240.out; have hnb69 := NB240_235.out; have hnc69 := NB235_240.out; obtain ⟨hcz70_0, hcz70_1, hcz70_2, hfz70_0, hfz70_1, hfz70_2⟩ := cells3 BK240.out; obtain ⟨hcz71_0, hcz71_1, hcz71_2, hfz71_0, hfz71_1, hfz71_2⟩ := cells3 BK234.out) | ((with_reducible refine gate_callee (f := 102) rfl ?_); refine goesM (some 17) rfl rfl Try.func102 (by kernel_rfl) rfl #[.agg #[.int .i64 a0_0, .int .i64 a0_1, .int .i64 a0_2]] rfl ?_; (with_reducible refine (spec_SizeOf.calls a0_0 a0_1 a0_2 t241 _ A5.out).mono ?_); rintro e w72 ⟨rfl, hb⟩; refine ⟨_, rfl, ?_⟩; replace HB := bel_on w hb; replace BK234 := Aside0.mk (blk_below (g := gb234) (o := .cells #[.int .i64 a0_0, .int .i64 a0_1, .int .i64 a0_2] 25 (0, 0)) (blk_fars BK234.out) hb); replace BK235 := Aside0.mk (blk_below (g := gb235) (o := .cells #[.int .i64 a1_0, .int .i64 a1_1, .int .i64 a1_2, .int .i64 a1_3, .int .i64 a1_4, .int .i64 a1_5, .int .i64 a1_6, .slice A1_7 l1_7.length c1_7, .slice A1_8 l1_8.length c1_8] 73 (0, 0)) (blk_fars BK235.out) hb); replace BK240 := Aside0.mk (blk_below (g := gb240) (o := .cells #[.int .i64 t236, .int .i64 t237, .int .i64 t238] 25 (0, 0)) (blk_fars (puts3 BK240.out)) hb); (try clear hb); obtain ⟨hcz73_0, hcz73_1, hcz73_2, hcz73_3, hcz73_4, hcz73_5, hcz73_6, hcz73_7, hcz73_8, hfz73_0, hfz73_1, hfz73_2, hfz73_3, hfz73_4, hfz73_5, hfz73_6, hfz73_7, hfz73_8⟩ := cells9 BK235.out))
       replace BK234 := Aside0.mk (blk_drew BK234.out)
       replace BK235 := Aside0.mk (blk_drew BK235.out)
       replace BK240 := Aside0.mk (blk_drew BK240.out)
       replace HB := Aside0.mk (below_drew1 HB.out)
       refine start_ (n := 9) (S := fun w' => w'.cell? ⟨gb240, 0, none⟩ = some (.int .i64 t236) ∧ w'.cell? ⟨gb240, 1, none⟩ = some (.int .i64 t237) ∧ w'.cell? ⟨gb240, 2, none⟩ = some (.int .i64 t238) ∧ w'.cell? ⟨gb235, 0, none⟩ = some (.int .i64 a1_0) ∧ w'.cell? ⟨gb235, 1, none⟩ = some (.int .i64 a1_1) ∧ w'.cell? ⟨gb235, 2, none⟩ = some (.int .i64 a1_2) ∧ w'.cell? ⟨gb235, 3, none⟩ = some (.int .i64 a1_3) ∧ w'.cell? ⟨gb235, 4, none⟩ = some (.int .i64 a1_4) ∧ w'.cell? ⟨gb235, 5, none⟩ = some (.int .i64 a1_5) ∧ w'.cell? ⟨gb235, 6, none⟩ = some (.int .i64 a1_6) ∧ w'.cell? ⟨gb235, 7, none⟩ = some (.slice A1_7 l1_7.length c1_7) ∧ w'.cell? ⟨gb235, 8, none⟩ = some (.slice A1_8 l1_8.length c1_8)) (ds := []) #[O, O, O, O, O, O, O, O, O] (by kernel_rfl) rfl rfl ⟨bc BK240 0, bc BK240 1, bc BK240 2, bc BK235 0, bc BK235 1, bc BK235 2, bc BK235 3, bc BK235 4, bc BK235 5, bc BK235 6, bc BK235 7, bc BK235 8⟩ (fun hHeld => ?_); refine with_tabW spec_CostOf.tab12 spec_CostOf.bits12 (fun HT_ HW_ => ?_)
       generalize w72.drew = w74 at BK234 BK235 BK240 HB hHeld ⊢
       refine stepP 2 (some 45) (tk 9 4) (any_of HT_.out (by kernel_rfl)) ?_
       refine stepP 5 (some 48) (tk 9 36) (any_of HT_.out (by kernel_rfl)) ?_
       refine stepT 0 (some 43) (tk 9 37) (take_ofW HT_.out HW_.out (by kernel_rfl)) hHeld ?_
       refine stepT 3 (some 46) (tk 9 45) (take_ofW HT_.out HW_.out (by kernel_rfl)) hHeld ?_
       refine stepT 6 (some 49) (tk 9 109) (take_ofW HT_.out HW_.out (by kernel_rfl)) hHeld ?_
       refine one_ (i := 1) (N := some 44) #[I, I, I, I, O, I, I, O, O] rfl rfl (one_of HT_.out (by kernel_rfl)) (by decide) (fun K hK => ?_)
       refine goes_ Try.func102 (by kernel_rfl) rfl #[.agg #[.int .i64 t236, .int .i64 t237, .int .i64 t238]] (by rfl) rfl rfl (by (try simp only [List.map_toArray, List.map_cons, List.map_nil]); first | done | rfl | (simp only [List.length_drop, List.length_take]; rfl)) ?_
       with_reducible refine (spec_SizeOf.calls t236 t237 t238 t246 _ A60.out).mono ?_
       rintro e w75 ⟨rfl, hb⟩
       refine ⟨_, rfl, ?_⟩
       replace BK234 := blk_on gb234 hb
       replace BK235 := blk_on gb235 hb
       replace BK240 := blk_on gb240 hb
       replace HB := bel_on w hb
       (try clear hb)
       (try clear hb2)
       (try clear hk)
       (try clear hi)
       refine hK.out _ _ ⟨bc BK240 0, bc BK240 1, bc BK240 2, bc BK235 0, bc BK235 1, bc BK235 2, bc BK235 3, bc BK235 4, bc BK235 5, bc BK235 6, bc BK235 7, bc BK235 8⟩ (fun hHeld => ?_)
       clear hK K
       refine norm_ (a' := ?_) ?_ ?_
       rotate_left
       ·show Act.put _ (some 44) _ = _
        simp only [Act.put, zA, zB, zC, i64_w, i32_w]
        rfl
       refine stepP 4 (some 47) (tk 9 127) (any_of HT_.out (by kernel_rfl)) ?_
       refine stepP 7 (some 50) (tk 9 255) (any_of HT_.out (by kernel_rfl)) ?_
       refine stepP 8 (some 7) (tk 9 511) (any_of HT_.out (by kernel_rfl)) ?_
       refine done_ (done_of HT_.out (by kernel_rfl)) ?_
       try go_wp2
       go_ret
       exact ⟨eqN, bel_now⟩
      ·rw [if_neg c59] at H
       have c59b0 : (a1_0 == 3) = false := beq_eq_false_iff_ne.mpr c59
       have c59b1 : (a1_0 != 3) = true := bne_iff_ne.mpr c59
       obtain rfl := Option.some.inj H
       go_enter Try.func76, Try.ntmps76
       go_wp2_with (first | ((with_reducible refine gate_dst (N := 2) rfl ?_); refine boxM 2 #[.int .i64 a0_0, .int .i64 a0_1, .int .i64 a0_2] 25 ?_; intro gb234 hg w76 BK234 hb; replace HB := box_at w hb hg; obtain ⟨HB, GW234, GE234⟩ := HB; clear hb hg) | ((with_reducible refine gate_dst (N := 3) rfl ?_); refine boxM 3 #[.int .i64 a1_0, .int .i64 a1_1, .int .i64 a1_2, .int .i64 a1_3, .int .i64 a1_4, .int .i64 a1_5, .int .i64 a1_6, .slice A1_7 l1_7.length c1_7, .slice A1_8 l1_8.length c1_8] 73 ?_; intro gb235 hg w77 BK235 hb; replace HB := box_at w hb hg; obtain ⟨HB, GW235, GE235⟩ := HB; replace BK234 := box_on gb234 hb hg; obtain ⟨BK234, NB234_235, NB235_234⟩ := BK234; clear hb hg; have hnb78 := NB234_235.out; have hnc78 := NB235_234.out; obtain ⟨hcz79_0, hcz79_1, hcz79_2, hfz79_0, hfz79_1, hfz79_2⟩ := cells3 BK234.out; obtain ⟨hcz80_0, hcz80_1, hcz80_2, hcz80_3, hcz80_4, hcz80_5, hcz80_6, hcz80_7, hcz80_8, hfz80_0, hfz80_1, hfz80_2, hfz80_3, hfz80_4, hfz80_5, hfz80_6, hfz80_7, hfz80_8⟩ := cells9 BK235.out) | ((with_reducible refine gate_callee (f := 98) rfl ?_); refine goesM (some 11) rfl rfl Try.func98 (by kernel_rfl) rfl #[.agg #[.int .i64 a0_0, .int .i64 a0_1, .int .i64 a0_2], .agg #[.int .i64 a1_0, .int .i64 a1_1, .int .i64 a1_2, .int .i64 a1_3, .int .i64 a1_4, .int .i64 a1_5, .int .i64 a1_6, .slice A1_7 l1_7.length c1_7, .slice A1_8 l1_8.length c1_8]] rfl ?_; (with_reducible refine (spec_OutShape.calls k a0_0 a0_1 a0_2 a1_0 a1_1 a1_2 a1_3 a1_4 a1_5 a1_6 _ _ l1_7 _ _ l1_8 t236 t237 t238 true _ ?side1 ?side2 ?side3 ?side4 A3.out).mono ?_); (case side1 => exact C_now HR1_7.out); (case side2 => exact HC1_7.out); (case side3 => exact C_now HR1_8.out); (case side4 => exact HC1_8.out); rintro e w81 ⟨rfl, hb⟩; refine ⟨_, rfl, ?_⟩; replace HB := bel_on w hb; replace BK234 := blk_on gb234 hb; replace BK235 := blk_on gb235 hb; (try clear hb)) | ((with_reducible refine gate_dst (N := 5) rfl ?_); refine boxM 5 #[.int .i64 0, .int .i64 0, .int .i64 0] 25 ?_; intro gb240 hg w82 BK240 hb; replace HB := box_at w hb hg; obtain ⟨HB, GW240, GE240⟩ := HB; replace BK234 := box_on gb234 hb hg; obtain ⟨BK234, NB234_240, NB240_234⟩ := BK234; replace BK235 := box_on gb235 hb hg; obtain ⟨BK235, NB235_240, NB240_235⟩ := BK235; clear hb hg; have hnb83 := NB240_234.out; have hnc83 := NB234_240.out; have hnb84 := NB240_235.out; have hnc84 := NB235_240.out; obtain ⟨hcz85_0, hcz85_1, hcz85_2, hfz85_0, hfz85_1, hfz85_2⟩ := cells3 BK240.out; obtain ⟨hcz86_0, hcz86_1, hcz86_2, hfz86_0, hfz86_1, hfz86_2⟩ := cells3 BK234.out) | ((with_reducible refine gate_callee (f := 102) rfl ?_); refine goesM (some 17) rfl rfl Try.func102 (by kernel_rfl) rfl #[.agg #[.int .i64 a0_0, .int .i64 a0_1, .int .i64 a0_2]] rfl ?_; (with_reducible refine (spec_SizeOf.calls a0_0 a0_1 a0_2 t241 _ A5.out).mono ?_); rintro e w87 ⟨rfl, hb⟩; refine ⟨_, rfl, ?_⟩; replace HB := bel_on w hb; replace BK234 := Aside0.mk (blk_below (g := gb234) (o := .cells #[.int .i64 a0_0, .int .i64 a0_1, .int .i64 a0_2] 25 (0, 0)) (blk_fars BK234.out) hb); replace BK235 := Aside0.mk (blk_below (g := gb235) (o := .cells #[.int .i64 a1_0, .int .i64 a1_1, .int .i64 a1_2, .int .i64 a1_3, .int .i64 a1_4, .int .i64 a1_5, .int .i64 a1_6, .slice A1_7 l1_7.length c1_7, .slice A1_8 l1_8.length c1_8] 73 (0, 0)) (blk_fars BK235.out) hb); replace BK240 := Aside0.mk (blk_below (g := gb240) (o := .cells #[.int .i64 t236, .int .i64 t237, .int .i64 t238] 25 (0, 0)) (blk_fars (puts3 BK240.out)) hb); (try clear hb); obtain ⟨hcz88_0, hcz88_1, hcz88_2, hcz88_3, hcz88_4, hcz88_5, hcz88_6, hcz88_7, hcz88_8, hfz88_0, hfz88_1, hfz88_2, hfz88_3, hfz88_4, hfz88_5, hfz88_6, hfz88_7, hfz88_8⟩ := cells9 BK235.out))
       go_ret
       exact ⟨eqN, bel_now⟩
  ·replace c4 := Bool.eq_false_iff.mpr c4
   subst c4
   rw [if_neg (show ¬ (false = true) by decide)] at H
   obtain rfl := Option.some.inj H
   go_enter Try.func76, Try.ntmps76
   go_wp2_with (first | ((with_reducible refine gate_dst (N := 2) rfl ?_); refine boxM 2 #[.int .i64 a0_0, .int .i64 a0_1, .int .i64 a0_2] 25 ?_; intro gb234 hg w89 BK234 hb; replace HB := box_at w hb hg; obtain ⟨HB, GW234, GE234⟩ := HB; clear hb hg) | ((with_reducible refine gate_dst (N := 3) rfl ?_); refine boxM 3 #[.int .i64 a1_0, .int .i64 a1_1, .int .i64 a1_2, .int .i64 a1_3, .int .i64 a1_4, .int .i64 a1_5, .int .i64 a1_6, .slice A1_7 l1_7.length c1_7, .slice A1_8 l1_8.length c1_8] 73 ?_; intro gb235 hg w90 BK235 hb; replace HB := box_at w hb hg; obtain ⟨HB, GW235, GE235⟩ := HB; replace BK234 := box_on gb234 hb hg; obtain ⟨BK234, NB234_235, NB235_234⟩ := BK234; clear hb hg; have hnb91 := NB234_235.out; have hnc91 := NB235_234.out; obtain ⟨hcz92_0, hcz92_1, hcz92_2, hfz92_0, hfz92_1, hfz92_2⟩ := cells3 BK234.out; obtain ⟨hcz93_0, hcz93_1, hcz93_2, hcz93_3, hcz93_4, hcz93_5, hcz93_6, hcz93_7, hcz93_8, hfz93_0, hfz93_1, hfz93_2, hfz93_3, hfz93_4, hfz93_5, hfz93_6, hfz93_7, hfz93_8⟩ := cells9 BK235.out) | ((with_reducible refine gate_callee (f := 98) rfl ?_); refine goesM (some 11) rfl rfl Try.func98 (by kernel_rfl) rfl #[.agg #[.int .i64 a0_0, .int .i64 a0_1, .int .i64 a0_2], .agg #[.int .i64 a1_0, .int .i64 a1_1, .int .i64 a1_2, .int .i64 a1_3, .int .i64 a1_4, .int .i64 a1_5, .int .i64 a1_6, .slice A1_7 l1_7.length c1_7, .slice A1_8 l1_8.length c1_8]] rfl ?_; (with_reducible refine (spec_OutShape.calls k a0_0 a0_1 a0_2 a1_0 a1_1 a1_2 a1_3 a1_4 a1_5 a1_6 _ _ l1_7 _ _ l1_8 t236 t237 t238 false _ ?side1 ?side2 ?side3 ?side4 A3.out).mono ?_); (case side1 => exact C_now HR1_7.out); (case side2 => exact HC1_7.out); (case side3 => exact C_now HR1_8.out); (case side4 => exact HC1_8.out); rintro e w94 ⟨rfl, hb⟩; refine ⟨_, rfl, ?_⟩; replace HB := bel_on w hb; replace BK234 := blk_on gb234 hb; replace BK235 := blk_on gb235 hb; (try clear hb)) | ((with_reducible refine gate_dst (N := 5) rfl ?_); refine boxM 5 #[.int .i64 0, .int .i64 0, .int .i64 0] 25 ?_; intro gb240 hg w95 BK240 hb; replace HB := box_at w hb hg; obtain ⟨HB, GW240, GE240⟩ := HB; replace BK234 := box_on gb234 hb hg; obtain ⟨BK234, NB234_240, NB240_234⟩ := BK234; replace BK235 := box_on gb235 hb hg; obtain ⟨BK235, NB235_240, NB240_235⟩ := BK235; clear hb hg; have hnb96 := NB240_234.out; have hnc96 := NB234_240.out; have hnb97 := NB240_235.out; have hnc97 := NB235_240.out; obtain ⟨hcz98_0, hcz98_1, hcz98_2, hfz98_0, hfz98_1, hfz98_2⟩ := cells3 BK240.out))
   go_ret
   exact ⟨eqN, bel_now⟩

end Go.Proofs.Ytljdcemdhmaahaa.PFnExactNextCost
