-- Printed by the session's own program (wip/myprint.py) for this claim out of the translation. Not trusted: Lean checks it.
import Derived.Test.YtljdcemdhmaahaaPFnExactCostsOfx0
import Derived.Test.YtljdcemdhmaahaaPFnExactCostsOfx7
import Derived.Test.YtljdcemdhmaahaaPFnExactCostsOfx9
import Derived.Test.YtljdcemdhmaahaaPFnExactCostsOfx10
namespace Go.Proofs.Ytljdcemdhmaahaa.PFnExactCostsOf
open Go.RowKit Go.Proofs.YtljdcemdhmaahaaW.PrintWords Go.Proofs.YtljdcemdhmaahaaW.PrintLast Go.Proofs.YtljdcemdhmaahaaW.PrintMore
attribute [local go_sem] max2_int min2_int max_two min_two max_three min_three max_four min_four   -- for this text's walks alone
set_option linter.unusedVariables false
set_option linter.unusedSimpArgs false

/-! ### impl_CostOf: function 77 -/
def impl_CostOf.f (k : Nat) (a0_0 : Int) (a0_1 : Int) (a0_2 : Int) (a1_0 : Int) (a1_1 : Int) (a1_2 : Int) (a1_3 : Int) (a1_4 : Int) (a1_5 : Int) (a1_6 : Int) (l1_7 : List Int) (l1_8 : List Int) : Option (Int) := (impl_OutShape.f k a0_0 a0_1 a0_2 a1_0 a1_1 a1_2 a1_3 a1_4 a1_5 a1_6 l1_7 l1_8).bind fun bt309 => (if bt309.2.2.2 = true then ((impl_SizeOf.f a0_0 a0_1 a0_2).bind fun t314 => (if a1_0 = 0 then ((impl_SizeOf.f bt309.1 bt309.2.1 bt309.2.2.1).bind fun t315 => (some (wrap64 (1 + (wrap64 (Int.tdiv (wrap64 (t314 * t315)) 16)))))) else (if a1_0 = 1 then ((impl_SizeOf.f bt309.1 bt309.2.1 bt309.2.2.1).bind fun t316 => (some (wrap64 (1 + (wrap64 (Int.tdiv (wrap64 ((wrap64 ((wrap64 (t316 * a1_2)) * a1_2)) * a0_2)) 16)))))) else (if a1_0 = 2 then ((impl_SizeOf.f bt309.1 bt309.2.1 bt309.2.2.1).bind fun t317 => (some (wrap64 (1 + (wrap64 (Int.tdiv (wrap64 ((wrap64 (t317 * a1_2)) * a1_2)) 16)))))) else (if a1_0 = 3 then ((impl_SizeOf.f bt309.1 bt309.2.1 bt309.2.2.1).bind fun t318 => (some (wrap64 (1 + (wrap64 (Int.tdiv (wrap64 ((wrap64 (t318 * a1_2)) * a1_2)) 16)))))) else (some (wrap64 (1 + (wrap64 (Int.tdiv t314 16)))))))))) else (some 0))
def impl_CostOf.T9 : Bool × List (List Nat × List Nat) := (true, [([], []), ([0], [0]), ([], []), ([2], [2]), ([1, 3], [1, 3]), ([], []), ([5], [5]), ([4, 6], [4, 6]), ([], []), ([8], [8]), ([7, 9], [7, 9]), ([10, 1, 0, 1, 2, 3, 4, 5, 6, 7, 8, 9, 10], [10])])
def impl_CostOf.B9 : List Nat := [0, 1, 0, 4, 15, 0, 32, 127, 0, 256, 1023, 2047]
theorem impl_CostOf.tab9 : rtab .any (opsOf Try.f77 9) = impl_CostOf.T9 := by kernel_rfl
theorem impl_CostOf.bits9 : waitsOk impl_CostOf.T9.2 impl_CostOf.B9 = true := by kernel_rfl
def impl_CostOf.T12 : Bool × List (List Nat × List Nat) := (true, [([], []), ([0], [0]), ([], []), ([2], [2]), ([1, 3], [1, 3]), ([], []), ([5], [5]), ([4, 6], [4, 6]), ([7, 1, 0, 1, 2, 3, 4, 5, 6, 7], [7])])
def impl_CostOf.B12 : List Nat := [0, 1, 0, 4, 15, 0, 32, 127, 255]
theorem impl_CostOf.tab12 : rtab .any (opsOf Try.f77 12) = impl_CostOf.T12 := by kernel_rfl
theorem impl_CostOf.bits12 : waitsOk impl_CostOf.T12.2 impl_CostOf.B12 = true := by kernel_rfl
set_option maxHeartbeats 8000000 in
set_option maxRecDepth 100000 in
theorem impl_CostOf.calls (k : Nat) (a0_0 : Int) (a0_1 : Int) (a0_2 : Int) (a1_0 : Int) (a1_1 : Int) (a1_2 : Int) (a1_3 : Int) (a1_4 : Int) (a1_5 : Int) (a1_6 : Int) (A1_7 : Option Addr) (c1_7 : Nat) (l1_7 : List Int) (A1_8 : Option Addr) (c1_8 : Nat) (l1_8 : List Int) (r : Int) (w : World) (hr1_7 : Kd.C (Kd.int .i64) w A1_7 l1_7.length l1_7) (hc1_7 : l1_7.length ≤ c1_7) (hr1_8 : Kd.C (Kd.int .i64) w A1_8 l1_8.length l1_8) (hc1_8 : l1_8.length ≤ c1_8) (h : impl_CostOf.f k a0_0 a0_1 a0_2 a1_0 a1_1 a1_2 a1_3 a1_4 a1_5 a1_6 l1_7 l1_8 = some r) :
   Calls Try.prog 77 #[.agg #[.int .i64 a0_0, .int .i64 a0_1, .int .i64 a0_2], .agg #[.int .i64 a1_0, .int .i64 a1_1, .int .i64 a1_2, .int .i64 a1_3, .int .i64 a1_4, .int .i64 a1_5, .int .i64 a1_6, .slice A1_7 l1_7.length c1_7, .slice A1_8 l1_8.length c1_8]] w fun e w' => e = .returned (.int .i64 r) ∧ Below w.heap.size w w' := by
  have hu25 := Try.underlying25
  have hu73 := Try.underlying73
  have HR1_7 := Aside0.mk hr1_7
  have HC1_7 := Aside0.mk hc1_7
  clear hr1_7 hc1_7
  have HR1_8 := Aside0.mk hr1_8
  have HC1_8 := Aside0.mk hc1_8
  clear hr1_8 hc1_8
  have HB := Aside0.mk (Below.refl w.heap.size w)
  have H : ((impl_OutShape.f k a0_0 a0_1 a0_2 a1_0 a1_1 a1_2 a1_3 a1_4 a1_5 a1_6 l1_7 l1_8).bind fun bt309 => (if bt309.2.2.2 = true then ((impl_SizeOf.f a0_0 a0_1 a0_2).bind fun t314 => (if a1_0 = 0 then ((impl_SizeOf.f bt309.1 bt309.2.1 bt309.2.2.1).bind fun t315 => (some (wrap64 (1 + (wrap64 (Int.tdiv (wrap64 (t314 * t315)) 16)))))) else (if a1_0 = 1 then ((impl_SizeOf.f bt309.1 bt309.2.1 bt309.2.2.1).bind fun t316 => (some (wrap64 (1 + (wrap64 (Int.tdiv (wrap64 ((wrap64 ((wrap64 (t316 * a1_2)) * a1_2)) * a0_2)) 16)))))) else (if a1_0 = 2 then ((impl_SizeOf.f bt309.1 bt309.2.1 bt309.2.2.1).bind fun t317 => (some (wrap64 (1 + (wrap64 (Int.tdiv (wrap64 ((wrap64 (t317 * a1_2)) * a1_2)) 16)))))) else (if a1_0 = 3 then ((impl_SizeOf.f bt309.1 bt309.2.1 bt309.2.2.1).bind fun t318 => (some (wrap64 (1 + (wrap64 (Int.tdiv (wrap64 ((wrap64 (t318 * a1_2)) * a1_2)) 16)))))) else (some (wrap64 (1 + (wrap64 (Int.tdiv t314 16)))))))))) else (some 0))) = some r := h
  clear h
  replace H := Option.bind_eq_some_iff.mp H
  obtain ⟨⟨t309, t310, t311, t312⟩, A30, H⟩ := H
  (try dsimp only at H)
  have A3 := Aside0.mk A30
  clear A30
  by_cases c4 : t312 = true
  rotate_left
  ·replace c4 := Bool.eq_false_iff.mpr c4
   subst c4
   rw [if_neg (show ¬ (false = true) by decide)] at H
   obtain rfl := Option.some.inj H
   go_enter Try.func77, Try.ntmps77
   go_wp2_with (first | ((with_reducible refine gate_dst (N := 2) rfl ?_); refine boxM 2 #[.int .i64 a0_0, .int .i64 a0_1, .int .i64 a0_2] 25 ?_; intro gb307 hg w87 BK307 hb; replace HB := box_at w hb hg; obtain ⟨HB, GW307, GE307⟩ := HB; clear hb hg) | ((with_reducible refine gate_dst (N := 3) rfl ?_); refine boxM 3 #[.int .i64 a1_0, .int .i64 a1_1, .int .i64 a1_2, .int .i64 a1_3, .int .i64 a1_4, .int .i64 a1_5, .int .i64 a1_6, .slice A1_7 l1_7.length c1_7, .slice A1_8 l1_8.length c1_8] 73 ?_; intro gb308 hg w88 BK308 hb; replace HB := box_at w hb hg; obtain ⟨HB, GW308, GE308⟩ := HB; replace BK307 := box_on gb307 hb hg; obtain ⟨BK307, NB307_308, NB308_307⟩ := BK307; clear hb hg; have hn89 := ne2 NB307_308; have hcz90 := cells3 BK307.out; have hcz91 := cells9 BK308.out) | ((with_reducible refine gate_callee (f := 100) rfl ?_); refine goesM (some 11) rfl rfl Try.func100 (by kernel_rfl) rfl #[.agg #[.int .i64 a0_0, .int .i64 a0_1, .int .i64 a0_2], .agg #[.int .i64 a1_0, .int .i64 a1_1, .int .i64 a1_2, .int .i64 a1_3, .int .i64 a1_4, .int .i64 a1_5, .int .i64 a1_6, .slice A1_7 l1_7.length c1_7, .slice A1_8 l1_8.length c1_8]] rfl ?_; (with_reducible refine (impl_OutShape.calls k a0_0 a0_1 a0_2 a1_0 a1_1 a1_2 a1_3 a1_4 a1_5 a1_6 _ _ l1_7 _ _ l1_8 t309 t310 t311 false _ ?side1 ?side2 ?side3 ?side4 A3.out).mono ?_); (case side1 => exact C_now HR1_7.out); (case side2 => exact HC1_7.out); (case side3 => exact C_now HR1_8.out); (case side4 => exact HC1_8.out); rintro e w92 ⟨rfl, hb⟩; refine ⟨_, rfl, ?_⟩; replace HB := bel_on w hb; replace BK307 := blk_on gb307 hb; replace BK308 := blk_on gb308 hb; (try clear hb)) | ((with_reducible refine gate_dst (N := 5) rfl ?_); refine boxM 5 #[.int .i64 0, .int .i64 0, .int .i64 0] 25 ?_; intro gb313 hg w93 BK313 hb; replace HB := box_at w hb hg; obtain ⟨HB, GW313, GE313⟩ := HB; replace BK307 := box_on gb307 hb hg; obtain ⟨BK307, NB307_313, NB313_307⟩ := BK307; replace BK308 := box_on gb308 hb hg; obtain ⟨BK308, NB308_313, NB313_308⟩ := BK308; clear hb hg; have hn94 := ne2 NB313_307; have hn95 := ne2 NB313_308; have hcz96 := cells3 BK313.out))
   go_ret
   exact ⟨eqN, bel_now⟩
  subst c4
  rw [if_pos rfl] at H
  replace H := Option.bind_eq_some_iff.mp H
  obtain ⟨t314, A50, H⟩ := H
  (try dsimp only at H)
  have A5 := Aside0.mk A50
  clear A50
  by_cases c6 : a1_0 = 0
  ·rw [if_pos c6] at H
   have c6b0 : (a1_0 == 0) = true := beq_iff_eq.mpr c6
   have c6b1 : (a1_0 != 0) = false := bne_eq_false_iff_eq.mpr c6
   clear c6
   replace H := Option.bind_eq_some_iff.mp H
   obtain ⟨t315, A70, H⟩ := H
   (try dsimp only at H)
   have A7 := Aside0.mk A70
   clear A70
   obtain rfl := Option.some.inj H
   go_enter Try.func77, Try.ntmps77
   go_wp2_with (first | ((with_reducible refine gate_dst (N := 2) rfl ?_); refine boxM 2 #[.int .i64 a0_0, .int .i64 a0_1, .int .i64 a0_2] 25 ?_; intro gb307 hg w8 BK307 hb; replace HB := box_at w hb hg; obtain ⟨HB, GW307, GE307⟩ := HB; clear hb hg) | ((with_reducible refine gate_dst (N := 3) rfl ?_); refine boxM 3 #[.int .i64 a1_0, .int .i64 a1_1, .int .i64 a1_2, .int .i64 a1_3, .int .i64 a1_4, .int .i64 a1_5, .int .i64 a1_6, .slice A1_7 l1_7.length c1_7, .slice A1_8 l1_8.length c1_8] 73 ?_; intro gb308 hg w9 BK308 hb; replace HB := box_at w hb hg; obtain ⟨HB, GW308, GE308⟩ := HB; replace BK307 := box_on gb307 hb hg; obtain ⟨BK307, NB307_308, NB308_307⟩ := BK307; clear hb hg; have hn10 := ne2 NB307_308; have hcz11 := cells3 BK307.out; have hcz12 := cells9 BK308.out) | ((with_reducible refine gate_callee (f := 100) rfl ?_); refine goesM (some 11) rfl rfl Try.func100 (by kernel_rfl) rfl #[.agg #[.int .i64 a0_0, .int .i64 a0_1, .int .i64 a0_2], .agg #[.int .i64 a1_0, .int .i64 a1_1, .int .i64 a1_2, .int .i64 a1_3, .int .i64 a1_4, .int .i64 a1_5, .int .i64 a1_6, .slice A1_7 l1_7.length c1_7, .slice A1_8 l1_8.length c1_8]] rfl ?_; (with_reducible refine (impl_OutShape.calls k a0_0 a0_1 a0_2 a1_0 a1_1 a1_2 a1_3 a1_4 a1_5 a1_6 _ _ l1_7 _ _ l1_8 t309 t310 t311 true _ ?side1 ?side2 ?side3 ?side4 A3.out).mono ?_); (case side1 => exact C_now HR1_7.out); (case side2 => exact HC1_7.out); (case side3 => exact C_now HR1_8.out); (case side4 => exact HC1_8.out); rintro e w13 ⟨rfl, hb⟩; refine ⟨_, rfl, ?_⟩; replace HB := bel_on w hb; replace BK307 := blk_on gb307 hb; replace BK308 := blk_on gb308 hb; (try clear hb)) | ((with_reducible refine gate_dst (N := 5) rfl ?_); refine boxM 5 #[.int .i64 0, .int .i64 0, .int .i64 0] 25 ?_; intro gb313 hg w14 BK313 hb; replace HB := box_at w hb hg; obtain ⟨HB, GW313, GE313⟩ := HB; replace BK307 := box_on gb307 hb hg; obtain ⟨BK307, NB307_313, NB313_307⟩ := BK307; replace BK308 := box_on gb308 hb hg; obtain ⟨BK308, NB308_313, NB313_308⟩ := BK308; clear hb hg; have hn15 := ne2 NB313_307; have hn16 := ne2 NB313_308; have hcz17 := cells3 BK313.out; have hcz18 := cells3 BK307.out) | ((with_reducible refine gate_callee (f := 103) rfl ?_); refine goesM (some 17) rfl rfl Try.func103 (by kernel_rfl) rfl #[.agg #[.int .i64 a0_0, .int .i64 a0_1, .int .i64 a0_2]] rfl ?_; (with_reducible refine (impl_SizeOf.calls a0_0 a0_1 a0_2 t314 _ A5.out).mono ?_); rintro e w19 ⟨rfl, hb⟩; refine ⟨_, rfl, ?_⟩; replace HB := bel_on w hb; replace BK307 := Aside0.mk (blk_below (g := gb307) (o := .cells #[.int .i64 a0_0, .int .i64 a0_1, .int .i64 a0_2] 25 (0, 0)) (blk_fars BK307.out) hb); replace BK308 := Aside0.mk (blk_below (g := gb308) (o := .cells #[.int .i64 a1_0, .int .i64 a1_1, .int .i64 a1_2, .int .i64 a1_3, .int .i64 a1_4, .int .i64 a1_5, .int .i64 a1_6, .slice A1_7 l1_7.length c1_7, .slice A1_8 l1_8.length c1_8] 73 (0, 0)) (blk_fars BK308.out) hb); replace BK313 := Aside0.mk (blk_below (g := gb313) (o := .cells #[.int .i64 t309, .int .i64 t310, .int .i64 t311] 25 (0, 0)) (blk_fars (puts3 BK313.out)) hb); (try clear hb); have hcz20 := cells9 BK308.out; have hcz21 := cells3 BK313.out) | ((with_reducible refine gate_callee (f := 103) rfl ?_); refine goesM (some 24) rfl rfl Try.func103 (by kernel_rfl) rfl #[.agg #[.int .i64 t309, .int .i64 t310, .int .i64 t311]] rfl ?_; (with_reducible refine (impl_SizeOf.calls t309 t310 t311 t315 _ A7.out).mono ?_); rintro e w22 ⟨rfl, hb⟩; refine ⟨_, rfl, ?_⟩; replace HB := bel_on w hb; replace BK307 := blk_on gb307 hb; replace BK308 := blk_on gb308 hb; replace BK313 := blk_on gb313 hb; (try clear hb)))
   go_ret
   exact ⟨eqN, bel_now⟩
  rw [if_neg c6] at H
  have c6b0 : (a1_0 == 0) = false := beq_eq_false_iff_ne.mpr c6
  have c6b1 : (a1_0 != 0) = true := bne_iff_ne.mpr c6
  by_cases c23 : a1_0 = 1
  ·rw [if_pos c23] at H
   have c23b0 : (a1_0 == 1) = true := beq_iff_eq.mpr c23
   have c23b1 : (a1_0 != 1) = false := bne_eq_false_iff_eq.mpr c23
   clear c23
   replace H := Option.bind_eq_some_iff.mp H
   obtain ⟨t316, A240, H⟩ := H
   (try dsimp only at H)
   have A24 := Aside0.mk A240
   clear A240
   obtain rfl := Option.some.inj H
   go_enter Try.func77, Try.ntmps77
   try go_wp2_with (first | ((with_reducible refine gate_dst (N := 2) rfl ?_); refine boxM 2 #[.int .i64 a0_0, .int .i64 a0_1, .int .i64 a0_2] 25 ?_; intro gb307 hg w25 BK307 hb; replace HB := box_at w hb hg; obtain ⟨HB, GW307, GE307⟩ := HB; clear hb hg) | ((with_reducible refine gate_dst (N := 3) rfl ?_); refine boxM 3 #[.int .i64 a1_0, .int .i64 a1_1, .int .i64 a1_2, .int .i64 a1_3, .int .i64 a1_4, .int .i64 a1_5, .int .i64 a1_6, .slice A1_7 l1_7.length c1_7, .slice A1_8 l1_8.length c1_8] 73 ?_; intro gb308 hg w26 BK308 hb; replace HB := box_at w hb hg; obtain ⟨HB, GW308, GE308⟩ := HB; replace BK307 := box_on gb307 hb hg; obtain ⟨BK307, NB307_308, NB308_307⟩ := BK307; clear hb hg; have hn27 := ne2 NB307_308; have hcz28 := cells3 BK307.out; have hcz29 := cells9 BK308.out) | ((with_reducible refine gate_callee (f := 100) rfl ?_); refine goesM (some 11) rfl rfl Try.func100 (by kernel_rfl) rfl #[.agg #[.int .i64 a0_0, .int .i64 a0_1, .int .i64 a0_2], .agg #[.int .i64 a1_0, .int .i64 a1_1, .int .i64 a1_2, .int .i64 a1_3, .int .i64 a1_4, .int .i64 a1_5, .int .i64 a1_6, .slice A1_7 l1_7.length c1_7, .slice A1_8 l1_8.length c1_8]] rfl ?_; (with_reducible refine (impl_OutShape.calls k a0_0 a0_1 a0_2 a1_0 a1_1 a1_2 a1_3 a1_4 a1_5 a1_6 _ _ l1_7 _ _ l1_8 t309 t310 t311 true _ ?side1 ?side2 ?side3 ?side4 A3.out).mono ?_); (case side1 => exact C_now HR1_7.out); (case side2 => exact HC1_7.out); (case side3 => exact C_now HR1_8.out); (case side4 => exact HC1_8.out); rintro e w30 ⟨rfl, hb⟩; refine ⟨_, rfl, ?_⟩; replace HB := bel_on w hb; replace BK307 := blk_on gb307 hb; replace BK308 := blk_on gb308 hb; (try clear hb)) | ((with_reducible refine gate_dst (N := 5) rfl ?_); refine boxM 5 #[.int .i64 0, .int .i64 0, .int .i64 0] 25 ?_; intro gb313 hg w31 BK313 hb; replace HB := box_at w hb hg; obtain ⟨HB, GW313, GE313⟩ := HB; replace BK307 := box_on gb307 hb hg; obtain ⟨BK307, NB307_313, NB313_307⟩ := BK307; replace BK308 := box_on gb308 hb hg; obtain ⟨BK308, NB308_313, NB313_308⟩ := BK308; clear hb hg; have hn32 := ne2 NB313_307; have hn33 := ne2 NB313_308; have hcz34 := cells3 BK313.out; have hcz35 := cells3 BK307.out) | ((with_reducible refine gate_callee (f := 103) rfl ?_); refine goesM (some 17) rfl rfl Try.func103 (by kernel_rfl) rfl #[.agg #[.int .i64 a0_0, .int .i64 a0_1, .int .i64 a0_2]] rfl ?_; (with_reducible refine (impl_SizeOf.calls a0_0 a0_1 a0_2 t314 _ A5.out).mono ?_); rintro e w36 ⟨rfl, hb⟩; refine ⟨_, rfl, ?_⟩; replace HB := bel_on w hb; replace BK307 := Aside0.mk (blk_below (g := gb307) (o := .cells #[.int .i64 a0_0, .int .i64 a0_1, .int .i64 a0_2] 25 (0, 0)) (blk_fars BK307.out) hb); replace BK308 := Aside0.mk (blk_below (g := gb308) (o := .cells #[.int .i64 a1_0, .int .i64 a1_1, .int .i64 a1_2, .int .i64 a1_3, .int .i64 a1_4, .int .i64 a1_5, .int .i64 a1_6, .slice A1_7 l1_7.length c1_7, .slice A1_8 l1_8.length c1_8] 73 (0, 0)) (blk_fars BK308.out) hb); replace BK313 := Aside0.mk (blk_below (g := gb313) (o := .cells #[.int .i64 t309, .int .i64 t310, .int .i64 t311] 25 (0, 0)) (blk_fars (puts3 BK313.out)) hb); (try clear hb); have hcz37 := cells9 BK308.out))
   replace BK307 := Aside0.mk (blk_drew BK307.out)
   replace BK308 := Aside0.mk (blk_drew BK308.out)
   replace BK313 := Aside0.mk (blk_drew BK313.out)
   replace HB := Aside0.mk (below_drew1 HB.out)
   refine start_ (n := 12) (S := fun w' => w'.cell? ⟨gb313, 0, none⟩ = some (.int .i64 t309) ∧ w'.cell? ⟨gb313, 1, none⟩ = some (.int .i64 t310) ∧ w'.cell? ⟨gb313, 2, none⟩ = some (.int .i64 t311) ∧ w'.cell? ⟨gb308, 0, none⟩ = some (.int .i64 a1_0) ∧ w'.cell? ⟨gb308, 1, none⟩ = some (.int .i64 a1_1) ∧ w'.cell? ⟨gb308, 2, none⟩ = some (.int .i64 a1_2) ∧ w'.cell? ⟨gb308, 3, none⟩ = some (.int .i64 a1_3) ∧ w'.cell? ⟨gb308, 4, none⟩ = some (.int .i64 a1_4) ∧ w'.cell? ⟨gb308, 5, none⟩ = some (.int .i64 a1_5) ∧ w'.cell? ⟨gb308, 6, none⟩ = some (.int .i64 a1_6) ∧ w'.cell? ⟨gb308, 7, none⟩ = some (.slice A1_7 l1_7.length c1_7) ∧ w'.cell? ⟨gb308, 8, none⟩ = some (.slice A1_8 l1_8.length c1_8) ∧ w'.cell? ⟨gb307, 0, none⟩ = some (.int .i64 a0_0) ∧ w'.cell? ⟨gb307, 1, none⟩ = some (.int .i64 a0_1) ∧ w'.cell? ⟨gb307, 2, none⟩ = some (.int .i64 a0_2)) (ds := []) #[O, O, O, O, O, O, O, O, O, O, O, O] (by kernel_rfl) rfl rfl ⟨bc BK313 0, bc BK313 1, bc BK313 2, bc BK308 0, bc BK308 1, bc BK308 2, bc BK308 3, bc BK308 4, bc BK308 5, bc BK308 6, bc BK308 7, bc BK308 8, bc BK307 0, bc BK307 1, bc BK307 2⟩ (fun hHeld => ?_); refine with_tabW impl_CostOf.tab9 impl_CostOf.bits9 (fun HT_ HW_ => ?_)
   generalize w36.drew = w38 at BK307 BK308 BK313 HB hHeld ⊢
   refine stepP 2 (some 30) (tk 12 4) (any_of HT_.out (by kernel_rfl)) ?_
   refine stepP 5 (some 33) (tk 12 36) (any_of HT_.out (by kernel_rfl)) ?_
   refine stepP 8 (some 36) (tk 12 292) (any_of HT_.out (by kernel_rfl)) ?_
   refine stepT 0 (some 28) (tk 12 293) (take_ofW HT_.out HW_.out (by kernel_rfl)) hHeld ?_
   refine stepT 3 (some 31) (tk 12 301) (take_ofW HT_.out HW_.out (by kernel_rfl)) hHeld ?_
   refine stepT 6 (some 34) (tk 12 365) (take_ofW HT_.out HW_.out (by kernel_rfl)) hHeld ?_
   refine stepT 9 (some 37) (tk 12 877) (take_ofW HT_.out HW_.out (by kernel_rfl)) hHeld ?_
   refine one_ (i := 1) (N := some 29) #[I, I, I, I, O, I, I, O, I, I, O, O] rfl rfl (one_of HT_.out (by kernel_rfl)) (by decide) (fun K hK => ?_)
   refine goes_ Try.func103 (by kernel_rfl) rfl #[.agg #[.int .i64 t309, .int .i64 t310, .int .i64 t311]] (by rfl) rfl rfl (by (try simp only [List.map_toArray, List.map_cons, List.map_nil]); first | done | rfl | (simp only [List.length_drop, List.length_take]; rfl)) ?_
   with_reducible refine (impl_SizeOf.calls t309 t310 t311 t316 _ A24.out).mono ?_
   rintro e w39 ⟨rfl, hb⟩
   refine ⟨_, rfl, ?_⟩
   replace BK307 := blk_on gb307 hb
   replace BK308 := blk_on gb308 hb
   replace BK313 := blk_on gb313 hb
   replace HB := bel_on w hb
   (try clear hb)
   refine hK.out _ _ ⟨bc BK313 0, bc BK313 1, bc BK313 2, bc BK308 0, bc BK308 1, bc BK308 2, bc BK308 3, bc BK308 4, bc BK308 5, bc BK308 6, bc BK308 7, bc BK308 8, bc BK307 0, bc BK307 1, bc BK307 2⟩ (fun hHeld => ?_)
   clear hK K
   refine normP 29 ?_
   refine stepP 4 (some 32) (tk 12 895) (any_of HT_.out (by kernel_rfl)) ?_
   refine stepP 7 (some 35) (tk 12 1023) (any_of HT_.out (by kernel_rfl)) ?_
   refine stepP 10 (some 38) (tk 12 2047) (any_of HT_.out (by kernel_rfl)) ?_
   refine stepP 11 (some 7) (tk 12 4095) (any_of HT_.out (by kernel_rfl)) ?_
   refine done_ (done_of HT_.out (by kernel_rfl)) ?_
   try go_wp2
   go_ret
   exact ⟨eqN, bel_now⟩
  rw [if_neg c23] at H
  have c23b0 : (a1_0 == 1) = false := beq_eq_false_iff_ne.mpr c23
  have c23b1 : (a1_0 != 1) = true := bne_iff_ne.mpr c23
  by_cases c40 : a1_0 = 2
  ·rw [if_pos c40] at H
   have c40b0 : (a1_0 == 2) = true := beq_iff_eq.mpr c40
   have c40b1 : (a1_0 != 2) = false := bne_eq_false_iff_eq.mpr c40
   clear c40
   replace H := Option.bind_eq_some_iff.mp H
   obtain ⟨t317, A410, H⟩ := H
   (try dsimp only at H)
   have A41 := Aside0.mk A410
   clear A410
   obtain rfl := Option.some.inj H
   go_enter Try.func77, Try.ntmps77
   try go_wp2_with (first | ((with_reducible refine gate_dst (N := 2) rfl ?_); refine boxM 2 #[.int .i64 a0_0, .int .i64 a0_1, .int .i64 a0_2] 25 ?_; intro gb307 hg w42 BK307 hb; replace HB := box_at w hb hg; obtain ⟨HB, GW307, GE307⟩ := HB; clear hb hg) | ((with_reducible refine gate_dst (N := 3) rfl ?_); refine boxM 3 #[.int .i64 a1_0, .int .i64 a1_1, .int .i64 a1_2, .int .i64 a1_3, .int .i64 a1_4, .int .i64 a1_5, .int .i64 a1_6, .slice A1_7 l1_7.length c1_7, .slice A1_8 l1_8.length c1_8] 73 ?_; intro gb308 hg w43 BK308 hb; replace HB := box_at w hb hg; obtain ⟨HB, GW308, GE308⟩ := HB; replace BK307 := box_on gb307 hb hg; obtain ⟨BK307, NB307_308, NB308_307⟩ := BK307; clear hb hg; have hn44 := ne2 NB307_308; have hcz45 := cells3 BK307.out; have hcz46 := cells9 BK308.out) | ((with_reducible refine gate_callee (f := 100) rfl ?_); refine goesM (some 11) rfl rfl Try.func100 (by kernel_rfl) rfl #[.agg #[.int .i64 a0_0, .int .i64 a0_1, .int .i64 a0_2], .agg #[.int .i64 a1_0, .int .i64 a1_1, .int .i64 a1_2, .int .i64 a1_3, .int .i64 a1_4, .int .i64 a1_5, .int .i64 a1_6, .slice A1_7 l1_7.length c1_7, .slice A1_8 l1_8.length c1_8]] rfl ?_; (with_reducible refine (impl_OutShape.calls k a0_0 a0_1 a0_2 a1_0 a1_1 a1_2 a1_3 a1_4 a1_5 a1_6 _ _ l1_7 _ _ l1_8 t309 t310 t311 true _ ?side1 ?side2 ?side3 ?side4 A3.out).mono ?_); (case side1 => exact C_now HR1_7.out); (case side2 => exact HC1_7.out); (case side3 => exact C_now HR1_8.out); (case side4 => exact HC1_8.out); rintro e w47 ⟨rfl, hb⟩; refine ⟨_, rfl, ?_⟩; replace HB := bel_on w hb; replace BK307 := blk_on gb307 hb; replace BK308 := blk_on gb308 hb; (try clear hb)) | ((with_reducible refine gate_dst (N := 5) rfl ?_); refine boxM 5 #[.int .i64 0, .int .i64 0, .int .i64 0] 25 ?_; intro gb313 hg w48 BK313 hb; replace HB := box_at w hb hg; obtain ⟨HB, GW313, GE313⟩ := HB; replace BK307 := box_on gb307 hb hg; obtain ⟨BK307, NB307_313, NB313_307⟩ := BK307; replace BK308 := box_on gb308 hb hg; obtain ⟨BK308, NB308_313, NB313_308⟩ := BK308; clear hb hg; have hn49 := ne2 NB313_307; have hn50 := ne2 NB313_308; have hcz51 := cells3 BK313.out; have hcz52 := cells3 BK307.out) | ((with_reducible refine gate_callee (f := 103) rfl ?_); refine goesM (some 17) rfl rfl Try.func103 (by kernel_rfl) rfl #[.agg #[.int .i64 a0_0, .int .i64 a0_1, .int .i64 a0_2]] rfl ?_; (with_reducible refine (impl_SizeOf.calls a0_0 a0_1 a0_2 t314 _ A5.out).mono ?_); rintro e w53 ⟨rfl, hb⟩; refine ⟨_, rfl, ?_⟩; replace HB := bel_on w hb; replace BK307 := Aside0.mk (blk_below (g := gb307) (o := .cells #[.int .i64 a0_0, .int .i64 a0_1, .int .i64 a0_2] 25 (0, 0)) (blk_fars BK307.out) hb); replace BK308 := Aside0.mk (blk_below (g := gb308) (o := .cells #[.int .i64 a1_0, .int .i64 a1_1, .int .i64 a1_2, .int .i64 a1_3, .int .i64 a1_4, .int .i64 a1_5, .int .i64 a1_6, .slice A1_7 l1_7.length c1_7, .slice A1_8 l1_8.length c1_8] 73 (0, 0)) (blk_fars BK308.out) hb); replace BK313 := Aside0.mk (blk_below (g := gb313) (o := .cells #[.int .i64 t309, .int .i64 t310, .int .i64 t311] 25 (0, 0)) (blk_fars (puts3 BK313.out)) hb); (try clear hb); have hcz54 := cells9 BK308.out))
   replace BK307 := Aside0.mk (blk_drew BK307.out)
   replace BK308 := Aside0.mk (blk_drew BK308.out)
   replace BK313 := Aside0.mk (blk_drew BK313.out)
   replace HB := Aside0.mk (below_drew1 HB.out)
   refine start_ (n := 9) (S := fun w' => w'.cell? ⟨gb313, 0, none⟩ = some (.int .i64 t309) ∧ w'.cell? ⟨gb313, 1, none⟩ = some (.int .i64 t310) ∧ w'.cell? ⟨gb313, 2, none⟩ = some (.int .i64 t311) ∧ w'.cell? ⟨gb308, 0, none⟩ = some (.int .i64 a1_0) ∧ w'.cell? ⟨gb308, 1, none⟩ = some (.int .i64 a1_1) ∧ w'.cell? ⟨gb308, 2, none⟩ = some (.int .i64 a1_2) ∧ w'.cell? ⟨gb308, 3, none⟩ = some (.int .i64 a1_3) ∧ w'.cell? ⟨gb308, 4, none⟩ = some (.int .i64 a1_4) ∧ w'.cell? ⟨gb308, 5, none⟩ = some (.int .i64 a1_5) ∧ w'.cell? ⟨gb308, 6, none⟩ = some (.int .i64 a1_6) ∧ w'.cell? ⟨gb308, 7, none⟩ = some (.slice A1_7 l1_7.length c1_7) ∧ w'.cell? ⟨gb308, 8, none⟩ = some (.slice A1_8 l1_8.length c1_8)) (ds := []) #[O, O, O, O, O, O, O, O, O] (by kernel_rfl) rfl rfl ⟨bc BK313 0, bc BK313 1, bc BK313 2, bc BK308 0, bc BK308 1, bc BK308 2, bc BK308 3, bc BK308 4, bc BK308 5, bc BK308 6, bc BK308 7, bc BK308 8⟩ (fun hHeld => ?_); refine with_tabW impl_CostOf.tab12 impl_CostOf.bits12 (fun HT_ HW_ => ?_)
   generalize w53.drew = w55 at BK307 BK308 BK313 HB hHeld ⊢
   refine stepP 2 (some 44) (tk 9 4) (any_of HT_.out (by kernel_rfl)) ?_
   refine stepP 5 (some 47) (tk 9 36) (any_of HT_.out (by kernel_rfl)) ?_
   refine stepT 0 (some 42) (tk 9 37) (take_ofW HT_.out HW_.out (by kernel_rfl)) hHeld ?_
   refine stepT 3 (some 45) (tk 9 45) (take_ofW HT_.out HW_.out (by kernel_rfl)) hHeld ?_
   refine stepT 6 (some 48) (tk 9 109) (take_ofW HT_.out HW_.out (by kernel_rfl)) hHeld ?_
   refine one_ (i := 1) (N := some 43) #[I, I, I, I, O, I, I, O, O] rfl rfl (one_of HT_.out (by kernel_rfl)) (by decide) (fun K hK => ?_)
   refine goes_ Try.func103 (by kernel_rfl) rfl #[.agg #[.int .i64 t309, .int .i64 t310, .int .i64 t311]] (by rfl) rfl rfl (by (try simp only [List.map_toArray, List.map_cons, List.map_nil]); first | done | rfl | (simp only [List.length_drop, List.length_take]; rfl)) ?_
   with_reducible refine (impl_SizeOf.calls t309 t310 t311 t317 _ A41.out).mono ?_
   rintro e w56 ⟨rfl, hb⟩
   refine ⟨_, rfl, ?_⟩
   replace BK307 := blk_on gb307 hb
   replace BK308 := blk_on gb308 hb
   replace BK313 := blk_on gb313 hb
   replace HB := bel_on w hb
   (try clear hb)
   refine hK.out _ _ ⟨bc BK313 0, bc BK313 1, bc BK313 2, bc BK308 0, bc BK308 1, bc BK308 2, bc BK308 3, bc BK308 4, bc BK308 5, bc BK308 6, bc BK308 7, bc BK308 8⟩ (fun hHeld => ?_)
   clear hK K
   refine normP 43 ?_
   refine stepP 4 (some 46) (tk 9 127) (any_of HT_.out (by kernel_rfl)) ?_
   refine stepP 7 (some 49) (tk 9 255) (any_of HT_.out (by kernel_rfl)) ?_
   refine stepP 8 (some 7) (tk 9 511) (any_of HT_.out (by kernel_rfl)) ?_
   refine done_ (done_of HT_.out (by kernel_rfl)) ?_
   try go_wp2
   go_ret
   exact ⟨eqN, bel_now⟩
  rw [if_neg c40] at H
  have c40b0 : (a1_0 == 2) = false := beq_eq_false_iff_ne.mpr c40
  have c40b1 : (a1_0 != 2) = true := bne_iff_ne.mpr c40
  by_cases c57 : a1_0 = 3
  rotate_left
  ·rw [if_neg c57] at H
   have c57b0 : (a1_0 == 3) = false := beq_eq_false_iff_ne.mpr c57
   have c57b1 : (a1_0 != 3) = true := bne_iff_ne.mpr c57
   obtain rfl := Option.some.inj H
   go_enter Try.func77, Try.ntmps77
   go_wp2_with (first | ((with_reducible refine gate_dst (N := 2) rfl ?_); refine boxM 2 #[.int .i64 a0_0, .int .i64 a0_1, .int .i64 a0_2] 25 ?_; intro gb307 hg w74 BK307 hb; replace HB := box_at w hb hg; obtain ⟨HB, GW307, GE307⟩ := HB; clear hb hg) | ((with_reducible refine gate_dst (N := 3) rfl ?_); refine boxM 3 #[.int .i64 a1_0, .int .i64 a1_1, .int .i64 a1_2, .int .i64 a1_3, .int .i64 a1_4, .int .i64 a1_5, .int .i64 a1_6, .slice A1_7 l1_7.length c1_7, .slice A1_8 l1_8.length c1_8] 73 ?_; intro gb308 hg w75 BK308 hb; replace HB := box_at w hb hg; obtain ⟨HB, GW308, GE308⟩ := HB; replace BK307 := box_on gb307 hb hg; obtain ⟨BK307, NB307_308, NB308_307⟩ := BK307; clear hb hg; have hn76 := ne2 NB307_308; have hcz77 := cells3 BK307.out; have hcz78 := cells9 BK308.out) | ((with_reducible refine gate_callee (f := 100) rfl ?_); refine goesM (some 11) rfl rfl Try.func100 (by kernel_rfl) rfl #[.agg #[.int .i64 a0_0, .int .i64 a0_1, .int .i64 a0_2], .agg #[.int .i64 a1_0, .int .i64 a1_1, .int .i64 a1_2, .int .i64 a1_3, .int .i64 a1_4, .int .i64 a1_5, .int .i64 a1_6, .slice A1_7 l1_7.length c1_7, .slice A1_8 l1_8.length c1_8]] rfl ?_; (with_reducible refine (impl_OutShape.calls k a0_0 a0_1 a0_2 a1_0 a1_1 a1_2 a1_3 a1_4 a1_5 a1_6 _ _ l1_7 _ _ l1_8 t309 t310 t311 true _ ?side1 ?side2 ?side3 ?side4 A3.out).mono ?_); (case side1 => exact C_now HR1_7.out); (case side2 => exact HC1_7.out); (case side3 => exact C_now HR1_8.out); (case side4 => exact HC1_8.out); rintro e w79 ⟨rfl, hb⟩; refine ⟨_, rfl, ?_⟩; replace HB := bel_on w hb; replace BK307 := blk_on gb307 hb; replace BK308 := blk_on gb308 hb; (try clear hb)) | ((with_reducible refine gate_dst (N := 5) rfl ?_); refine boxM 5 #[.int .i64 0, .int .i64 0, .int .i64 0] 25 ?_; intro gb313 hg w80 BK313 hb; replace HB := box_at w hb hg; obtain ⟨HB, GW313, GE313⟩ := HB; replace BK307 := box_on gb307 hb hg; obtain ⟨BK307, NB307_313, NB313_307⟩ := BK307; replace BK308 := box_on gb308 hb hg; obtain ⟨BK308, NB308_313, NB313_308⟩ := BK308; clear hb hg; have hn81 := ne2 NB313_307; have hn82 := ne2 NB313_308; have hcz83 := cells3 BK313.out; have hcz84 := cells3 BK307.out) | ((with_reducible refine gate_callee (f := 103) rfl ?_); refine goesM (some 17) rfl rfl Try.func103 (by kernel_rfl) rfl #[.agg #[.int .i64 a0_0, .int .i64 a0_1, .int .i64 a0_2]] rfl ?_; (with_reducible refine (impl_SizeOf.calls a0_0 a0_1 a0_2 t314 _ A5.out).mono ?_); rintro e w85 ⟨rfl, hb⟩; refine ⟨_, rfl, ?_⟩; replace HB := bel_on w hb; replace BK307 := Aside0.mk (blk_below (g := gb307) (o := .cells #[.int .i64 a0_0, .int .i64 a0_1, .int .i64 a0_2] 25 (0, 0)) (blk_fars BK307.out) hb); replace BK308 := Aside0.mk (blk_below (g := gb308) (o := .cells #[.int .i64 a1_0, .int .i64 a1_1, .int .i64 a1_2, .int .i64 a1_3, .int .i64 a1_4, .int .i64 a1_5, .int .i64 a1_6, .slice A1_7 l1_7.length c1_7, .slice A1_8 l1_8.length c1_8] 73 (0, 0)) (blk_fars BK308.out) hb); replace BK313 := Aside0.mk (blk_below (g := gb313) (o := .cells #[.int .i64 t309, .int .i64 t310, .int .i64 t311] 25 (0, 0)) (blk_fars (puts3 BK313.out)) hb); (try clear hb); have hcz86 := cells9 BK308.out))
   go_ret
   exact ⟨eqN, bel_now⟩
  rw [if_pos c57] at H
  have c57b0 : (a1_0 == 3) = true := beq_iff_eq.mpr c57
  have c57b1 : (a1_0 != 3) = false := bne_eq_false_iff_eq.mpr c57
  clear c57
  replace H := Option.bind_eq_some_iff.mp H
  obtain ⟨t318, A580, H⟩ := H
  (try dsimp only at H)
  have A58 := Aside0.mk A580
  clear A580
  obtain rfl := Option.some.inj H
  go_enter Try.func77, Try.ntmps77
  try go_wp2_with (first | ((with_reducible refine gate_dst (N := 2) rfl ?_); refine boxM 2 #[.int .i64 a0_0, .int .i64 a0_1, .int .i64 a0_2] 25 ?_; intro gb307 hg w59 BK307 hb; replace HB := box_at w hb hg; obtain ⟨HB, GW307, GE307⟩ := HB; clear hb hg) | ((with_reducible refine gate_dst (N := 3) rfl ?_); refine boxM 3 #[.int .i64 a1_0, .int .i64 a1_1, .int .i64 a1_2, .int .i64 a1_3, .int .i64 a1_4, .int .i64 a1_5, .int .i64 a1_6, .slice A1_7 l1_7.length c1_7, .slice A1_8 l1_8.length c1_8] 73 ?_; intro gb308 hg w60 BK308 hb; replace HB := box_at w hb hg; obtain ⟨HB, GW308, GE308⟩ := HB; replace BK307 := box_on gb307 hb hg; obtain ⟨BK307, NB307_308, NB308_307⟩ := BK307; clear hb hg; have hn61 := ne2 NB307_308; have hcz62 := cells3 BK307.out; have hcz63 := cells9 BK308.out) | ((with_reducible refine gate_callee (f := 100) rfl ?_); refine goesM (some 11) rfl rfl Try.func100 (by kernel_rfl) rfl #[.agg #[.int .i64 a0_0, .int .i64 a0_1, .int .i64 a0_2], .agg #[.int .i64 a1_0, .int .i64 a1_1, .int .i64 a1_2, .int .i64 a1_3, .int .i64 a1_4, .int .i64 a1_5, .int .i64 a1_6, .slice A1_7 l1_7.length c1_7, .slice A1_8 l1_8.length c1_8]] rfl ?_; (with_reducible refine (impl_OutShape.calls k a0_0 a0_1 a0_2 a1_0 a1_1 a1_2 a1_3 a1_4 a1_5 a1_6 _ _ l1_7 _ _ l1_8 t309 t310 t311 true _ ?side1 ?side2 ?side3 ?side4 A3.out).mono ?_); (case side1 => exact C_now HR1_7.out); (case side2 => exact HC1_7.out); (case side3 => exact C_now HR1_8.out); (case side4 => exact HC1_8.out); rintro e w64 ⟨rfl, hb⟩; refine ⟨_, rfl, ?_⟩; replace HB := bel_on w hb; replace BK307 := blk_on gb307 hb; replace BK308 := blk_on gb308 hb; (try clear hb)) | ((with_reducible refine gate_dst (N := 5) rfl ?_); refine boxM 5 #[.int .i64 0, .int .i64 0, .int .i64 0] 25 ?_; intro gb313 hg w65 BK313 hb; replace HB := box_at w hb hg; obtain ⟨HB, GW313, GE313⟩ := HB; replace BK307 := box_on gb307 hb hg; obtain ⟨BK307, NB307_313, NB313_307⟩ := BK307; replace BK308 := box_on gb308 hb hg; obtain ⟨BK308, NB308_313, NB313_308⟩ := BK308; clear hb hg; have hn66 := ne2 NB313_307; have hn67 := ne2 NB313_308; have hcz68 := cells3 BK313.out; have hcz69 := cells3 BK307.out) | ((with_reducible refine gate_callee (f := 103) rfl ?_); refine goesM (some 17) rfl rfl Try.func103 (by kernel_rfl) rfl #[.agg #[.int .i64 a0_0, .int .i64 a0_1, .int .i64 a0_2]] rfl ?_; (with_reducible refine (impl_SizeOf.calls a0_0 a0_1 a0_2 t314 _ A5.out).mono ?_); rintro e w70 ⟨rfl, hb⟩; refine ⟨_, rfl, ?_⟩; replace HB := bel_on w hb; replace BK307 := Aside0.mk (blk_below (g := gb307) (o := .cells #[.int .i64 a0_0, .int .i64 a0_1, .int .i64 a0_2] 25 (0, 0)) (blk_fars BK307.out) hb); replace BK308 := Aside0.mk (blk_below (g := gb308) (o := .cells #[.int .i64 a1_0, .int .i64 a1_1, .int .i64 a1_2, .int .i64 a1_3, .int .i64 a1_4, .int .i64 a1_5, .int .i64 a1_6, .slice A1_7 l1_7.length c1_7, .slice A1_8 l1_8.length c1_8] 73 (0, 0)) (blk_fars BK308.out) hb); replace BK313 := Aside0.mk (blk_below (g := gb313) (o := .cells #[.int .i64 t309, .int .i64 t310, .int .i64 t311] 25 (0, 0)) (blk_fars (puts3 BK313.out)) hb); (try clear hb); have hcz71 := cells9 BK308.out))
  replace BK307 := Aside0.mk (blk_drew BK307.out)
  replace BK308 := Aside0.mk (blk_drew BK308.out)
  replace BK313 := Aside0.mk (blk_drew BK313.out)
  replace HB := Aside0.mk (below_drew1 HB.out)
  refine start_ (n := 9) (S := fun w' => w'.cell? ⟨gb313, 0, none⟩ = some (.int .i64 t309) ∧ w'.cell? ⟨gb313, 1, none⟩ = some (.int .i64 t310) ∧ w'.cell? ⟨gb313, 2, none⟩ = some (.int .i64 t311) ∧ w'.cell? ⟨gb308, 0, none⟩ = some (.int .i64 a1_0) ∧ w'.cell? ⟨gb308, 1, none⟩ = some (.int .i64 a1_1) ∧ w'.cell? ⟨gb308, 2, none⟩ = some (.int .i64 a1_2) ∧ w'.cell? ⟨gb308, 3, none⟩ = some (.int .i64 a1_3) ∧ w'.cell? ⟨gb308, 4, none⟩ = some (.int .i64 a1_4) ∧ w'.cell? ⟨gb308, 5, none⟩ = some (.int .i64 a1_5) ∧ w'.cell? ⟨gb308, 6, none⟩ = some (.int .i64 a1_6) ∧ w'.cell? ⟨gb308, 7, none⟩ = some (.slice A1_7 l1_7.length c1_7) ∧ w'.cell? ⟨gb308, 8, none⟩ = some (.slice A1_8 l1_8.length c1_8)) (ds := []) #[O, O, O, O, O, O, O, O, O] (by kernel_rfl) rfl rfl ⟨bc BK313 0, bc BK313 1, bc BK313 2, bc BK308 0, bc BK308 1, bc BK308 2, bc BK308 3, bc BK308 4, bc BK308 5, bc BK308 6, bc BK308 7, bc BK308 8⟩ (fun hHeld => ?_); refine with_tabW impl_CostOf.tab12 impl_CostOf.bits12 (fun HT_ HW_ => ?_)
  generalize w70.drew = w72 at BK307 BK308 BK313 HB hHeld ⊢
  refine stepP 2 (some 44) (tk 9 4) (any_of HT_.out (by kernel_rfl)) ?_
  refine stepP 5 (some 47) (tk 9 36) (any_of HT_.out (by kernel_rfl)) ?_
  refine stepT 0 (some 42) (tk 9 37) (take_ofW HT_.out HW_.out (by kernel_rfl)) hHeld ?_
  refine stepT 3 (some 45) (tk 9 45) (take_ofW HT_.out HW_.out (by kernel_rfl)) hHeld ?_
  refine stepT 6 (some 48) (tk 9 109) (take_ofW HT_.out HW_.out (by kernel_rfl)) hHeld ?_
  refine one_ (i := 1) (N := some 43) #[I, I, I, I, O, I, I, O, O] rfl rfl (one_of HT_.out (by kernel_rfl)) (by decide) (fun K hK => ?_)
  refine goes_ Try.func103 (by kernel_rfl) rfl #[.agg #[.int .i64 t309, .int .i64 t310, .int .i64 t311]] (by rfl) rfl rfl (by (try simp only [List.map_toArray, List.map_cons, List.map_nil]); first | done | rfl | (simp only [List.length_drop, List.length_take]; rfl)) ?_
  with_reducible refine (impl_SizeOf.calls t309 t310 t311 t318 _ A58.out).mono ?_
  rintro e w73 ⟨rfl, hb⟩
  refine ⟨_, rfl, ?_⟩
  replace BK307 := blk_on gb307 hb
  replace BK308 := blk_on gb308 hb
  replace BK313 := blk_on gb313 hb
  replace HB := bel_on w hb
  (try clear hb)
  refine hK.out _ _ ⟨bc BK313 0, bc BK313 1, bc BK313 2, bc BK308 0, bc BK308 1, bc BK308 2, bc BK308 3, bc BK308 4, bc BK308 5, bc BK308 6, bc BK308 7, bc BK308 8⟩ (fun hHeld => ?_)
  clear hK K
  refine normP 43 ?_
  refine stepP 4 (some 46) (tk 9 127) (any_of HT_.out (by kernel_rfl)) ?_
  refine stepP 7 (some 49) (tk 9 255) (any_of HT_.out (by kernel_rfl)) ?_
  refine stepP 8 (some 7) (tk 9 511) (any_of HT_.out (by kernel_rfl)) ?_
  refine done_ (done_of HT_.out (by kernel_rfl)) ?_
  try go_wp2
  go_ret
  exact ⟨eqN, bel_now⟩

/-! ### impl_CostsOf: function 34 -/
def impl_CostsOf.l0 : Nat → List Int → List (S25) → Int → Int → Int → Int → Int → List (S73) → Option (List Int)
  | 0, _, _, _, _, _, _, _, _ => none
  | k + 1, x3, x8, x9, x10, x320000, x320001, x320002, x320003 => if x10 < x9 then (if 0 ≤ x10 then (if x10 < (x8.length : Int) then (if x10 < (x320003.length : Int) then ((impl_CostOf.f k ((rd_T25 x8 x10).f0) ((rd_T25 x8 x10).f1) ((rd_T25 x8 x10).f2) ((rd_T73 x320003 x10).f0) ((rd_T73 x320003 x10).f1) ((rd_T73 x320003 x10).f2) ((rd_T73 x320003 x10).f3) ((rd_T73 x320003 x10).f4) ((rd_T73 x320003 x10).f5) ((rd_T73 x320003 x10).f6) ((rd_T73 x320003 x10).f7) ((rd_T73 x320003 x10).f8)).bind fun t329 => (if x3.length < 17592186044416 then (impl_CostsOf.l0 k (x3 ++ [t329]) x8 x9 (wrap64 (x10 + 1)) x320000 x320001 x320002 x320003) else (none))) else (impl_CostsOf.l0 k x3 x8 x9 (wrap64 (x10 + 1)) x320000 x320001 x320002 x320003)) else (none)) else (none)) else (some x3)
def impl_CostsOf.f (k : Nat) (a0_0 : Int) (a0_1 : Int) (a0_2 : Int) (l0_3 : List (S73)) : Option (List Int) := (impl_ShapesOf.f k a0_0 a0_1 a0_2 l0_3).bind fun t323 => (impl_CostsOf.l0 k (([] : List Int)) t323 (t323.length : Int) 0 a0_0 a0_1 a0_2 l0_3)
def impl_CostsOf.T6 : Bool × List (List Nat × List Nat) := (true, [([], []), ([], []), ([], []), ([2], [2]), ([], []), ([3, 4], [3, 4]), ([5], [5]), ([1, 6], [1, 6]), ([7], [7]), ([0, 8, 7], [0, 8]), ([9, 9, 0, 1, 2, 3, 4, 5, 6, 7, 8, 9], [0, 9])])
def impl_CostsOf.B6 : List Nat := [0, 0, 0, 4, 0, 28, 60, 126, 254, 511, 1023]
theorem impl_CostsOf.tab6 : rtab .any (opsOf Try.f34 6) = impl_CostsOf.T6 := by kernel_rfl
theorem impl_CostsOf.bits6 : waitsOk impl_CostsOf.T6.2 impl_CostsOf.B6 = true := by kernel_rfl
set_option maxHeartbeats 8000000 in
set_option maxRecDepth 100000 in
theorem impl_CostsOf.calls (k : Nat) (a0_0 : Int) (a0_1 : Int) (a0_2 : Int) (A0_3 : Option Addr) (c0_3 : Nat) (l0_3 : List (S73)) (r : List Int) (w : World) (hr0_3 : Kd.C k73 w A0_3 l0_3.length l0_3) (hc0_3 : l0_3.length ≤ c0_3) (h : impl_CostsOf.f k a0_0 a0_1 a0_2 l0_3 = some r) :
   Calls Try.prog 34 #[.agg #[.int .i64 a0_0, .int .i64 a0_1, .int .i64 a0_2, .slice A0_3 l0_3.length c0_3]] w fun e w' => ∃ v0_ : Value, e = .returned (v0_) ∧ Kd.R (Kd.int .i64) 3 w' w.heap.size (fun _ => True) v0_ r ∧ Below w.heap.size w w' := by
  have hu28 := Try.underlying28
  have hu25 := Try.underlying25
  have hu73 := Try.underlying73
  have HR0_3 := Aside0.mk hr0_3
  have HC0_3 := Aside0.mk hc0_3
  clear hr0_3 hc0_3
  have HB := Aside0.mk (Below.refl w.heap.size w)
  have H : ((impl_ShapesOf.f k a0_0 a0_1 a0_2 l0_3).bind fun t323 => (impl_CostsOf.l0 k (([] : List Int)) t323 (t323.length : Int) 0 a0_0 a0_1 a0_2 l0_3)) = some r := h
  clear h
  obtain ⟨y320, hy320⟩ : ∃ y_ : List Int, y_ = (([] : List Int)) := ⟨_, rfl⟩
  replace H : ((impl_ShapesOf.f k a0_0 a0_1 a0_2 l0_3).bind fun t323 => (impl_CostsOf.l0 k y320 t323 (t323.length : Int) 0 a0_0 a0_1 a0_2 l0_3)) = some r := by first | (rw [hy320]; with_reducible exact H) | (have H2_ := (Option.bind_some _ _).symm.trans H; rw [hy320]; with_reducible exact H2_) | (have H2_ := (Option.bind_some _ _).symm.trans H; with_reducible exact H2_) | with_reducible exact H | (rw [hy320]; exact H) | exact H
  have Ny320 := Aside0.mk hy320
  clear hy320
  replace H := Option.bind_eq_some_iff.mp H
  obtain ⟨t323, A20, H⟩ := H
  (try dsimp only at H)
  have A2 := Aside0.mk A20
  clear A20
  have H' := Aside0.mk H
  clear H
  go_enter Try.func34, Try.ntmps34
  go_wp2_with (first | ((with_reducible refine gate_dst (N := 1) rfl ?_); refine boxM 1 #[.int .i64 a0_0, .int .i64 a0_1, .int .i64 a0_2, .slice A0_3 l0_3.length c0_3] 28 ?_; intro gb319 hg w3 BK319 hb; replace HB := box_at w hb hg; obtain ⟨HB, GW319, GE319⟩ := HB; clear hb hg) | ((with_reducible refine gate_dst (N := 6) rfl ?_); refine Kd.R_lit (Kd.int .i64) _ 3 ?hg (N := 6) ?hd (xs := ([] : List Int)) (inner := []) (ok := fun _ => True) (okp := fun _ => True) ?hr ?hp (fun _ hk => hk) trivial (Below.refl _ _) (Nat.le_refl _) (by simp) ?_; (case hd => rfl); (case hg => rfl); (case hr => first | (go_simp; done) | (go_simp; rfl)); (case hp => exact (Reps.none _ _)); intro v321 w4 ho5 hb hg_ hnew_; clear hg_ hnew_; (first | rw [← Ny320.out] at ho5 | (simp only [Int.reduceToNat] at ho5; rw [← Ny320.out] at ho5)); have n0_ := Aside0.mk (Kd.R_lower ho5 (below_size bel_now)); replace HB := bel_on w hb; replace BK319 := blk_on gb319 hb; have HO322 := n0_; clear n0_; clear hb ho5; have hcz6 := cells4 BK319.out) | ((with_reducible refine gate_callee (f := 25) rfl ?_); refine goesM (some 8) rfl rfl Try.func25 (by kernel_rfl) rfl #[.agg #[.int .i64 a0_0, .int .i64 a0_1, .int .i64 a0_2, .slice A0_3 l0_3.length c0_3]] rfl ?_; (with_reducible refine (impl_ShapesOf.calls k a0_0 a0_1 a0_2 _ _ l0_3 t323 _ ?side1 ?side2 A2.out).mono ?_); (case side1 => exact C_now HR0_3.out); (case side2 => exact HC0_3.out); rintro e w7 ⟨v324, rfl, ho0, hb⟩; refine ⟨_, rfl, ?_⟩; have n1_ := Aside0.mk (Kd.R_lower ho0 (below_size bel_now)); replace HO322 := Aside0.mk (Kd.R_below (R_at HO322.out) hb); replace HB := bel_on w hb; replace BK319 := blk_on gb319 hb; have HO325 := n1_; clear n1_; (try clear hb); (try clear ho0); obtain ⟨Ao8, co8, eo8⟩ := Kd.R_slice HO325.out; subst eo8))
  go_loopg [3, 10] k (fun kq v3 v10 w' => ∃ (x3_1 : List Int) (x10_1 : Int), v10 = .int .i64 x10_1 ∧ Aside0 (impl_CostsOf.l0 kq x3_1 t323 (t323.length : Int) x10_1 a0_0 a0_1 a0_2 l0_3 = some r) ∧ Aside0 (kq ≤ k) ∧ Aside0 (Kd.R (Kd.int .i64) 3 w' w.heap.size (fun _ => True) v3 x3_1) ∧ Aside0 (Kd.R k25 25 w' w.heap.size (fun _ => True) (.slice Ao8 t323.length co8) t323) ∧ Aside0 (w'.heap[gb319]? = some (.cells #[.int .i64 a0_0, .int .i64 a0_1, .int .i64 a0_2, (.slice A0_3 l0_3.length c0_3)] 28 (0, 0))) ∧ Aside0 (Below w.heap.size w w'))
  case atStart => exact ⟨(y320), (0), (by first | rfl | (simp; done) | (simp [*]; done)), H', ⟨Nat.le_refl _⟩, ⟨by (with_reducible repeat (first | apply Kd.R_alloc | apply Kd.R_drewN | apply Kd.R_drew)); exact HO322.out⟩, ⟨by (with_reducible repeat (first | apply Kd.R_alloc | apply Kd.R_drewN | apply Kd.R_drew)); exact HO325.out⟩, ⟨bks BK319⟩, ⟨bel_now⟩⟩
  case round =>
   clear H'
   try clear c2
   try clear p2
   try clear c3
   try clear hcz6
   obtain ⟨x3_1, x10_1, rfl, HA, HK1, HO_3, HO_8, BK319, HB⟩ := hrel
   cases gk with
   | zero => exact absurd HA.out (by simp [impl_CostsOf.l0])
   | succ k1 =>
    have H := HA.out
    clear HA
    simp only [impl_CostsOf.l0] at H
    by_cases c9 : x10_1 < (t323.length : Int)
    rotate_left
    ·rw [if_neg c9] at H
     have c9b0 : decide (x10_1 < (t323.length : Int)) = false := decide_eq_false c9
     clear c9
     obtain rfl := Option.some.inj H
     go_wp2
     go_ret
     exact ⟨_, eqN, by (with_reducible repeat (first | apply Kd.R_alloc | apply Kd.R_drewN | apply Kd.R_drew)); exact HO_3.out, bel_now⟩
    rw [if_pos c9] at H
    have c9b0 : decide (x10_1 < (t323.length : Int)) = true := decide_eq_true c9
    clear c9
    by_cases c10 : 0 ≤ x10_1
    rotate_left
    ·rw [if_neg c10] at H
     exact absurd H (by simp)
    rw [if_pos c10] at H
    have c10b0 : decide (0 ≤ x10_1) = true := decide_eq_true c10
    clear c10
    by_cases c11 : x10_1 < (t323.length : Int)
    rotate_left
    ·rw [if_neg c11] at H
     exact absurd H (by simp)
    rw [if_pos c11] at H
    have c11b0 : decide (x10_1 < (t323.length : Int)) = true := decide_eq_true c11
    clear c11
    by_cases c12 : x10_1 < (l0_3.length : Int)
    rotate_left
    ·rw [if_neg c12] at H
     have c12b0 : decide (x10_1 < (l0_3.length : Int)) = false := decide_eq_false c12
     clear c12
     have H' := Aside0.mk H
     clear H
     have p326 : 0 ≤ (x10_1 : Int) := of_decide_eq_true (by first | (with_reducible assumption) | assumption)
     have q326 : x10_1 < (t323.length : Int) := of_decide_eq_true (by first | (with_reducible assumption) | assumption)
     (try (obtain ⟨_, _, eo_⟩ := Kd.R_slice HO_8.out; subst eo_))
     obtain ⟨ad326, e326, hx326_0, hx326_1, hx326_2⟩ := at_T25 (Kd.R_reads' HO_8.out).2.2 x10_1 p326 q326
     cases e326
     replace p326 := eq_true p326
     replace q326 := eq_true q326
     go_wp2_with (first | ((with_reducible refine gate_dst (N := 5) rfl ?_); refine boxM 5 #[.int .i64 0, .int .i64 0, .int .i64 0] 25 ?_; intro gb327 hg w23 BK327 hb; replace HB := box_at w hb hg; obtain ⟨HB, GW327, GE327⟩ := HB; replace BK319 := box_on gb319 hb hg; obtain ⟨BK319, NB319_327, NB327_319⟩ := BK319; replace HO_3 := Aside0.mk (Kd.R_below (R_at HO_3.out) hb); replace HO_8 := Aside0.mk (Kd.R_below (Kd.R_elderB (R_at HO_8.out) gb327 (Nat.le_of_eq hg.symm)) hb); clear hb hg; have hn24 := ne2 NB327_319; have hcz25 := cells3 BK327.out; have hcz26 := cells4 BK319.out))
     go_roundg k1
     case measure => have := HK1.out; omega
     case rel => exact ⟨(x3_1), (wrap64 (x10_1 + 1)), (by first | rfl | (simp; done) | (simp [*]; done)), H', ⟨by have := HK1.out; omega⟩, ⟨by (with_reducible repeat (first | apply Kd.R_alloc | apply Kd.R_drewN | apply Kd.R_drew)); exact Kd.R_mono (Kd.R_far (p := ⟨gb327, 2, none⟩) (Kd.R_far (p := ⟨gb327, 1, none⟩) (Kd.R_far (p := ⟨gb327, 0, none⟩) (Kd.R_types HO_3.out BK327.out (by decide)) (fun _ hk => hk.2) (.int .i64 ((rd_T25 t323 x10_1).f0))) (fun _ hk => hk.2) (.int .i64 ((rd_T25 t323 x10_1).f1))) (fun _ hk => hk.2) (.int .i64 ((rd_T25 t323 x10_1).f2))) (fun _ hk => trivial)⟩, ⟨by (with_reducible repeat (first | apply Kd.R_alloc | apply Kd.R_drewN | apply Kd.R_drew)); exact Kd.R_mono (Kd.R_far (p := ⟨gb327, 2, none⟩) (Kd.R_far (p := ⟨gb327, 1, none⟩) (Kd.R_far (p := ⟨gb327, 0, none⟩) (Kd.R_mono HO_8.out (fun k_ hk => (⟨hk, hk.2⟩ : _ ∧ k_ ≠ gb327))) (fun _ hk => hk.2) (.int .i64 ((rd_T25 t323 x10_1).f0))) (fun _ hk => hk.2) (.int .i64 ((rd_T25 t323 x10_1).f1))) (fun _ hk => hk.2) (.int .i64 ((rd_T25 t323 x10_1).f2))) (fun _ hk => trivial)⟩, ⟨by (with_reducible repeat (first | refine blk_drewN ?_ _ | refine blk_drew ?_ | refine blk_alloc ?_ _)); refine blk_far ?_ NB319_327.out _; (with_reducible repeat (first | refine blk_drewN ?_ _ | refine blk_drew ?_ | refine blk_alloc ?_ _)); refine blk_far ?_ NB319_327.out _; (with_reducible repeat (first | refine blk_drewN ?_ _ | refine blk_drew ?_ | refine blk_alloc ?_ _)); refine blk_far ?_ NB319_327.out _; (with_reducible repeat (first | refine blk_drewN ?_ _ | refine blk_drew ?_ | refine blk_alloc ?_ _)); exact BK319.out⟩, ⟨bel_now⟩⟩
    rw [if_pos c12] at H
    have c12b0 : decide (x10_1 < (l0_3.length : Int)) = true := decide_eq_true c12
    clear c12
    replace H := Option.bind_eq_some_iff.mp H
    obtain ⟨t329, A130, H⟩ := H
    (try dsimp only at H)
    have A13 := Aside0.mk A130
    clear A130
    by_cases c14 : x3_1.length < 17592186044416
    rotate_left
    ·rw [if_neg c14] at H
     exact absurd H (by simp)
    rw [if_pos c14] at H
    have LMc14 := Aside0.mk c14
    clear c14
    obtain ⟨y330, hy330⟩ : ∃ y_ : List Int, y_ = (x3_1 ++ [t329]) := ⟨_, rfl⟩
    replace H : (impl_CostsOf.l0 k1 y330 t323 (t323.length : Int) (wrap64 (x10_1 + 1)) a0_0 a0_1 a0_2 l0_3) = some r := by first | (rw [hy330]; with_reducible exact H) | (have H2_ := (Option.bind_some _ _).symm.trans H; rw [hy330]; with_reducible exact H2_) | (have H2_ := (Option.bind_some _ _).symm.trans H; with_reducible exact H2_) | with_reducible exact H | (rw [hy330]; exact H) | exact H
    have Ny330 := Aside0.mk hy330
    clear hy330
    have H' := Aside0.mk H
    clear H
    have p326 : 0 ≤ (x10_1 : Int) := of_decide_eq_true (by first | (with_reducible assumption) | assumption)
    have q326 : x10_1 < (t323.length : Int) := of_decide_eq_true (by first | (with_reducible assumption) | assumption)
    (try (obtain ⟨_, _, eo_⟩ := Kd.R_slice HO_8.out; subst eo_))
    obtain ⟨ad326, e326, hx326_0, hx326_1, hx326_2⟩ := at_T25 (Kd.R_reads' HO_8.out).2.2 x10_1 p326 q326
    cases e326
    replace p326 := eq_true p326
    replace q326 := eq_true q326
    try go_wp2_with (first | ((with_reducible refine gate_dst (N := 5) rfl ?_); refine boxM 5 #[.int .i64 0, .int .i64 0, .int .i64 0] 25 ?_; intro gb327 hg w15 BK327 hb; replace HB := box_at w hb hg; obtain ⟨HB, GW327, GE327⟩ := HB; replace BK319 := box_on gb319 hb hg; obtain ⟨BK319, NB319_327, NB327_319⟩ := BK319; replace HO_3 := Aside0.mk (Kd.R_below (R_at HO_3.out) hb); replace HO_8 := Aside0.mk (Kd.R_below (Kd.R_elderB (R_at HO_8.out) gb327 (Nat.le_of_eq hg.symm)) hb); clear hb hg; have hn16 := ne2 NB327_319; have hcz17 := cells3 BK327.out; have hcz18 := cells4 BK319.out))
    have n0_ : Aside0 (Kd.R (Kd.int .i64) 3 (((w15.setCell ⟨gb327, 0, none⟩ (.int .i64 ((rd_T25 t323 x10_1).f0))).setCell ⟨gb327, 1, none⟩ (.int .i64 ((rd_T25 t323 x10_1).f1))).setCell ⟨gb327, 2, none⟩ (.int .i64 ((rd_T25 t323 x10_1).f2))) w.heap.size (fun _ => True) u3 x3_1) := ⟨by (with_reducible repeat (first | apply Kd.R_alloc | apply Kd.R_drewN | apply Kd.R_drew)); exact Kd.R_mono (Kd.R_far (p := ⟨gb327, 2, none⟩) (Kd.R_far (p := ⟨gb327, 1, none⟩) (Kd.R_far (p := ⟨gb327, 0, none⟩) (Kd.R_types HO_3.out BK327.out (by decide)) (fun _ hk => hk.2) (.int .i64 ((rd_T25 t323 x10_1).f0))) (fun _ hk => hk.2) (.int .i64 ((rd_T25 t323 x10_1).f1))) (fun _ hk => hk.2) (.int .i64 ((rd_T25 t323 x10_1).f2))) (fun _ hk => trivial)⟩
    have n1_ : Aside0 (Kd.R k25 25 (((w15.setCell ⟨gb327, 0, none⟩ (.int .i64 ((rd_T25 t323 x10_1).f0))).setCell ⟨gb327, 1, none⟩ (.int .i64 ((rd_T25 t323 x10_1).f1))).setCell ⟨gb327, 2, none⟩ (.int .i64 ((rd_T25 t323 x10_1).f2))) w.heap.size (fun k_ => k_ ≠ gb327) (.slice (some ad326) t323.length co8) t323) := ⟨by (with_reducible repeat (first | apply Kd.R_alloc | apply Kd.R_drewN | apply Kd.R_drew)); exact Kd.R_mono (Kd.R_far (p := ⟨gb327, 2, none⟩) (Kd.R_far (p := ⟨gb327, 1, none⟩) (Kd.R_far (p := ⟨gb327, 0, none⟩) (Kd.R_mono HO_8.out (fun k_ hk => (⟨hk, hk.2⟩ : _ ∧ k_ ≠ gb327))) (fun _ hk => hk.2) (.int .i64 ((rd_T25 t323 x10_1).f0))) (fun _ hk => hk.2) (.int .i64 ((rd_T25 t323 x10_1).f1))) (fun _ hk => hk.2) (.int .i64 ((rd_T25 t323 x10_1).f2))) (fun _ hk => hk.1.2)⟩
    have n2_ : Aside0 ((((w15.setCell ⟨gb327, 0, none⟩ (.int .i64 ((rd_T25 t323 x10_1).f0))).setCell ⟨gb327, 1, none⟩ (.int .i64 ((rd_T25 t323 x10_1).f1))).setCell ⟨gb327, 2, none⟩ (.int .i64 ((rd_T25 t323 x10_1).f2))).heap[gb319]? = some (.cells #[.int .i64 a0_0, .int .i64 a0_1, .int .i64 a0_2, .slice A0_3 l0_3.length c0_3] 28 (0, 0))) := ⟨by (with_reducible repeat (first | refine blk_drewN ?_ _ | refine blk_drew ?_ | refine blk_alloc ?_ _)); refine blk_far ?_ NB319_327.out _; (with_reducible repeat (first | refine blk_drewN ?_ _ | refine blk_drew ?_ | refine blk_alloc ?_ _)); refine blk_far ?_ NB319_327.out _; (with_reducible repeat (first | refine blk_drewN ?_ _ | refine blk_drew ?_ | refine blk_alloc ?_ _)); refine blk_far ?_ NB319_327.out _; (with_reducible repeat (first | refine blk_drewN ?_ _ | refine blk_drew ?_ | refine blk_alloc ?_ _)); exact BK319.out⟩
    have n3_ : Aside0 ((((w15.setCell ⟨gb327, 0, none⟩ (.int .i64 ((rd_T25 t323 x10_1).f0))).setCell ⟨gb327, 1, none⟩ (.int .i64 ((rd_T25 t323 x10_1).f1))).setCell ⟨gb327, 2, none⟩ (.int .i64 ((rd_T25 t323 x10_1).f2))).heap[gb327]? = some (.cells #[.int .i64 ((rd_T25 t323 x10_1).f0), .int .i64 ((rd_T25 t323 x10_1).f1), .int .i64 ((rd_T25 t323 x10_1).f2)] 25 (0, 0))) := ⟨by (with_reducible repeat (first | refine blk_drewN ?_ _ | refine blk_drew ?_ | refine blk_alloc ?_ _)); refine blk_put (cs := #[.int .i64 ((rd_T25 t323 x10_1).f0), .int .i64 ((rd_T25 t323 x10_1).f1), .int .i64 0]) ?_ 2 _ rfl; (with_reducible repeat (first | refine blk_drewN ?_ _ | refine blk_drew ?_ | refine blk_alloc ?_ _)); refine blk_put (cs := #[.int .i64 ((rd_T25 t323 x10_1).f0), .int .i64 0, .int .i64 0]) ?_ 1 _ rfl; (with_reducible repeat (first | refine blk_drewN ?_ _ | refine blk_drew ?_ | refine blk_alloc ?_ _)); refine blk_put (cs := #[.int .i64 0, .int .i64 0, .int .i64 0]) ?_ 0 _ rfl; (with_reducible repeat (first | refine blk_drewN ?_ _ | refine blk_drew ?_ | refine blk_alloc ?_ _)); exact BK327.out⟩
    have n4_ : Aside0 (Below w.heap.size w (((w15.setCell ⟨gb327, 0, none⟩ (.int .i64 ((rd_T25 t323 x10_1).f0))).setCell ⟨gb327, 1, none⟩ (.int .i64 ((rd_T25 t323 x10_1).f1))).setCell ⟨gb327, 2, none⟩ (.int .i64 ((rd_T25 t323 x10_1).f2)))) := ⟨bel_now⟩
    (try clear HO_3)
    (try clear HO_8)
    (try clear BK319)
    (try clear BK327)
    (try clear HB)
    generalize (((w15.setCell ⟨gb327, 0, none⟩ (.int .i64 ((rd_T25 t323 x10_1).f0))).setCell ⟨gb327, 1, none⟩ (.int .i64 ((rd_T25 t323 x10_1).f1))).setCell ⟨gb327, 2, none⟩ (.int .i64 ((rd_T25 t323 x10_1).f2))) = w19 at n0_ n1_ n2_ n3_ n4_ ⊢
    have HO_3 := n0_
    have HO_8 := n1_
    have BK319 := n2_
    have BK327 := n3_
    have HB := n4_
    clear n0_ n1_ n2_ n3_ n4_
    replace HO_3 := Aside0.mk (Kd.R_drew HO_3.out)
    replace HO_8 := Aside0.mk (Kd.R_drew HO_8.out)
    replace BK319 := Aside0.mk (blk_drew BK319.out)
    replace BK327 := Aside0.mk (blk_drew BK327.out)
    replace HB := Aside0.mk (below_drew1 HB.out)
    have p328 : 0 ≤ (x10_1 : Int) := of_decide_eq_true (by first | (with_reducible assumption) | assumption)
    have q328 : x10_1 < (l0_3.length : Int) := of_decide_eq_true (by first | (with_reducible assumption) | assumption)
    obtain ⟨ad328, A328_7, c328_7, A328_8, c328_8, e328, hx328_0, hx328_1, hx328_2, hx328_3, hx328_4, hx328_5, hx328_6, hx328_7, hx328_8, hl328_7, hi328_7, hl328_8, hi328_8⟩ := at_T73 HR0_3.out x10_1 p328 q328
    have hw328_8 := hx328_8
    have hw328_7 := hx328_7
    have hw328_6 := hx328_6
    have hw328_5 := hx328_5
    have hw328_4 := hx328_4
    have hw328_3 := hx328_3
    have hw328_2 := hx328_2
    have hw328_1 := hx328_1
    have hw328_0 := hx328_0
    cases e328
    replace hx328_0 := (HB.out.cell (World.block_lt_of_cell? w _ hx328_0)).trans hx328_0
    replace hx328_1 := (HB.out.cell (World.block_lt_of_cell? w _ hx328_1)).trans hx328_1
    replace hx328_2 := (HB.out.cell (World.block_lt_of_cell? w _ hx328_2)).trans hx328_2
    replace hx328_3 := (HB.out.cell (World.block_lt_of_cell? w _ hx328_3)).trans hx328_3
    replace hx328_4 := (HB.out.cell (World.block_lt_of_cell? w _ hx328_4)).trans hx328_4
    replace hx328_5 := (HB.out.cell (World.block_lt_of_cell? w _ hx328_5)).trans hx328_5
    replace hx328_6 := (HB.out.cell (World.block_lt_of_cell? w _ hx328_6)).trans hx328_6
    replace hx328_7 := (HB.out.cell (World.block_lt_of_cell? w _ hx328_7)).trans hx328_7
    replace hx328_8 := (HB.out.cell (World.block_lt_of_cell? w _ hx328_8)).trans hx328_8
    have HR328_7 := Aside0.mk hi328_7
    have HC328_7 := Aside0.mk hl328_7
    clear hi328_7 hl328_7
    have HR328_8 := Aside0.mk hi328_8
    have HC328_8 := Aside0.mk hl328_8
    clear hi328_8 hl328_8
    replace p328 := eq_true p328
    replace q328 := eq_true q328
    refine start_ (n := 11) (S := fun w' => w'.cell? ⟨gb327, 0, none⟩ = some (.int .i64 ((rd_T25 t323 x10_1).f0)) ∧ w'.cell? ⟨gb327, 1, none⟩ = some (.int .i64 ((rd_T25 t323 x10_1).f1)) ∧ w'.cell? ⟨gb327, 2, none⟩ = some (.int .i64 ((rd_T25 t323 x10_1).f2)) ∧ w'.cell? ⟨gb319, 0, none⟩ = some (.int .i64 a0_0) ∧ w'.cell? ⟨gb319, 1, none⟩ = some (.int .i64 a0_1) ∧ w'.cell? ⟨gb319, 2, none⟩ = some (.int .i64 a0_2) ∧ w'.cell? ⟨gb319, 3, none⟩ = some (.slice (some ad328) l0_3.length c0_3) ∧ w'.cell? (ad328.add ((x10_1).toNat * 9)) = some (.int .i64 ((rd_T73 l0_3 x10_1).f0)) ∧ w'.cell? ⟨(ad328.add ((x10_1).toNat * 9)).block, (ad328.add ((x10_1).toNat * 9)).off + 1, none⟩ = some (.int .i64 ((rd_T73 l0_3 x10_1).f1)) ∧ w'.cell? ⟨(ad328.add ((x10_1).toNat * 9)).block, (ad328.add ((x10_1).toNat * 9)).off + 2, none⟩ = some (.int .i64 ((rd_T73 l0_3 x10_1).f2)) ∧ w'.cell? ⟨(ad328.add ((x10_1).toNat * 9)).block, (ad328.add ((x10_1).toNat * 9)).off + 3, none⟩ = some (.int .i64 ((rd_T73 l0_3 x10_1).f3)) ∧ w'.cell? ⟨(ad328.add ((x10_1).toNat * 9)).block, (ad328.add ((x10_1).toNat * 9)).off + 4, none⟩ = some (.int .i64 ((rd_T73 l0_3 x10_1).f4)) ∧ w'.cell? ⟨(ad328.add ((x10_1).toNat * 9)).block, (ad328.add ((x10_1).toNat * 9)).off + 5, none⟩ = some (.int .i64 ((rd_T73 l0_3 x10_1).f5)) ∧ w'.cell? ⟨(ad328.add ((x10_1).toNat * 9)).block, (ad328.add ((x10_1).toNat * 9)).off + 6, none⟩ = some (.int .i64 ((rd_T73 l0_3 x10_1).f6)) ∧ w'.cell? ⟨(ad328.add ((x10_1).toNat * 9)).block, (ad328.add ((x10_1).toNat * 9)).off + 7, none⟩ = some (.slice A328_7 ((rd_T73 l0_3 x10_1).f7).length c328_7) ∧ w'.cell? ⟨(ad328.add ((x10_1).toNat * 9)).block, (ad328.add ((x10_1).toNat * 9)).off + 8, none⟩ = some (.slice A328_8 ((rd_T73 l0_3 x10_1).f8).length c328_8)) (ds := []) #[O, O, O, O, O, O, O, O, O, O, O] (by kernel_rfl) rfl rfl ⟨bc BK327 0, bc BK327 1, bc BK327 2, bc BK319 0, bc BK319 1, bc BK319 2, bc BK319 3, ((HB.out.cell (World.block_lt_of_cell? w _ hw328_0)).trans hw328_0), ((HB.out.cell (World.block_lt_of_cell? w _ hw328_1)).trans hw328_1), ((HB.out.cell (World.block_lt_of_cell? w _ hw328_2)).trans hw328_2), ((HB.out.cell (World.block_lt_of_cell? w _ hw328_3)).trans hw328_3), ((HB.out.cell (World.block_lt_of_cell? w _ hw328_4)).trans hw328_4), ((HB.out.cell (World.block_lt_of_cell? w _ hw328_5)).trans hw328_5), ((HB.out.cell (World.block_lt_of_cell? w _ hw328_6)).trans hw328_6), ((HB.out.cell (World.block_lt_of_cell? w _ hw328_7)).trans hw328_7), ((HB.out.cell (World.block_lt_of_cell? w _ hw328_8)).trans hw328_8)⟩ (fun hHeld => ?_); refine with_tabW impl_CostsOf.tab6 impl_CostsOf.bits6 (fun HT_ HW_ => ?_)
    generalize w19.drew = w20 at HO_3 HO_8 BK319 BK327 HB HR328_7 HR328_8 hx328_0 hx328_1 hx328_2 hx328_3 hx328_4 hx328_5 hx328_6 hx328_7 hx328_8 hHeld ⊢
    refine stepP 0 (some 20) (tk 11 1) (any_of HT_.out (by kernel_rfl)) ?_
    refine stepP 2 (some 22) (tk 11 5) (any_of HT_.out (by kernel_rfl)) ?_
    refine stepP 4 (some 24) (tk 11 21) (any_of HT_.out (by kernel_rfl)) ?_
    refine stepT 1 (some 21) (tk 11 23) (take_ofW HT_.out HW_.out (by kernel_rfl)) hHeld ?_
    refine stepT 3 (some 23) (tk 11 31) (take_ofW HT_.out HW_.out (by kernel_rfl)) hHeld ?_
    refine stepP 5 (some 25) (tk 11 63) (any_of HT_.out (by kernel_rfl)) ?_
    refine stepT 6 (some 26) (tk 11 127) (take_ofW HT_.out HW_.out (by kernel_rfl)) hHeld ?_
    refine one_ (i := 7) (N := some 27) #[I, I, I, I, I, I, I, I, O, O, O] rfl rfl (one_of HT_.out (by kernel_rfl)) (by decide) (fun K hK => ?_)
    refine goes_ Try.func77 (by kernel_rfl) rfl #[.agg #[.int .i64 ((rd_T25 t323 x10_1).f0), .int .i64 ((rd_T25 t323 x10_1).f1), .int .i64 ((rd_T25 t323 x10_1).f2)], .agg #[.int .i64 ((rd_T73 l0_3 x10_1).f0), .int .i64 ((rd_T73 l0_3 x10_1).f1), .int .i64 ((rd_T73 l0_3 x10_1).f2), .int .i64 ((rd_T73 l0_3 x10_1).f3), .int .i64 ((rd_T73 l0_3 x10_1).f4), .int .i64 ((rd_T73 l0_3 x10_1).f5), .int .i64 ((rd_T73 l0_3 x10_1).f6), .slice A328_7 ((rd_T73 l0_3 x10_1).f7).length c328_7, .slice A328_8 ((rd_T73 l0_3 x10_1).f8).length c328_8]] (by rfl) rfl rfl (by (try simp only [List.map_toArray, List.map_cons, List.map_nil]); first | done | rfl | (simp only [List.length_drop, List.length_take]; rfl)) ?_
    with_reducible refine (impl_CostOf.calls k1 ((rd_T25 t323 x10_1).f0) ((rd_T25 t323 x10_1).f1) ((rd_T25 t323 x10_1).f2) ((rd_T73 l0_3 x10_1).f0) ((rd_T73 l0_3 x10_1).f1) ((rd_T73 l0_3 x10_1).f2) ((rd_T73 l0_3 x10_1).f3) ((rd_T73 l0_3 x10_1).f4) ((rd_T73 l0_3 x10_1).f5) ((rd_T73 l0_3 x10_1).f6) _ _ ((rd_T73 l0_3 x10_1).f7) _ _ ((rd_T73 l0_3 x10_1).f8) t329 _ ?side1 ?side2 ?side3 ?side4 A13.out).mono ?_
    (case side1 => exact C_now HR328_7.out)
    (case side2 => exact HC328_7.out)
    (case side3 => exact C_now HR328_8.out)
    (case side4 => exact HC328_8.out)
    rintro e w21 ⟨rfl, hb⟩
    refine ⟨_, rfl, ?_⟩
    replace HO_3 := Aside0.mk (Kd.R_below (R_at HO_3.out) hb)
    replace HO_8 := Aside0.mk (Kd.R_below (R_at HO_8.out) hb)
    replace BK319 := blk_on gb319 hb
    replace BK327 := blk_on gb327 hb
    replace HB := bel_on w hb
    (try clear hb)
    refine hK.out _ _ ⟨bc BK327 0, bc BK327 1, bc BK327 2, bc BK319 0, bc BK319 1, bc BK319 2, bc BK319 3, ((HB.out.cell (World.block_lt_of_cell? w _ hw328_0)).trans hw328_0), ((HB.out.cell (World.block_lt_of_cell? w _ hw328_1)).trans hw328_1), ((HB.out.cell (World.block_lt_of_cell? w _ hw328_2)).trans hw328_2), ((HB.out.cell (World.block_lt_of_cell? w _ hw328_3)).trans hw328_3), ((HB.out.cell (World.block_lt_of_cell? w _ hw328_4)).trans hw328_4), ((HB.out.cell (World.block_lt_of_cell? w _ hw328_5)).trans hw328_5), ((HB.out.cell (World.block_lt_of_cell? w _ hw328_6)).trans hw328_6), ((HB.out.cell (World.block_lt_of_cell? w _ hw328_7)).trans hw328_7), ((HB.out.cell (World.block_lt_of_cell? w _ hw328_8)).trans hw328_8)⟩ (fun hHeld => ?_)
    clear hK K
    refine normP 27 ?_
    refine one_ (i := 8) (N := some 28) #[I, I, I, I, I, I, I, I, I, O, O] rfl rfl (one_of HT_.out (by kernel_rfl)) (by decide) (fun K hK => ?_)
    refine value_ (w1 := ?_) (v := ?_) (by rfl) rfl ?_ ?_
    rotate_left 2
    ·go_simp
     constructor
     ·rfl
     rfl
    refine hK.out _ _ ⟨(blk_cell (blk_alloc BK327.out _) 0).trans rfl, (blk_cell (blk_alloc BK327.out _) 1).trans rfl, (blk_cell (blk_alloc BK327.out _) 2).trans rfl, (blk_cell (blk_alloc BK319.out _) 0).trans rfl, (blk_cell (blk_alloc BK319.out _) 1).trans rfl, (blk_cell (blk_alloc BK319.out _) 2).trans rfl, (blk_cell (blk_alloc BK319.out _) 3).trans rfl, (World.cell?_alloc_lt _ _ _ (World.block_lt_of_cell? _ _ (((HB.out.cell (World.block_lt_of_cell? w _ hw328_0)).trans hw328_0)))).trans (((HB.out.cell (World.block_lt_of_cell? w _ hw328_0)).trans hw328_0)), (World.cell?_alloc_lt _ _ _ (World.block_lt_of_cell? _ _ (((HB.out.cell (World.block_lt_of_cell? w _ hw328_1)).trans hw328_1)))).trans (((HB.out.cell (World.block_lt_of_cell? w _ hw328_1)).trans hw328_1)), (World.cell?_alloc_lt _ _ _ (World.block_lt_of_cell? _ _ (((HB.out.cell (World.block_lt_of_cell? w _ hw328_2)).trans hw328_2)))).trans (((HB.out.cell (World.block_lt_of_cell? w _ hw328_2)).trans hw328_2)), (World.cell?_alloc_lt _ _ _ (World.block_lt_of_cell? _ _ (((HB.out.cell (World.block_lt_of_cell? w _ hw328_3)).trans hw328_3)))).trans (((HB.out.cell (World.block_lt_of_cell? w _ hw328_3)).trans hw328_3)), (World.cell?_alloc_lt _ _ _ (World.block_lt_of_cell? _ _ (((HB.out.cell (World.block_lt_of_cell? w _ hw328_4)).trans hw328_4)))).trans (((HB.out.cell (World.block_lt_of_cell? w _ hw328_4)).trans hw328_4)), (World.cell?_alloc_lt _ _ _ (World.block_lt_of_cell? _ _ (((HB.out.cell (World.block_lt_of_cell? w _ hw328_5)).trans hw328_5)))).trans (((HB.out.cell (World.block_lt_of_cell? w _ hw328_5)).trans hw328_5)), (World.cell?_alloc_lt _ _ _ (World.block_lt_of_cell? _ _ (((HB.out.cell (World.block_lt_of_cell? w _ hw328_6)).trans hw328_6)))).trans (((HB.out.cell (World.block_lt_of_cell? w _ hw328_6)).trans hw328_6)), (World.cell?_alloc_lt _ _ _ (World.block_lt_of_cell? _ _ (((HB.out.cell (World.block_lt_of_cell? w _ hw328_7)).trans hw328_7)))).trans (((HB.out.cell (World.block_lt_of_cell? w _ hw328_7)).trans hw328_7)), (World.cell?_alloc_lt _ _ _ (World.block_lt_of_cell? _ _ (((HB.out.cell (World.block_lt_of_cell? w _ hw328_8)).trans hw328_8)))).trans (((HB.out.cell (World.block_lt_of_cell? w _ hw328_8)).trans hw328_8))⟩ (fun hHeld => ?_)
    clear hK K
    refine normP 28 ?_
    refine one_ (i := 9) (N := some 29) #[I, I, I, I, I, I, I, I, I, I, O] rfl rfl (one_of HT_.out (by kernel_rfl)) (by decide) (fun K hK => ?_)
    refine Kd.R_append_step (Kd.int .i64) (w0 := w) w.heap.size (by rfl) (.tmp 20) (.tmp 28) 51 3 (.int .i64 0) 8 rfl Try.underlying51 info3 rfl (by decide) (by omega) u3 x3_1 t329 [.int .i64 t329] (fun _ => True) (fun _ => False) rfl rfl ?aP (fun _ hk => hk.elim) ?aF ?aO ?aB ?aS ?aL ?_
    (case aP => exact rfl)
    (case aB => exact bel_now)
    (case aF => exact (fun _ _ => trivial))
    (case aO => exact (R_at HO_3.out))
    (case aS => exact (below_size bel_now))
    (case aL => have := LMc14.out; omega)
    intro v331 w22 ho hb hg hat
    rw [← Ny330.out] at ho
    have n4_ := Aside0.mk (ho)
    replace HO_8 := Aside0.mk (Kd.R_over' (R_at HO_8.out) (Kd.R_typed (R_at HO_3.out)) (by decide) hg)
    replace BK319 := Aside0.mk (blk_grown (g := gb319) blk_now hg (Kd.R_ne HO_3.out BK319.out (by decide)))
    replace BK327 := Aside0.mk (blk_grown (g := gb327) blk_now hg (Kd.R_ne HO_3.out BK327.out (by decide)))
    replace HB := Aside0.mk (hb)
    clear HO_3
    have HO332 := n4_
    clear n4_
    clear ho hb hg hat
    refine hK.out _ _ ⟨bc BK327 0, bc BK327 1, bc BK327 2, bc BK319 0, bc BK319 1, bc BK319 2, bc BK319 3, ((HB.out.cell (World.block_lt_of_cell? w _ hw328_0)).trans hw328_0), ((HB.out.cell (World.block_lt_of_cell? w _ hw328_1)).trans hw328_1), ((HB.out.cell (World.block_lt_of_cell? w _ hw328_2)).trans hw328_2), ((HB.out.cell (World.block_lt_of_cell? w _ hw328_3)).trans hw328_3), ((HB.out.cell (World.block_lt_of_cell? w _ hw328_4)).trans hw328_4), ((HB.out.cell (World.block_lt_of_cell? w _ hw328_5)).trans hw328_5), ((HB.out.cell (World.block_lt_of_cell? w _ hw328_6)).trans hw328_6), ((HB.out.cell (World.block_lt_of_cell? w _ hw328_7)).trans hw328_7), ((HB.out.cell (World.block_lt_of_cell? w _ hw328_8)).trans hw328_8)⟩ (fun hHeld => ?_)
    clear hK K
    refine normP 29 ?_
    refine stepP 10 (some 3) (tk 11 2047) (any_of HT_.out (by kernel_rfl)) ?_
    refine done_ (done_of HT_.out (by kernel_rfl)) ?_
    try go_wp2
    go_roundg k1
    case measure => have := HK1.out; omega
    case rel => exact ⟨(y330), (wrap64 (x10_1 + 1)), (by first | rfl | (simp; done) | (simp [*]; done)), H', ⟨by have := HK1.out; omega⟩, ⟨by (with_reducible repeat (first | apply Kd.R_alloc | apply Kd.R_drewN | apply Kd.R_drew)); exact HO332.out⟩, ⟨by (with_reducible repeat (first | apply Kd.R_alloc | apply Kd.R_drewN | apply Kd.R_drew)); exact Kd.R_mono HO_8.out (fun _ hk => trivial)⟩, ⟨bks BK319⟩, ⟨bel_now⟩⟩

end Go.Proofs.Ytljdcemdhmaahaa.PFnExactCostsOf
