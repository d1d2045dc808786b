-- Printed by the session's own program (wip/myprint.py) for this claim out of the translation. Not trusted: Lean checks it.
import Derived.Test.YtljdcemdhmaahaaPFnExactNextCostx0
import Derived.Test.YtljdcemdhmaahaaPFnExactNextCostx12
import Derived.Test.YtljdcemdhmaahaaPFnExactNextCostx14
import Derived.Test.YtljdcemdhmaahaaPFnExactNextCostx16
namespace Go.Proofs.Ytljdcemdhmaahaa.PFnExactNextCost
open Go.RowKit Go.Proofs.YtljdcemdhmaahaaW.PrintWords Go.Proofs.YtljdcemdhmaahaaW.PrintLast Go.Proofs.YtljdcemdhmaahaaW.PrintMore
attribute [local go_sem] max2_int min2_int max_two min_two max_three min_three max_four min_four   -- for this text's walks alone
set_option linter.unusedVariables false
set_option linter.unusedSimpArgs false

/-! ### impl_CostOf: function 77 -/
def impl_CostOf.f (k : Nat) (a0_0 : Int) (a0_1 : Int) (a0_2 : Int) (a1_0 : Int) (a1_1 : Int) (a1_2 : Int) (a1_3 : Int) (a1_4 : Int) (a1_5 : Int) (a1_6 : Int) (l1_7 : List Int) (l1_8 : List Int) : Option (Int) := (impl_OutShape.f k a0_0 a0_1 a0_2 a1_0 a1_1 a1_2 a1_3 a1_4 a1_5 a1_6 l1_7 l1_8).bind fun bt376 => (if bt376.2.2.2 = true then ((impl_SizeOf.f a0_0 a0_1 a0_2).bind fun t381 => (if a1_0 = 0 then ((impl_SizeOf.f bt376.1 bt376.2.1 bt376.2.2.1).bind fun t382 => (some (wrap64 (1 + (wrap64 (Int.tdiv (wrap64 (t381 * t382)) 16)))))) else (if a1_0 = 1 then ((impl_SizeOf.f bt376.1 bt376.2.1 bt376.2.2.1).bind fun t383 => (some (wrap64 (1 + (wrap64 (Int.tdiv (wrap64 ((wrap64 ((wrap64 (t383 * a1_2)) * a1_2)) * a0_2)) 16)))))) else (if a1_0 = 2 then ((impl_SizeOf.f bt376.1 bt376.2.1 bt376.2.2.1).bind fun t384 => (some (wrap64 (1 + (wrap64 (Int.tdiv (wrap64 ((wrap64 (t384 * a1_2)) * a1_2)) 16)))))) else (if a1_0 = 3 then ((impl_SizeOf.f bt376.1 bt376.2.1 bt376.2.2.1).bind fun t385 => (some (wrap64 (1 + (wrap64 (Int.tdiv (wrap64 ((wrap64 (t385 * a1_2)) * a1_2)) 16)))))) else (some (wrap64 (1 + (wrap64 (Int.tdiv t381 16)))))))))) else (some 0))
def impl_CostOf.T9 : Bool × List (List Nat × List Nat) := (true, [([], []), ([0], [0]), ([], []), ([2], [2]), ([1, 3], [1, 3]), ([], []), ([5], [5]), ([4, 6], [4, 6]), ([], []), ([8], [8]), ([7, 9], [7, 9]), ([10, 1, 0, 1, 2, 3, 4, 5, 6, 7, 8, 9, 10], [10])])
def impl_CostOf.B9 : List Nat := [0, 1, 0, 4, 15, 0, 32, 127, 0, 256, 1023, 2047]
theorem impl_CostOf.tab9 : rtab .any (opsOf Try.f77 9) = impl_CostOf.T9 := by kernel_rfl
theorem impl_CostOf.bits9 : waitsOk impl_CostOf.T9.2 impl_CostOf.B9 = true := by kernel_rfl
def impl_CostOf.T12 : Bool × List (List Nat × List Nat) := (true, [([], []), ([0], [0]), ([], []), ([2], [2]), ([1, 3], [1, 3]), ([], []), ([5], [5]), ([4, 6], [4, 6]), ([7, 1, 0, 1, 2, 3, 4, 5, 6, 7], [7])])
def impl_CostOf.B12 : List Nat := [0, 1, 0, 4, 15, 0, 32, 127, 255]
theorem impl_CostOf.tab12 : rtab .any (opsOf Try.f77 12) = impl_CostOf.T12 := by kernel_rfl
theorem impl_CostOf.bits12 : waitsOk impl_CostOf.T12.2 impl_CostOf.B12 = true := by kernel_rfl
set_option maxHeartbeats 8000000 in
set_option maxRecDepth 100000 in
theorem impl_CostOf.calls (k : Nat) (a0_0 : Int) (a0_1 : Int) (a0_2 : Int) (a1_0 : Int) (a1_1 : Int) (a1_2 : Int) (a1_3 : Int) (a1_4 : Int) (a1_5 : Int) (a1_6 : Int) (A1_7 : Option Addr) (c1_7 : Nat) (l1_7 : List Int) (A1_8 : Option Addr) (c1_8 : Nat) (l1_8 : List Int) (r : Int) (w : World) (hr1_7 : Kd.C (Kd.int .i64) w A1_7 l1_7.length l1_7) (hc1_7 : l1_7.length ≤ c1_7) (hr1_8 : Kd.C (Kd.int .i64) w A1_8 l1_8.length l1_8) (hc1_8 : l1_8.length ≤ c1_8) (h : impl_CostOf.f k a0_0 a0_1 a0_2 a1_0 a1_1 a1_2 a1_3 a1_4 a1_5 a1_6 l1_7 l1_8 = some r) :
   Calls Try.prog 77 #[.agg #[.int .i64 a0_0, .int .i64 a0_1, .int .i64 a0_2], .agg #[.int .i64 a1_0, .int .i64 a1_1, .int .i64 a1_2, .int .i64 a1_3, .int .i64 a1_4, .int .i64 a1_5, .int .i64 a1_6, .slice A1_7 l1_7.length c1_7, .slice A1_8 l1_8.length c1_8]] w fun e w' => e = .returned (.int .i64 r) ∧ Below w.heap.size w w' := by
  have hu25 := Try.underlying25
  have hu73 := Try.underlying73
  have HR1_7 := Aside0.mk hr1_7
  have HC1_7 := Aside0.mk hc1_7
  clear hr1_7 hc1_7
  have HR1_8 := Aside0.mk hr1_8
  have HC1_8 := Aside0.mk hc1_8
  clear hr1_8 hc1_8
  have HB := Aside0.mk (Below.refl w.heap.size w)
  have H : ((impl_OutShape.f k a0_0 a0_1 a0_2 a1_0 a1_1 a1_2 a1_3 a1_4 a1_5 a1_6 l1_7 l1_8).bind fun bt376 => (if bt376.2.2.2 = true then ((impl_SizeOf.f a0_0 a0_1 a0_2).bind fun t381 => (if a1_0 = 0 then ((impl_SizeOf.f bt376.1 bt376.2.1 bt376.2.2.1).bind fun t382 => (some (wrap64 (1 + (wrap64 (Int.tdiv (wrap64 (t381 * t382)) 16)))))) else (if a1_0 = 1 then ((impl_SizeOf.f bt376.1 bt376.2.1 bt376.2.2.1).bind fun t383 => (some (wrap64 (1 + (wrap64 (Int.tdiv (wrap64 ((wrap64 ((wrap64 (t383 * a1_2)) * a1_2)) * a0_2)) 16)))))) else (if a1_0 = 2 then ((impl_SizeOf.f bt376.1 bt376.2.1 bt376.2.2.1).bind fun t384 => (some (wrap64 (1 + (wrap64 (Int.tdiv (wrap64 ((wrap64 (t384 * a1_2)) * a1_2)) 16)))))) else (if a1_0 = 3 then ((impl_SizeOf.f bt376.1 bt376.2.1 bt376.2.2.1).bind fun t385 => (some (wrap64 (1 + (wrap64 (Int.tdiv (wrap64 ((wrap64 (t385 * a1_2)) * a1_2)) 16)))))) else (some (wrap64 (1 + (wrap64 (Int.tdiv t381 16)))))))))) else (some 0))) = some r := h
  clear h
  replace H := Option.bind_eq_some_iff.mp H
  obtain ⟨⟨t376, t377, t378, t379⟩, A30, H⟩ := H
  (try dsimp only at H)
  have A3 := Aside0.mk A30
  clear A30
  by_cases c4 : t379 = true
  ·subst c4
   rw [if_pos rfl] at H
   replace H := Option.bind_eq_some_iff.mp H
   obtain ⟨t381, A50, H⟩ := H
   (try dsimp only at H)
   have A5 := Aside0.mk A50
   clear A50
   by_cases c6 : a1_0 = 0
   ·rw [if_pos c6] at H
    have c6b0 : (a1_0 == 0) = true := beq_iff_eq.mpr c6
    have c6b1 : (a1_0 != 0) = false := bne_eq_false_iff_eq.mpr c6
    clear c6
    replace H := Option.bind_eq_some_iff.mp H
    obtain ⟨t382, A70, H⟩ := H
    (try dsimp only at H)
    have A7 := Aside0.mk A70
    clear A70
    obtain rfl := Option.some.inj H
    go_enter Try.func77, Try.ntmps77
    go_wp2_with (first | ((with_reducible refine gate_dst (N := 2) rfl ?_); refine boxM 2 #[.int .i64 a0_0, .int .i64 a0_1, .int .i64 a0_2] 25 ?_; intro gb374 hg w8 BK374 hb; replace HB := box_at w hb hg; obtain ⟨HB, GW374, GE374⟩ := HB; clear hb hg) | ((with_reducible refine gate_dst (N := 3) rfl ?_); refine boxM 3 #[.int .i64 a1_0, .int .i64 a1_1, .int .i64 a1_2, .int .i64 a1_3, .int .i64 a1_4, .int .i64 a1_5, .int .i64 a1_6, .slice A1_7 l1_7.length c1_7, .slice A1_8 l1_8.length c1_8] 73 ?_; intro gb375 hg w9 BK375 hb; replace HB := box_at w hb hg; obtain ⟨HB, GW375, GE375⟩ := HB; replace BK374 := box_on gb374 hb hg; obtain ⟨BK374, NB374_375, NB375_374⟩ := BK374; clear hb hg; have hnb10 := NB374_375.out; have hnc10 := NB375_374.out; obtain ⟨hcz11_0, hcz11_1, hcz11_2, hfz11_0, hfz11_1, hfz11_2⟩ := cells3 BK374.out; obtain ⟨hcz12_0, hcz12_1, hcz12_2, hcz12_3, hcz12_4, hcz12_5, hcz12_6, hcz12_7, hcz12_8, hfz12_0, hfz12_1, hfz12_2, hfz12_3, hfz12_4, hfz12_5, hfz12_6, hfz12_7, hfz12_8⟩ := cells9 BK375.out) | ((with_reducible refine gate_callee (f := 100) rfl ?_); refine goesM (some 11) rfl rfl Try.func100 (by kernel_rfl) rfl #[.agg #[.int .i64 a0_0, .int .i64 a0_1, .int .i64 a0_2], .agg #[.int .i64 a1_0, .int .i64 a1_1, .int .i64 a1_2, .int .i64 a1_3, .int .i64 a1_4, .int .i64 a1_5, .int .i64 a1_6, .slice A1_7 l1_7.length c1_7, .slice A1_8 l1_8.length c1_8]] rfl ?_; (with_reducible refine (impl_OutShape.calls k a0_0 a0_1 a0_2 a1_0 a1_1 a1_2 a1_3 a1_4 a1_5 a1_6 _ _ l1_7 _ _ l1_8 t376 t377 t378 true _ ?side1 ?side2 ?side3 ?side4 A3.out).mono ?_); (case side1 => exact C_now HR1_7.out); (case side2 => exact HC1_7.out); (case side3 => exact C_now HR1_8.out); (case side4 => exact HC1_8.out); rintro e w13 ⟨rfl, hb⟩; refine ⟨_, rfl, ?_⟩; replace HB := bel_on w hb; replace BK374 := blk_on gb374 hb; replace BK375 := blk_on gb375 hb; (try clear hb)) | ((with_reducible refine gate_dst (N := 5) rfl ?_); refine boxM 5 #[.int .i64 0, .int .i64 0, .int .i64 0] 25 ?_; intro gb380 hg w14 BK380 hb; replace HB := box_at w hb hg; obtain ⟨HB, GW380, GE380⟩ := HB; replace BK374 := box_on gb374 hb hg; obtain ⟨BK374, NB374_380, NB380_374⟩ := BK374; replace BK375 := box_on gb375 hb hg; obtain ⟨BK375, NB375_380, NB380_375⟩ := BK375; clear hb hg; have hnb15 := NB380_374.out; have hnc15 := NB374_380.out; have hnb16 := NB380_375.out; have hnc16 := NB375_380.out; obtain ⟨hcz17_0, hcz17_1, hcz17_2, hfz17_0, hfz17_1, hfz17_2⟩ := cells3 BK380.out; obtain ⟨hcz18_0, hcz18_1, hcz18_2, hfz18_0, hfz18_1, hfz18_2⟩ := cells3 BK374.out) | ((with_reducible refine gate_callee (f := 103) rfl ?_); refine goesM (some 17) rfl rfl Try.func103 (by kernel_rfl) rfl #[.agg #[.int .i64 a0_0, .int .i64 a0_1, .int .i64 a0_2]] rfl ?_; (with_reducible refine (impl_SizeOf.calls a0_0 a0_1 a0_2 t381 _ A5.out).mono ?_); rintro e w19 ⟨rfl, hb⟩; refine ⟨_, rfl, ?_⟩; replace HB := bel_on w hb; replace BK374 := Aside0.mk (blk_below (g := gb374) (o := .cells #[.int .i64 a0_0, .int .i64 a0_1, .int .i64 a0_2] 25 (0, 0)) (blk_fars BK374.out) hb); replace BK375 := Aside0.mk (blk_below (g := gb375) (o := .cells #[.int .i64 a1_0, .int .i64 a1_1, .int .i64 a1_2, .int .i64 a1_3, .int .i64 a1_4, .int .i64 a1_5, .int .i64 a1_6, .slice A1_7 l1_7.length c1_7, .slice A1_8 l1_8.length c1_8] 73 (0, 0)) (blk_fars BK375.out) hb); replace BK380 := Aside0.mk (blk_below (g := gb380) (o := .cells #[.int .i64 t376, .int .i64 t377, .int .i64 t378] 25 (0, 0)) (blk_fars (puts3 BK380.out)) hb); (try clear hb); obtain ⟨hcz20_0, hcz20_1, hcz20_2, hcz20_3, hcz20_4, hcz20_5, hcz20_6, hcz20_7, hcz20_8, hfz20_0, hfz20_1, hfz20_2, hfz20_3, hfz20_4, hfz20_5, hfz20_6, hfz20_7, hfz20_8⟩ := cells9 BK375.out; obtain ⟨hcz21_0, hcz21_1, hcz21_2, hfz21_0, hfz21_1, hfz21_2⟩ := cells3 BK380.out) | ((with_reducible refine gate_callee (f := 103) rfl ?_); refine goesM (some 24) rfl rfl Try.func103 (by kernel_rfl) rfl #[.agg #[.int .i64 t376, .int .i64 t377, .int .i64 t378]] rfl ?_; (with_reducible refine (impl_SizeOf.calls t376 t377 t378 t382 _ A7.out).mono ?_); rintro e w22 ⟨rfl, hb⟩; refine ⟨_, rfl, ?_⟩; replace HB := bel_on w hb; replace BK374 := blk_on gb374 hb; replace BK375 := blk_on gb375 hb; replace BK380 := blk_on gb380 hb; (try clear hb)))
    go_ret
    exact ⟨eqN, bel_now⟩
   ·rw [if_neg c6] at H
    have c6b0 : (a1_0 == 0) = false := beq_eq_false_iff_ne.mpr c6
    have c6b1 : (a1_0 != 0) = true := bne_iff_ne.mpr c6
    by_cases c23 : a1_0 = 1
    ·rw [if_pos c23] at H
     have c23b0 : (a1_0 == 1) = true := beq_iff_eq.mpr c23
     have c23b1 : (a1_0 != 1) = false := bne_eq_false_iff_eq.mpr c23
     clear c23
     replace H := Option.bind_eq_some_iff.mp H
     obtain ⟨t383, A240, H⟩ := H
     (try dsimp only at H)
     have A24 := Aside0.mk A240
     clear A240
     obtain rfl := Option.some.inj H
     go_enter Try.func77, Try.ntmps77
     try go_wp2_with (first | ((with_reducible refine gate_dst (N := 2) rfl ?_); refine boxM 2 #[.int .i64 a0_0, .int .i64 a0_1, .int .i64 a0_2] 25 ?_; intro gb374 hg w25 BK374 hb; replace HB := box_at w hb hg; obtain ⟨HB, GW374, GE374⟩ := HB; clear hb hg) | ((with_reducible refine gate_dst (N := 3) rfl ?_); refine boxM 3 #[.int .i64 a1_0, .int .i64 a1_1, .int .i64 a1_2, .int .i64 a1_3, .int .i64 a1_4, .int .i64 a1_5, .int .i64 a1_6, .slice A1_7 l1_7.length c1_7, .slice A1_8 l1_8.length c1_8] 73 ?_; intro gb375 hg w26 BK375 hb; replace HB := box_at w hb hg; obtain ⟨HB, GW375, GE375⟩ := HB; replace BK374 := box_on gb374 hb hg; obtain ⟨BK374, NB374_375, NB375_374⟩ := BK374; clear hb hg; have hnb27 := NB374_375.out; have hnc27 := NB375_374.out; obtain ⟨hcz28_0, hcz28_1, hcz28_2, hfz28_0, hfz28_1, hfz28_2⟩ := cells3 BK374.out; obtain ⟨hcz29_0, hcz29_1, hcz29_2, hcz29_3, hcz29_4, hcz29_5, hcz29_6, hcz29_7, hcz29_8, hfz29_0, hfz29_1, hfz29_2, hfz29_3, hfz29_4, hfz29_5, hfz29_6, hfz29_7, hfz29_8⟩ := cells9 BK375.out) | ((with_reducible refine gate_callee (f := 100) rfl ?_); refine goesM (some 11) rfl rfl Try.func100 (by kernel_rfl) rfl #[.agg #[.int .i64 a0_0, .int .i64 a0_1, .int .i64 a0_2], .agg #[.int .i64 a1_0, .int .i64 a1_1, .int .i64 a1_2, .int .i64 a1_3, .int .i64 a1_4, .int .i64 a1_5, .int .i64 a1_6, .slice A1_7 l1_7.length c1_7, .slice A1_8 l1_8.length c1_8]] rfl ?_; (with_reducible refine (impl_OutShape.calls k a0_0 a0_1 a0_2 a1_0 a1_1 a1_2 a1_3 a1_4 a1_5 a1_6 _ _ l1_7 _ _ l1_8 t376 t377 t378 true _ ?side1 ?side2 ?side3 ?side4 A3.out).mono ?_); (case side1 => exact C_now HR1_7.out); (case side2 => exact HC1_7.out); (case side3 => exact C_now HR1_8.out); (case side4 => exact HC1_8.out); rintro e w30 ⟨rfl, hb⟩; refine ⟨_, rfl, ?_⟩; replace HB := bel_on w hb; replace BK374 := blk_on gb374 hb; replace BK375 := blk_on gb375 hb; (try clear hb)) | ((with_reducible refine gate_dst (N := 5) rfl ?_); refine boxM 5 #[.int .i64 0, .int .i64 0, .int .i64 0] 25 ?_; intro gb380 hg w31 BK380 hb; replace HB := box_at w hb hg; obtain ⟨HB, GW380, GE380⟩ := HB; replace BK374 := box_on gb374 hb hg; obtain ⟨BK374, NB374_380, NB380_374⟩ := BK374; replace BK375 := box_on gb375 hb hg; obtain ⟨BK375, NB375_380, NB380_375⟩ := BK375; clear hb hg; have hnb32 := NB380_374.out; have hnc32 := NB374_380.out; have hnb33 := NB380_375.out; have hnc33 := NB375_380.out; obtain ⟨hcz34_0, hcz34_1, hcz34_2, hfz34_0, hfz34_1, hfz34_2⟩ := cells3 BK380.out; obtain ⟨hcz35_0, hcz35_1, hcz35_2, hfz35_0, hfz35_1, hfz35_2⟩ := cells3 BK374.out) | ((with_reducible refine gate_callee (f := 103) rfl ?_); refine goesM (some 17) rfl rfl Try.func103 (by kernel_rfl) rfl #[.agg #[.int .i64 a0_0, .int .i64 a0_1, .int .i64 a0_2]] rfl ?_; (with_reducible refine (impl_SizeOf.calls a0_0 a0_1 a0_2 t381 _ A5.out).mono ?_); rintro e w36 ⟨rfl, hb⟩; refine ⟨_, rfl, ?_⟩; replace HB := bel_on w hb; replace BK374 := Aside0.mk (blk_below (g := gb374) (o := .cells #[.int .i64 a0_0, .int .i64 a0_1, .int .i64 a0_2] 25 (0, 0)) (blk_fars BK374.out) hb); replace BK375 := Aside0.mk (blk_below (g := gb375) (o := .cells #[.int .i64 a1_0, .int .i64 a1_1, .int .i64 a1_2, .int .i64 a1_3, .int .i64 a1_4, .int .i64 a1_5, .int .i64 a1_6, .slice A1_7 l1_7.length c1_7, .slice A1_8 l1_8.length c1_8] 73 (0, 0)) (blk_fars BK375.out) hb); replace BK380 := Aside0.mk (blk_below (g := gb380) (o := .cells #[.int .i64 t376, .int .i64 t377, .int .i64 t378] 25 (0, 0)) (blk_fars (puts3 BK380.out)) hb); (try clear hb); obtain ⟨hcz37_0, hcz37_1, hcz37_2, hcz37_3, hcz37_4, hcz37_5, hcz37_6, hcz37_7, hcz37_8, hfz37_0, hfz37_1, hfz37_2, hfz37_3, hfz37_4, hfz37_5, hfz37_6, hfz37_7, hfz37_8⟩ := cells9 BK375.out))
     replace BK374 := Aside0.mk (blk_drew BK374.out)
     replace BK375 := Aside0.mk (blk_drew BK375.out)
     replace BK380 := Aside0.mk (blk_drew BK380.out)
     replace HB := Aside0.mk (below_drew1 HB.out)
     refine start_ (n := 12) (S := fun w' => w'.cell? ⟨gb380, 0, none⟩ = some (.int .i64 t376) ∧ w'.cell? ⟨gb380, 1, none⟩ = some (.int .i64 t377) ∧ w'.cell? ⟨gb380, 2, none⟩ = some (.int .i64 t378) ∧ w'.cell? ⟨gb375, 0, none⟩ = some (.int .i64 a1_0) ∧ w'.cell? ⟨gb375, 1, none⟩ = some (.int .i64 a1_1) ∧ w'.cell? ⟨gb375, 2, none⟩ = some (.int .i64 a1_2) ∧ w'.cell? ⟨gb375, 3, none⟩ = some (.int .i64 a1_3) ∧ w'.cell? ⟨gb375, 4, none⟩ = some (.int .i64 a1_4) ∧ w'.cell? ⟨gb375, 5, none⟩ = some (.int .i64 a1_5) ∧ w'.cell? ⟨gb375, 6, none⟩ = some (.int .i64 a1_6) ∧ w'.cell? ⟨gb375, 7, none⟩ = some (.slice A1_7 l1_7.length c1_7) ∧ w'.cell? ⟨gb375, 8, none⟩ = some (.slice A1_8 l1_8.length c1_8) ∧ w'.cell? ⟨gb374, 0, none⟩ = some (.int .i64 a0_0) ∧ w'.cell? ⟨gb374, 1, none⟩ = some (.int .i64 a0_1) ∧ w'.cell? ⟨gb374, 2, none⟩ = some (.int .i64 a0_2)) (ds := []) #[O, O, O, O, O, O, O, O, O, O, O, O] (by kernel_rfl) rfl rfl ⟨bc BK380 0, bc BK380 1, bc BK380 2, bc BK375 0, bc BK375 1, bc BK375 2, bc BK375 3, bc BK375 4, bc BK375 5, bc BK375 6, bc BK375 7, bc BK375 8, bc BK374 0, bc BK374 1, bc BK374 2⟩ (fun hHeld => ?_); refine with_tabW impl_CostOf.tab9 impl_CostOf.bits9 (fun HT_ HW_ => ?_)
     generalize w36.drew = w38 at BK374 BK375 BK380 HB hHeld ⊢
     refine stepP 2 (some 30) (tk 12 4) (any_of HT_.out (by kernel_rfl)) ?_
     refine stepP 5 (some 33) (tk 12 36) (any_of HT_.out (by kernel_rfl)) ?_
     refine stepP 8 (some 36) (tk 12 292) (any_of HT_.out (by kernel_rfl)) ?_
     refine stepT 0 (some 28) (tk 12 293) (take_ofW HT_.out HW_.out (by kernel_rfl)) hHeld ?_
     refine stepT 3 (some 31) (tk 12 301) (take_ofW HT_.out HW_.out (by kernel_rfl)) hHeld ?_
     refine stepT 6 (some 34) (tk 12 365) (take_ofW HT_.out HW_.out (by kernel_rfl)) hHeld ?_
     refine stepT 9 (some 37) (tk 12 877) (take_ofW HT_.out HW_.out (by kernel_rfl)) hHeld ?_
     refine one_ (i := 1) (N := some 29) #[I, I, I, I, O, I, I, O, I, I, O, O] rfl rfl (one_of HT_.out (by kernel_rfl)) (by decide) (fun K hK => ?_)
     refine goes_ Try.func103 (by kernel_rfl) rfl #[.agg #[.int .i64 t376, .int .i64 t377, .int .i64 t378]] (by rfl) rfl rfl (by (try simp only [List.map_toArray, List.map_cons, List.map_nil]); first | done | rfl | (simp only [List.length_drop, List.length_take]; rfl)) ?_
     with_reducible refine (impl_SizeOf.calls t376 t377 t378 t383 _ A24.out).mono ?_
     rintro e w39 ⟨rfl, hb⟩
     refine ⟨_, rfl, ?_⟩
     replace BK374 := blk_on gb374 hb
     replace BK375 := blk_on gb375 hb
     replace BK380 := blk_on gb380 hb
     replace HB := bel_on w hb
     (try clear hb)
     (try clear hb2)
     (try clear hk)
     (try clear hi)
     refine hK.out _ _ ⟨bc BK380 0, bc BK380 1, bc BK380 2, bc BK375 0, bc BK375 1, bc BK375 2, bc BK375 3, bc BK375 4, bc BK375 5, bc BK375 6, bc BK375 7, bc BK375 8, bc BK374 0, bc BK374 1, bc BK374 2⟩ (fun hHeld => ?_)
     clear hK K
     refine norm_ (a' := ?_) ?_ ?_
     rotate_left
     ·show Act.put _ (some 29) _ = _
      simp only [Act.put, zA, zB, zC, i64_w, i32_w]
      rfl
     refine stepP 4 (some 32) (tk 12 895) (any_of HT_.out (by kernel_rfl)) ?_
     refine stepP 7 (some 35) (tk 12 1023) (any_of HT_.out (by kernel_rfl)) ?_
     refine stepP 10 (some 38) (tk 12 2047) (any_of HT_.out (by kernel_rfl)) ?_
     refine stepP 11 (some 7) (tk 12 4095) (any_of HT_.out (by kernel_rfl)) ?_
     refine done_ (done_of HT_.out (by kernel_rfl)) ?_
     try go_wp2
     go_ret
     exact ⟨eqN, bel_now⟩
    ·rw [if_neg c23] at H
     have c23b0 : (a1_0 == 1) = false := beq_eq_false_iff_ne.mpr c23
     have c23b1 : (a1_0 != 1) = true := bne_iff_ne.mpr c23
     by_cases c40 : a1_0 = 2
     ·rw [if_pos c40] at H
      have c40b0 : (a1_0 == 2) = true := beq_iff_eq.mpr c40
      have c40b1 : (a1_0 != 2) = false := bne_eq_false_iff_eq.mpr c40
      clear c40
      replace H := Option.bind_eq_some_iff.mp H
      obtain ⟨t384, A410, H⟩ := H
      (try dsimp only at H)
      have A41 := Aside0.mk A410
      clear A410
      obtain rfl := Option.some.inj H
      go_enter Try.func77, Try.ntmps77
      try go_wp2_with (first | ((with_reducible refine gate_dst (N := 2) rfl ?_); refine boxM 2 #[.int .i64 a0_0, .int .i64 a0_1, .int .i64 a0_2] 25 ?_; intro gb374 hg w42 BK374 hb; replace HB := box_at w hb hg; obtain ⟨HB, GW374, GE374⟩ := HB; clear hb hg) | ((with_reducible refine gate_dst (N := 3) rfl ?_); refine boxM 3 #[.int .i64 a1_0, .int .i64 a1_1, .int .i64 a1_2, .int .i64 a1_3, .int .i64 a1_4, .int .i64 a1_5, .int .i64 a1_6, .slice A1_7 l1_7.length c1_7, .slice A1_8 l1_8.length c1_8] 73 ?_; intro gb375 hg w43 BK375 hb; replace HB := box_at w hb hg; obtain ⟨HB, GW375, GE375⟩ := HB; replace BK374 := box_on gb374 hb hg; obtain ⟨BK374, NB374_375, NB375_374⟩ := BK374; clear hb hg; have hnb44 := NB374_375.out; have hnc44 := NB375_374.out; obtain ⟨hcz45_0, hcz45_1, hcz45_2, hfz45_0, hfz45_1, hfz45_2⟩ := cells3 BK374.out; obtain ⟨hcz46_0, hcz46_1, hcz46_2, hcz46_3, hcz46_4, hcz46_5, hcz46_6, hcz46_7, hcz46_8, hfz46_0, hfz46_1, hfz46_2, hfz46_3, hfz46_4, hfz46_5, hfz46_6, hfz46_7, hfz46_8⟩ := cells9 BK375.out) | ((with_reducible refine gate_callee (f := 100) rfl ?_); refine goesM (some 11) rfl rfl Try.func100 (by kernel_rfl) rfl #[.agg #[.int .i64 a0_0, .int .i64 a0_1, .int .i64 a0_2], .agg #[.int .i64 a1_0, .int .i64 a1_1, .int .i64 a1_2, .int .i64 a1_3, .int .i64 a1_4, .int .i64 a1_5, .int .i64 a1_6, .slice A1_7 l1_7.length c1_7, .slice A1_8 l1_8.length c1_8]] rfl ?_; (with_reducible refine (impl_OutShape.calls k a0_0 a0_1 a0_2 a1_0 a1_1 a1_2 a1_3 a1_4 a1_5 a1_6 _ _ l1_7 _ _ l1_8 t376 t377 t378 true _ ?side1 ?side2 ?side3 ?side4 A3.out).mono ?_); (case side1 => exact C_now HR1_7.out); (case side2 => exact HC1_7.out); (case side3 => exact C_now HR1_8.out); (case side4 => exact HC1_8.out); rintro e w47 ⟨rfl, hb⟩; refine ⟨_, rfl, ?_⟩; replace HB := bel_on w hb; replace BK374 := blk_on gb374 hb; replace BK375 := blk_on gb375 hb; (try clear hb)) | ((with_reducible refine gate_dst (N := 5) rfl ?_); refine boxM 5 #[.int .i64 0, .int .i64 0, .int .i64 0] 25 ?_; intro gb380 hg w48 BK380 hb; replace HB := box_at w hb hg; obtain ⟨HB, GW380, GE380⟩ := HB; replace BK374 := box_on gb374 hb hg; obtain ⟨BK374, NB374_380, NB380_374⟩ := BK374; replace BK375 := box_on gb375 hb hg; obtain ⟨BK375, NB375_380, NB380_375⟩ := BK375; clear hb hg; have hnb49 := NB380_374.out; have hnc49 := NB374_380.out; have hnb50 := NB380_375.out; have hnc50 := NB375_380.out; obtain ⟨hcz51_0, hcz51_1, hcz51_2, hfz51_0, hfz51_1, hfz51_2⟩ := cells3 BK380.out; obtain ⟨hcz52_0, hcz52_1, hcz52_2, hfz52_0, hfz52_1, hfz52_2⟩ := cells3 BK374.out) | ((with_reducible refine gate_callee (f := 103) rfl ?_); refine goesM (some 17) rfl rfl Try.func103 (by kernel_rfl) rfl #[.agg #[.int .i64 a0_0, .int .i64 a0_1, .int .i64 a0_2]] rfl ?_; (with_reducible refine (impl_SizeOf.calls a0_0 a0_1 a0_2 t381 _ A5.out).mono ?_); rintro e w53 ⟨rfl, hb⟩; refine ⟨_, rfl, ?_⟩; replace HB := bel_on w hb; replace BK374 := Aside0.mk (blk_below (g := gb374) (o := .cells #[.int .i64 a0_0, .int .i64 a0_1, .int .i64 a0_2] 25 (0, 0)) (blk_fars BK374.out) hb); replace BK375 := Aside0.mk (blk_below (g := gb375) (o := .cells #[.int .i64 a1_0, .int .i64 a1_1, .int .i64 a1_2, .int .i64 a1_3, .int .i64 a1_4, .int .i64 a1_5, .int .i64 a1_6, .slice A1_7 l1_7.length c1_7, .slice A1_8 l1_8.length c1_8] 73 (0, 0)) (blk_fars BK375.out) hb); replace BK380 := Aside0.mk (blk_below (g := gb380) (o := .cells #[.int .i64 t376, .int .i64 t377, .int .i64 t378] 25 (0, 0)) (blk_fars (puts3 BK380.out)) hb); (try clear hb); obtain ⟨hcz54_0, hcz54_1, hcz54_2, hcz54_3, hcz54_4, hcz54_5, hcz54_6, hcz54_7, hcz54_8, hfz54_0, hfz54_1, hfz54_2, hfz54_3, hfz54_4, hfz54_5, hfz54_6, hfz54_7, hfz54_8⟩ := cells9 BK375.out))
      replace BK374 := Aside0.mk (blk_drew BK374.out)
      replace BK375 := Aside0.mk (blk_drew BK375.out)
      replace BK380 := Aside0.mk (blk_drew BK380.out)
      replace HB := Aside0.mk (below_drew1 HB.out)
      refine start_ (n := 9) (S := fun w' => w'.cell? ⟨gb380, 0, none⟩ = some (.int .i64 t376) ∧ w'.cell? ⟨gb380, 1, none⟩ = some (.int .i64 t377) ∧ w'.cell? ⟨gb380, 2, none⟩ = some (.int .i64 t378) ∧ w'.cell? ⟨gb375, 0, none⟩ = some (.int .i64 a1_0) ∧ w'.cell? ⟨gb375, 1, none⟩ = some (.int .i64 a1_1) ∧ w'.cell? ⟨gb375, 2, none⟩ = some (.int .i64 a1_2) ∧ w'.cell? ⟨gb375, 3, none⟩ = some (.int .i64 a1_3) ∧ w'.cell? ⟨gb375, 4, none⟩ = some (.int .i64 a1_4) ∧ w'.cell? ⟨gb375, 5, none⟩ = some (.int .i64 a1_5) ∧ w'.cell? ⟨gb375, 6, none⟩ = some (.int .i64 a1_6) ∧ w'.cell? ⟨gb375, 7, none⟩ = some (.slice A1_7 l1_7.length c1_7) ∧ w'.cell? ⟨gb375, 8, none⟩ = some (.slice A1_8 l1_8.length c1_8)) (ds := []) #[O, O, O, O, O, O, O, O, O] (by kernel_rfl) rfl rfl ⟨bc BK380 0, bc BK380 1, bc BK380 2, bc BK375 0, bc BK375 1, bc BK375 2, bc BK375 3, bc BK375 4, bc BK375 5, bc BK375 6, bc BK375 7, bc BK375 8⟩ (fun hHeld => ?_); refine with_tabW impl_CostOf.tab12 impl_CostOf.bits12 (fun HT_ HW_ => ?_)
      generalize w53.drew = w55 at BK374 BK375 BK380 HB hHeld ⊢
      refine stepP 2 (some 44) (tk 9 4) (any_of HT_.out (by kernel_rfl)) ?_
      refine stepP 5 (some 47) (tk 9 36) (any_of HT_.out (by kernel_rfl)) ?_
      refine stepT 0 (some 42) (tk 9 37) (take_ofW HT_.out HW_.out (by kernel_rfl)) hHeld ?_
      refine stepT 3 (some 45) (tk 9 45) (take_ofW HT_.out HW_.out (by kernel_rfl)) hHeld ?_
      refine stepT 6 (some 48) (tk 9 109) (take_ofW HT_.out HW_.out (by kernel_rfl)) hHeld ?_
      refine one_ (i := 1) (N := some 43) #[I, I, I, I, O, I, I, O, O] rfl rfl (one_of HT_.out (by kernel_rfl)) (by decide) (fun K hK => ?_)
      refine goes_ Try.func103 (by kernel_rfl) rfl #[.agg #[.int .i64 t376, .int .i64 t377, .int .i64 t378]] (by rfl) rfl rfl (by (try simp only [List.map_toArray, List.map_cons, List.map_nil]); first | done | rfl | (simp only [List.length_drop, List.length_take]; rfl)) ?_
      with_reducible refine (impl_SizeOf.calls t376 t377 t378 t384 _ A41.out).mono ?_
      rintro e w56 ⟨rfl, hb⟩
      refine ⟨_, rfl, ?_⟩
      replace BK374 := blk_on gb374 hb
      replace BK375 := blk_on gb375 hb
      replace BK380 := blk_on gb380 hb
      replace HB := bel_on w hb
      (try clear hb)
      (try clear hb2)
      (try clear hk)
      (try clear hi)
      refine hK.out _ _ ⟨bc BK380 0, bc BK380 1, bc BK380 2, bc BK375 0, bc BK375 1, bc BK375 2, bc BK375 3, bc BK375 4, bc BK375 5, bc BK375 6, bc BK375 7, bc BK375 8⟩ (fun hHeld => ?_)
      clear hK K
      refine norm_ (a' := ?_) ?_ ?_
      rotate_left
      ·show Act.put _ (some 43) _ = _
       simp only [Act.put, zA, zB, zC, i64_w, i32_w]
       rfl
      refine stepP 4 (some 46) (tk 9 127) (any_of HT_.out (by kernel_rfl)) ?_
      refine stepP 7 (some 49) (tk 9 255) (any_of HT_.out (by kernel_rfl)) ?_
      refine stepP 8 (some 7) (tk 9 511) (any_of HT_.out (by kernel_rfl)) ?_
      refine done_ (done_of HT_.out (by kernel_rfl)) ?_
      try go_wp2
      go_ret
      exact ⟨eqN, bel_now⟩
     ·rw [if_neg c40] at H
      have c40b0 : (a1_0 == 2) = false := beq_eq_false_iff_ne.mpr c40
      have c40b1 : (a1_0 != 2) = true := bne_iff_ne.mpr c40
      by_cases c57 : a1_0 = 3
      ·rw [if_pos c57] at H
       have c57b0 : (a1_0 == 3) = true := beq_iff_eq.mpr c57
       have c57b1 : (a1_0 != 3) = false := bne_eq_false_iff_eq.mpr c57
       clear c57
       replace H := Option.bind_eq_some_iff.mp H
       obtain ⟨t385, A580, H⟩ := H
       (try dsimp only at H)
       have A58 := Aside0.mk A580
       clear A580
       obtain rfl := Option.some.inj H
       go_enter Try.func77, Try.ntmps77
       try go_wp2_with (first | ((with_reducible refine gate_dst (N := 2) rfl ?_); refine boxM 2 #[.int .i64 a0_0, .int .i64 a0_1, .int .i64 a0_2] 25 ?_; intro gb374 hg w59 BK374 hb; replace HB := box_at w hb hg; obtain ⟨HB, GW374, GE374⟩ := HB; clear hb hg) | ((with_reducible refine gate_dst (N := 3) rfl ?_); refine boxM 3 #[.int .i64 a1_0, .int .i64 a1_1, .int .i64 a1_2, .int .i64 a1_3, .int .i64 a1_4, .int .i64 a1_5, .int .i64 a1_6, .slice A1_7 l1_7.length c1_7, .slice A1_8 l1_8.length c1_8] 73 ?_; intro gb375 hg w60 BK375 hb; replace HB := box_at w hb hg; obtain ⟨HB, GW375, GE375⟩ := HB; replace BK374 := box_on gb374 hb hg; obtain ⟨BK374, NB374_375, NB375_374⟩ := BK374; clear hb hg; have hnb61 := NB374_375.out; have hnc61 := NB375_374.out; obtain ⟨hcz62_0, hcz62_1, hcz62_2, hfz62_0, hfz62_1, hfz62_2⟩ := cells3 BK374.out; obtain ⟨hcz63_0, hcz63_1, hcz63_2, hcz63_3, hcz63_4, hcz63_5, hcz63_6, hcz63_7, hcz63_8, hfz63_0, hfz63_1, hfz63_2, hfz63_3, hfz63_4, hfz63_5, hfz63_6, hfz63_7, hfz63_8⟩ := cells9 BK375.out) | ((with_reducible refine gate_callee (f := 100) rfl ?_); refine goesM (some 11) rfl rfl Try.func100 (by kernel_rfl) rfl #[.agg #[.int .i64 a0_0, .int .i64 a0_1, .int .i64 a0_2], .agg #[.int .i64 a1_0, .int .i64 a1_1, .int .i64 a1_2, .int .i64 a1_3, .int .i64 a1_4, .int .i64 a1_5, .int .i64 a1_6, .slice A1_7 l1_7.length c1_7, .slice A1_8 l1_8.length c1_8]] rfl ?_; (with_reducible refine (impl_OutShape.calls k a0_0 a0_1 a0_2 a1_0 a1_1 a1_2 a1_3 a1_4 a1_5 a1_6 _ _ l1_7 _ _ l1_8 t376 t377 t378 true _ ?side1 ?side2 ?side3 ?side4 A3.out).mono ?_); (case side1 => exact C_now HR1_7.out); (case side2 => exact HC1_7.out); (case side3 => exact C_now HR1_8.out); (case side4 => exact HC1_8.out); rintro e w64 ⟨rfl, hb⟩; refine ⟨_, rfl, ?_⟩; replace HB := bel_on w hb; replace BK374 := blk_on gb374 hb; replace BK375 := blk_on gb375 hb; (try clear hb)) | ((with_reducible refine gate_dst (N := 5) rfl ?_); refine boxM 5 #[.int .i64 0, .int .i64 0, .int .i64 0] 25 ?_; intro gb380 hg w65 BK380 hb; replace HB := box_at w hb hg; obtain ⟨HB, GW380, GE380⟩ := HB; replace BK374 := box_on gb374 hb hg; obtain ⟨BK374, NB374_380, NB380_374⟩ := BK374; replace BK375 := box_on gb375 hb hg; obtain ⟨BK375, NB375_380, NB380_375⟩ := BK375; clear hb hg; have hnb66 := NB380_374.out; have hnc66 := NB374_380.out; have hnb67 := NB380_375.out; have hnc67 := NB375_380.out; obtain ⟨hcz68_0, hcz68_1, hcz68_2, hfz68_0, hfz68_1, hfz68_2⟩ := cells3 BK380.out; obtain ⟨hcz69_0, hcz69_1, hcz69_2, hfz69_0, hfz69_1, hfz69_2⟩ := cells3 BK374.out) | ((with_reducible refine gate_callee (f := 103) rfl ?_); refine goesM (some 17) rfl rfl Try.func103 (by kernel_rfl) rfl #[.agg #[.int .i64 a0_0, .int .i64 a0_1, .int .i64 a0_2]] rfl ?_; (with_reducible refine (impl_SizeOf.calls a0_0 a0_1 a0_2 t381 _ A5.out).mono ?_); rintro e w70 ⟨rfl, hb⟩; refine ⟨_, rfl, ?_⟩; replace HB := bel_on w hb; replace BK374 := Aside0.mk (blk_below (g := gb374) (o := .cells #[.int .i64 a0_0, .int .i64 a0_1, .int .i64 a0_2] 25 (0, 0)) (blk_fars BK374.out) hb); replace BK375 := Aside0.mk (blk_below (g := gb375) (o := .cells #[.int .i64 a1_0, .int .i64 a1_1, .int .i64 a1_2, .int .i64 a1_3, .int .i64 a1_4, .int .i64 a1_5, .int .i64 a1_6, .slice A1_7 l1_7.length c1_7, .slice A1_8 l1_8.length c1_8] 73 (0, 0)) (blk_fars BK375.out) hb); replace BK380 := Aside0.mk (blk_below (g := gb380) (o := .cells #[.int .i64 t376, .int .i64 t377, .int .i64 t378] 25 (0, 0)) (blk_fars (puts3 BK380.out)) hb); (try clear hb); obtain ⟨hcz71_0, hcz71_1, hcz71_2, hcz71_3, hcz71_4, hcz71_5, hcz71_6, hcz71_7, hcz71_8, hfz71_0, hfz71_1, hfz71_2, hfz71_3, hfz71_4, hfz71_5, hfz71_6, hfz71_7, hfz71_8⟩ := cells9 BK375.out))
       replace BK374 := Aside0.mk (blk_drew BK374.out)
       replace BK375 := Aside0.mk (blk_drew BK375.out)
       replace BK380 := Aside0.mk (blk_drew BK380.out)
       replace HB := Aside0.mk (below_drew1 HB.out)
       refine start_ (n := 9) (S := fun w' => w'.cell? ⟨gb380, 0, none⟩ = some (.int .i64 t376) ∧ w'.cell? ⟨gb380, 1, none⟩ = some (.int .i64 t377) ∧ w'.cell? ⟨gb380, 2, none⟩ = some (.int .i64 t378) ∧ w'.cell? ⟨gb375, 0, none⟩ = some (.int .i64 a1_0) ∧ w'.cell? ⟨gb375, 1, none⟩ = some (.int .i64 a1_1) ∧ w'.cell? ⟨gb375, 2, none⟩ = some (.int .i64 a1_2) ∧ w'.cell? ⟨gb375, 3, none⟩ = some (.int .i64 a1_3) ∧ w'.cell? ⟨gb375, 4, none⟩ = some (.int .i64 a1_4) ∧ w'.cell? ⟨gb375, 5, none⟩ = some (.int .i64 a1_5) ∧ w'.cell? ⟨gb375, 6, none⟩ = some (.int .i64 a1_6) ∧ w'.cell? ⟨gb375, 7, none⟩ = some (.slice A1_7 l1_7.length c1_7) ∧ w'.cell? ⟨gb375, 8, none⟩ = some (.slice A1_8 l1_8.length c1_8)) (ds := []) #[O, O, O, O, O, O, O, O, O] (by kernel_rfl) rfl rfl ⟨bc BK380 0, bc BK380 1, bc BK380 2, bc BK375 0, bc BK375 1, bc BK375 2, bc BK375 3, bc BK375 4, bc BK375 5, bc BK375 6, bc BK375 7, bc BK375 8⟩ (fun hHeld => ?_); refine with_tabW impl_CostOf.tab12 impl_CostOf.bits12 (fun HT_ HW_ => ?_)
       generalize w70.drew = w72 at BK374 BK375 BK380 HB hHeld ⊢
       refine stepP 2 (some 44) (tk 9 4) (any_of HT_.out (by kernel_rfl)) ?_
       refine stepP 5 (some 47) (tk 9 36) (any_of HT_.out (by kernel_rfl)) ?_
       refine stepT 0 (some 42) (tk 9 37) (take_ofW HT_.out HW_.out (by kernel_rfl)) hHeld ?_
       refine stepT 3 (some 45) (tk 9 45) (take_ofW HT_.out HW_.out (by kernel_rfl)) hHeld ?_
       refine stepT 6 (some 48) (tk 9 109) (take_ofW HT_.out HW_.out (by kernel_rfl)) hHeld ?_
       refine one_ (i := 1) (N := some 43) #[I, I, I, I, O, I, I, O, O] rfl rfl (one_of HT_.out (by kernel_rfl)) (by decide) (fun K hK => ?_)
       refine goes_ Try.func103 (by kernel_rfl) rfl #[.agg #[.int .i64 t376, .int .i64 t377, .int .i64 t378]] (by rfl) rfl rfl (by (try simp only [List.map_toArray, List.map_cons, List.map_nil]); first | done | rfl | (simp only [List.length_drop, List.length_take]; rfl)) ?_
       with_reducible refine (impl_SizeOf.calls t376 t377 t378 t385 _ A58.out).mono ?_
       rintro e w73 ⟨rfl, hb⟩
       refine ⟨_, rfl, ?_⟩
       replace BK374 := blk_on gb374 hb
       replace BK375 := blk_on gb375 hb
       replace BK380 := blk_on gb380 hb
       replace HB := bel_on w hb
       (try clear hb)
       (try clear hb2)
       (try clear hk)
       (try clear hi)
       refine hK.out _ _ ⟨bc BK380 0, bc BK380 1, bc BK380 2, bc BK375 0, bc BK375 1, bc BK375 2, bc BK375 3, bc BK375 4, bc BK375 5, bc BK375 6, bc BK375 7, bc BK375 8⟩ (fun hHeld => ?_)
       clear hK K
       refine norm_ (a' := ?_) ?_ ?_
       rotate_left
       ·show Act.put _ (some 43) _ = _
        simp only [Act.put, zA, zB, zC, i64_w, i32_w]
        rfl
       refine stepP 4 (some 46) (tk 9 127) (any_of HT_.out (by kernel_rfl)) ?_
       refine stepP 7 (some 49) (tk 9 255) (any_of HT_.out (by kernel_rfl)) ?_
       refine stepP 8 (some 7) (tk 9 511) (any_of HT_.out (by kernel_rfl)) ?_
       refine done_ (done_of HT_.out (by kernel_rfl)) ?_
       try go_wp2
       go_ret
       exact ⟨eqN, bel_now⟩
      ·rw [if_neg c57] at H
       have c57b0 : (a1_0 == 3) = false := beq_eq_false_iff_ne.mpr c57
       have c57b1 : (a1_0 != 3) = true := bne_iff_ne.mpr c57
       obtain rfl := Option.some.inj H
       go_enter Try.func77, Try.ntmps77
       go_wp2_with (first | ((with_reducible refine gate_dst (N := 2) rfl ?_); refine boxM 2 #[.int .i64 a0_0, .int .i64 a0_1, .int .i64 a0_2] 25 ?_; intro gb374 hg w74 BK374 hb; replace HB := box_at w hb hg; obtain ⟨HB, GW374, GE374⟩ := HB; clear hb hg) | ((with_reducible refine gate_dst (N := 3) rfl ?_); refine boxM 3 #[.int .i64 a1_0, .int .i64 a1_1, .int .i64 a1_2, .int .i64 a1_3, .int .i64 a1_4, .int .i64 a1_5, .int .i64 a1_6, .slice A1_7 l1_7.length c1_7, .slice A1_8 l1_8.length c1_8] 73 ?_; intro gb375 hg w75 BK375 hb; replace HB := box_at w hb hg; obtain ⟨HB, GW375, GE375⟩ := HB; replace BK374 := box_on gb374 hb hg; obtain ⟨BK374, NB374_375, NB375_374⟩ := BK374; clear hb hg; have hnb76 := NB374_375.out; have hnc76 := NB375_374.out; obtain ⟨hcz77_0, hcz77_1, hcz77_2, hfz77_0, hfz77_1, hfz77_2⟩ := cells3 BK374.out; obtain ⟨hcz78_0, hcz78_1, hcz78_2, hcz78_3, hcz78_4, hcz78_5, hcz78_6, hcz78_7, hcz78_8, hfz78_0, hfz78_1, hfz78_2, hfz78_3, hfz78_4, hfz78_5, hfz78_6, hfz78_7, hfz78_8⟩ := cells9 BK375.out) | ((with_reducible refine gate_callee (f := 100) rfl ?_); refine goesM (some 11) rfl rfl Try.func100 (by kernel_rfl) rfl #[.agg #[.int .i64 a0_0, .int .i64 a0_1, .int .i64 a0_2], .agg #[.int .i64 a1_0, .int .i64 a1_1, .int .i64 a1_2, .int .i64 a1_3, .int .i64 a1_4, .int .i64 a1_5, .int .i64 a1_6, .slice A1_7 l1_7.length c1_7, .slice A1_8 l1_8.length c1_8]] rfl ?_; (with_reducible refine (impl_OutShape.calls k a0_0 a0_1 a0_2 a1_0 a1_1 a1_2 a1_3 a1_4 a1_5 a1_6 _ _ l1_7 _ _ l1_8 t376 t377 t378 true _ ?side1 ?side2 ?side3 ?side4 A3.out).mono ?_); (case side1 => exact C_now HR1_7.out); (case side2 => exact HC1_7.out); (case side3 => exact C_now HR1_8.out); (case side4 => exact HC1_8.out); rintro e w79 ⟨rfl, hb⟩; refine ⟨_, rfl, ?_⟩; replace HB := bel_on w hb; replace BK374 := blk_on gb374 hb; replace BK375 := blk_on gb375 hb; (try clear hb)) | ((with_reducible refine gate_dst (N := 5) rfl ?_); refine boxM 5 #[.int .i64 0, .int .i64 0, .int .i64 0] 25 ?_; intro gb380 hg w80 BK380 hb; replace HB := box_at w hb hg; obtain ⟨HB, GW380, GE380⟩ := HB; replace BK374 := box_on gb374 hb hg; obtain ⟨BK374, NB374_380, NB380_374⟩ := BK374; replace BK375 := box_on gb375 hb hg; obtain ⟨BK375, NB375_380, NB380_375⟩ := BK375; clear hb hg; have hnb81 := NB380_374.out; have hnc81 := NB374_380.out; have hnb82 := NB380_375.out; have hnc82 := NB375_380.out; obtain ⟨hcz83_0, hcz83_1, hcz83_2, hfz83_0, hfz83_1, hfz83_2⟩ := cells3 BK380.out; obtain ⟨hcz84_0, hcz84_1, hcz84_2, hfz84_0, hfz84_1, hfz84_2⟩ := cells3 BK374.out) | ((with_reducible refine gate_callee (f := 103) rfl ?_); refine goesM (some 17) rfl rfl Try.func103 (by kernel_rfl) rfl #[.agg #[.int .i64 a0_0, .int .i64 a0_1, .int .i64 a0_2]] rfl ?_; (with_reducible refine (impl_SizeOf.calls a0_0 a0_1 a0_2 t381 _ A5.out).mono ?_); rintro e w85 ⟨rfl, hb⟩; refine ⟨_, rfl, ?_⟩; replace HB := bel_on w hb; replace BK374 := Aside0.mk (blk_below (g := gb374) (o := .cells #[.int .i64 a0_0, .int .i64 a0_1, .int .i64 a0_2] 25 (0, 0)) (blk_fars BK374.out) hb); replace BK375 := Aside0.mk (blk_below (g := gb375) (o := .cells #[.int .i64 a1_0, .int .i64 a1_1, .int .i64 a1_2, .int .i64 a1_3, .int .i64 a1_4, .int .i64 a1_5, .int .i64 a1_6, .slice A1_7 l1_7.length c1_7, .slice A1_8 l1_8.length c1_8] 73 (0, 0)) (blk_fars BK375.out) hb); replace BK380 := Aside0.mk (blk_below (g := gb380) (o := .cells #[.int .i64 t376, .int .i64 t377, .int .i64 t378] 25 (0, 0)) (blk_fars (puts3 BK380.out)) hb); (try clear hb); obtain ⟨hcz86_0, hcz86_1, hcz86_2, hcz86_3, hcz86_4, hcz86_5, hcz86_6, hcz86_7, hcz86_8, hfz86_0, hfz86_1, hfz86_2, hfz86_3, hfz86_4, hfz86_5, hfz86_6, hfz86_7, hfz86_8⟩ := cells9 BK375.out))
       go_ret
       exact ⟨eqN, bel_now⟩
  ·replace c4 := Bool.eq_false_iff.mpr c4
   subst c4
   rw [if_neg (show ¬ (false = true) by decide)] at H
   obtain rfl := Option.some.inj H
   go_enter Try.func77, Try.ntmps77
   go_wp2_with (first | ((with_reducible refine gate_dst (N := 2) rfl ?_); refine boxM 2 #[.int .i64 a0_0, .int .i64 a0_1, .int .i64 a0_2] 25 ?_; intro gb374 hg w87 BK374 hb; replace HB := box_at w hb hg; obtain ⟨HB, GW374, GE374⟩ := HB; clear hb hg) | ((with_reducible refine gate_dst (N := 3) rfl ?_); refine boxM 3 #[.int .i64 a1_0, .int .i64 a1_1, .int .i64 a1_2, .int .i64 a1_3, .int .i64 a1_4, .int .i64 a1_5, .int .i64 a1_6, .slice A1_7 l1_7.length c1_7, .slice A1_8 l1_8.length c1_8] 73 ?_; intro gb375 hg w88 BK375 hb; replace HB := box_at w hb hg; obtain ⟨HB, GW375, GE375⟩ := HB; replace BK374 := box_on gb374 hb hg; obtain ⟨BK374, NB374_375, NB375_374⟩ := BK374; clear hb hg; have hnb89 := NB374_375.out; have hnc89 := NB375_374.out; obtain ⟨hcz90_0, hcz90_1, hcz90_2, hfz90_0, hfz90_1, hfz90_2⟩ := cells3 BK374.out; obtain ⟨hcz91_0, hcz91_1, hcz91_2, hcz91_3, hcz91_4, hcz91_5, hcz91_6, hcz91_7, hcz91_8, hfz91_0, hfz91_1, hfz91_2, hfz91_3, hfz91_4, hfz91_5, hfz91_6, hfz91_7, hfz91_8⟩ := cells9 BK375.out) | ((with_reducible refine gate_callee (f := 100) rfl ?_); refine goesM (some 11) rfl rfl Try.func100 (by kernel_rfl) rfl #[.agg #[.int .i64 a0_0, .int .i64 a0_1, .int .i64 a0_2], .agg #[.int .i64 a1_0, .int .i64 a1_1, .int .i64 a1_2, .int .i64 a1_3, .int .i64 a1_4, .int .i64 a1_5, .int .i64 a1_6, .slice A1_7 l1_7.length c1_7, .slice A1_8 l1_8.length c1_8]] rfl ?_; (with_reducible refine (impl_OutShape.calls k a0_0 a0_1 a0_2 a1_0 a1_1 a1_2 a1_3 a1_4 a1_5 a1_6 _ _ l1_7 _ _ l1_8 t376 t377 t378 false _ ?side1 ?side2 ?side3 ?side4 A3.out).mono ?_); (case side1 => exact C_now HR1_7.out); (case side2 => exact HC1_7.out); (case side3 => exact C_now HR1_8.out); (case side4 => exact HC1_8.out); rintro e w92 ⟨rfl, hb⟩; refine ⟨_, rfl, ?_⟩; replace HB := bel_on w hb; replace BK374 := blk_on gb374 hb; replace BK375 := blk_on gb375 hb; (try clear hb)) | ((with_reducible refine gate_dst (N := 5) rfl ?_); refine boxM 5 #[.int .i64 0, .int .i64 0, .int .i64 0] 25 ?_; intro gb380 hg w93 BK380 hb; replace HB := box_at w hb hg; obtain ⟨HB, GW380, GE380⟩ := HB; replace BK374 := box_on gb374 hb hg; obtain ⟨BK374, NB374_380, NB380_374⟩ := BK374; replace BK375 := box_on gb375 hb hg; obtain ⟨BK375, NB375_380, NB380_375⟩ := BK375; clear hb hg; have hnb94 := NB380_374.out; have hnc94 := NB374_380.out; have hnb95 := NB380_375.out; have hnc95 := NB375_380.out; obtain ⟨hcz96_0, hcz96_1, hcz96_2, hfz96_0, hfz96_1, hfz96_2⟩ := cells3 BK380.out))
   go_ret
   exact ⟨eqN, bel_now⟩

/-! ### impl_CostsOf: function 34 -/
def impl_CostsOf.l0 : Nat → List Int → List (S25) → Int → Int → Int → Int → Int → List (S73) → Option (List Int)
  | 0, _, _, _, _, _, _, _, _ => none
  | k + 1, x3, x8, x9, x10, x387000, x387001, x387002, x387003 => if x10 < x9 then (if 0 ≤ x10 then (if x10 < (x8.length : Int) then (if x10 < (x387003.length : Int) then ((impl_CostOf.f k ((rd_T25 x8 x10).f0) ((rd_T25 x8 x10).f1) ((rd_T25 x8 x10).f2) ((rd_T73 x387003 x10).f0) ((rd_T73 x387003 x10).f1) ((rd_T73 x387003 x10).f2) ((rd_T73 x387003 x10).f3) ((rd_T73 x387003 x10).f4) ((rd_T73 x387003 x10).f5) ((rd_T73 x387003 x10).f6) ((rd_T73 x387003 x10).f7) ((rd_T73 x387003 x10).f8)).bind fun t396 => (if x3.length < 17592186044416 then (impl_CostsOf.l0 k (x3 ++ [t396]) x8 x9 (wrap64 (x10 + 1)) x387000 x387001 x387002 x387003) else (none))) else (impl_CostsOf.l0 k x3 x8 x9 (wrap64 (x10 + 1)) x387000 x387001 x387002 x387003)) else (none)) else (none)) else (some x3)
def impl_CostsOf.f (k : Nat) (a0_0 : Int) (a0_1 : Int) (a0_2 : Int) (l0_3 : List (S73)) : Option (List Int) := (impl_ShapesOf.f k a0_0 a0_1 a0_2 l0_3).bind fun t390 => (impl_CostsOf.l0 k (([] : List Int)) t390 (t390.length : Int) 0 a0_0 a0_1 a0_2 l0_3)
def impl_CostsOf.T6 : Bool × List (List Nat × List Nat) := (true, [([], []), ([], []), ([], []), ([2], [2]), ([], []), ([3, 4], [3, 4]), ([5], [5]), ([1, 6], [1, 6]), ([7], [7]), ([0, 8, 7], [0, 8]), ([9, 9, 0, 1, 2, 3, 4, 5, 6, 7, 8, 9], [0, 9])])
def impl_CostsOf.B6 : List Nat := [0, 0, 0, 4, 0, 28, 60, 126, 254, 511, 1023]
theorem impl_CostsOf.tab6 : rtab .any (opsOf Try.f34 6) = impl_CostsOf.T6 := by kernel_rfl
theorem impl_CostsOf.bits6 : waitsOk impl_CostsOf.T6.2 impl_CostsOf.B6 = true := by kernel_rfl
set_option maxHeartbeats 8000000 in
set_option maxRecDepth 100000 in
theorem impl_CostsOf.calls (k : Nat) (a0_0 : Int) (a0_1 : Int) (a0_2 : Int) (A0_3 : Option Addr) (c0_3 : Nat) (l0_3 : List (S73)) (r : List Int) (w : World) (hr0_3 : Kd.C k73 w A0_3 l0_3.length l0_3) (hc0_3 : l0_3.length ≤ c0_3) (h : impl_CostsOf.f k a0_0 a0_1 a0_2 l0_3 = some r) :
   Calls Try.prog 34 #[.agg #[.int .i64 a0_0, .int .i64 a0_1, .int .i64 a0_2, .slice A0_3 l0_3.length c0_3]] w fun e w' => ∃ v0_ : Value, e = .returned (v0_) ∧ Kd.R (Kd.int .i64) 3 w' w.heap.size (fun _ => True) v0_ r ∧ Below w.heap.size w w' := by
  have hu28 := Try.underlying28
  have hu25 := Try.underlying25
  have hu73 := Try.underlying73
  have HR0_3 := Aside0.mk hr0_3
  have HC0_3 := Aside0.mk hc0_3
  clear hr0_3 hc0_3
  have HB := Aside0.mk (Below.refl w.heap.size w)
  have H : ((impl_ShapesOf.f k a0_0 a0_1 a0_2 l0_3).bind fun t390 => (impl_CostsOf.l0 k (([] : List Int)) t390 (t390.length : Int) 0 a0_0 a0_1 a0_2 l0_3)) = some r := h
  clear h
  obtain ⟨y387, hy387⟩ : ∃ y_ : List Int, y_ = (([] : List Int)) := ⟨_, rfl⟩
  replace H : ((impl_ShapesOf.f k a0_0 a0_1 a0_2 l0_3).bind fun t390 => (impl_CostsOf.l0 k y387 t390 (t390.length : Int) 0 a0_0 a0_1 a0_2 l0_3)) = some r := by first | (rw [hy387]; with_reducible exact H) | (have H2_ := (Option.bind_some _ _).symm.trans H; rw [hy387]; with_reducible exact H2_) | (have H2_ := (Option.bind_some _ _).symm.trans H; with_reducible exact H2_) | with_reducible exact H | (rw [hy387]; exact H) | exact H
  have Ny387 := Aside0.mk hy387
  clear hy387
  replace H := Option.bind_eq_some_iff.mp H
  obtain ⟨t390, A20, H⟩ := H
  (try dsimp only at H)
  have A2 := Aside0.mk A20
  clear A20
  have H' := Aside0.mk H
  clear H
  go_enter Try.func34, Try.ntmps34
  go_wp2_with (first | ((with_reducible refine gate_dst (N := 1) rfl ?_); refine boxM 1 #[.int .i64 a0_0, .int .i64 a0_1, .int .i64 a0_2, .slice A0_3 l0_3.length c0_3] 28 ?_; intro gb386 hg w3 BK386 hb; replace HB := box_at w hb hg; obtain ⟨HB, GW386, GE386⟩ := HB; clear hb hg) | ((with_reducible refine gate_dst (N := 6) rfl ?_); refine Kd.R_lit (Kd.int .i64) _ 3 ?hg (N := 6) ?hd (xs := ([] : List Int)) (inner := []) (ok := fun _ => True) (okp := fun _ => True) ?hr ?hp (fun _ hk => hk) trivial (Below.refl _ _) (Nat.le_refl _) (by simp) ?_; (case hd => rfl); (case hg => rfl); (case hr => first | (go_simp; done) | (go_simp; rfl)); (case hp => exact (Reps.none _ _)); intro v388 w4 ho5 hb hg_ hnew_; clear hg_ hnew_; (first | rw [← Ny387.out] at ho5 | (simp only [Int.reduceToNat] at ho5; rw [← Ny387.out] at ho5)); have n0_ := Aside0.mk (Kd.R_lower ho5 (below_size bel_now)); replace HB := bel_on w hb; replace BK386 := blk_on gb386 hb; have HO389 := n0_; clear n0_; clear hb ho5; obtain ⟨hcz6_0, hcz6_1, hcz6_2, hcz6_3, hfz6_0, hfz6_1, hfz6_2, hfz6_3⟩ := cells4 BK386.out) | ((with_reducible refine gate_callee (f := 25) rfl ?_); refine goesM (some 8) rfl rfl Try.func25 (by kernel_rfl) rfl #[.agg #[.int .i64 a0_0, .int .i64 a0_1, .int .i64 a0_2, .slice A0_3 l0_3.length c0_3]] rfl ?_; (with_reducible refine (impl_ShapesOf.calls k a0_0 a0_1 a0_2 _ _ l0_3 t390 _ ?side1 ?side2 A2.out).mono ?_); (case side1 => exact C_now HR0_3.out); (case side2 => exact HC0_3.out); rintro e w7 ⟨v391, rfl, ho0, hb⟩; refine ⟨_, rfl, ?_⟩; have n1_ := Aside0.mk (Kd.R_lower ho0 (below_size bel_now)); replace HO389 := Aside0.mk (Kd.R_below (R_at HO389.out) hb); replace HB := bel_on w hb; replace BK386 := blk_on gb386 hb; have HO392 := n1_; clear n1_; (try clear hb); (try clear ho0); obtain ⟨Ao8, co8, eo8⟩ := Kd.R_slice HO392.out; subst eo8))
  go_loopg [3, 10] k (fun kq v3 v10 w' => ∃ (x3_1 : List Int) (x10_1 : Int), v10 = .int .i64 x10_1 ∧ Aside0 (impl_CostsOf.l0 kq x3_1 t390 (t390.length : Int) x10_1 a0_0 a0_1 a0_2 l0_3 = some r) ∧ Aside0 (kq ≤ k) ∧ Aside0 (Kd.R (Kd.int .i64) 3 w' w.heap.size (fun _ => True) v3 x3_1) ∧ Aside0 (Kd.R k25 25 w' w.heap.size (fun _ => True) (.slice Ao8 t390.length co8) t390) ∧ Aside0 (w'.heap[gb386]? = some (.cells #[.int .i64 a0_0, .int .i64 a0_1, .int .i64 a0_2, (.slice A0_3 l0_3.length c0_3)] 28 (0, 0))) ∧ Aside0 (Below w.heap.size w w'))
  case atStart => exact ⟨(y387), (0), (by first | rfl | (simp; done) | (simp [*]; done)), H', ⟨Nat.le_refl _⟩, ⟨by (with_reducible repeat (first | apply Kd.R_alloc | apply Kd.R_drewN | apply Kd.R_drew)); exact HO389.out⟩, ⟨by (with_reducible repeat (first | apply Kd.R_alloc | apply Kd.R_drewN | apply Kd.R_drew)); exact HO392.out⟩, ⟨by (with_reducible repeat (first | refine blk_drewN ?_ _ | refine blk_drew ?_ | refine blk_alloc ?_ _)); exact BK386.out⟩, ⟨bel_now⟩⟩
  case round =>
   clear H'
   try clear c2
   try clear p2
   try clear c3
   try clear hcz6_0 hcz6_1 hcz6_2 hcz6_3 hfz6_0 hfz6_1 hfz6_2 hfz6_3
   obtain ⟨x3_1, x10_1, rfl, HA, HK1, HO_3, HO_8, BK386, HB⟩ := hrel
   cases gk with
   | zero => exact absurd HA.out (by simp [impl_CostsOf.l0])
   | succ k1 =>
    have H := HA.out
    clear HA
    simp only [impl_CostsOf.l0] at H
    by_cases c9 : x10_1 < (t390.length : Int)
    ·rw [if_pos c9] at H
     have c9b0 : decide (x10_1 < (t390.length : Int)) = true := decide_eq_true c9
     clear c9
     by_cases c10 : 0 ≤ x10_1
     ·rw [if_pos c10] at H
      have c10b0 : decide (0 ≤ x10_1) = true := decide_eq_true c10
      clear c10
      by_cases c11 : x10_1 < (t390.length : Int)
      ·rw [if_pos c11] at H
       have c11b0 : decide (x10_1 < (t390.length : Int)) = true := decide_eq_true c11
       clear c11
       by_cases c12 : x10_1 < (l0_3.length : Int)
       ·rw [if_pos c12] at H
        have c12b0 : decide (x10_1 < (l0_3.length : Int)) = true := decide_eq_true c12
        clear c12
        replace H := Option.bind_eq_some_iff.mp H
        obtain ⟨t396, A130, H⟩ := H
        (try dsimp only at H)
        have A13 := Aside0.mk A130
        clear A130
        by_cases c14 : x3_1.length < 17592186044416
        ·rw [if_pos c14] at H
         have LMc14 := Aside0.mk c14
         clear c14
         obtain ⟨y397, hy397⟩ : ∃ y_ : List Int, y_ = (x3_1 ++ [t396]) := ⟨_, rfl⟩
         replace H : (impl_CostsOf.l0 k1 y397 t390 (t390.length : Int) (wrap64 (x10_1 + 1)) a0_0 a0_1 a0_2 l0_3) = some r := by first | (rw [hy397]; with_reducible exact H) | (have H2_ := (Option.bind_some _ _).symm.trans H; rw [hy397]; with_reducible exact H2_) | (have H2_ := (Option.bind_some _ _).symm.trans H; with_reducible exact H2_) | with_reducible exact H | (rw [hy397]; exact H) | exact H
         have Ny397 := Aside0.mk hy397
         clear hy397
         have H' := Aside0.mk H
         clear H
         have p393 : 0 ≤ (x10_1 : Int) := of_decide_eq_true (by first | (with_reducible assumption) | assumption)
         have q393 : x10_1 < (t390.length : Int) := of_decide_eq_true (by first | (with_reducible assumption) | assumption)
         (try (obtain ⟨_, _, eo_⟩ := Kd.R_slice HO_8.out; subst eo_))
         obtain ⟨ad393, e393, hx393_0, hx393_1, hx393_2⟩ := at_T25 (Kd.R_reads' HO_8.out).2.2 x10_1 p393 q393
         cases e393
         replace p393 := eq_true p393
         replace q393 := eq_true q393
         try go_wp2_with (first | ((with_reducible refine gate_dst (N := 5) rfl ?_); refine boxM 5 #[.int .i64 0, .int .i64 0, .int .i64 0] 25 ?_; intro gb394 hg w15 BK394 hb; replace HB := box_at w hb hg; obtain ⟨HB, GW394, GE394⟩ := HB; replace BK386 := box_on gb386 hb hg; obtain ⟨BK386, NB386_394, NB394_386⟩ := BK386; replace HO_3 := Aside0.mk (Kd.R_below (R_at HO_3.out) hb); replace HO_8 := Aside0.mk (Kd.R_below (Kd.R_elderB (R_at HO_8.out) gb394 (Nat.le_of_eq hg.symm)) hb); clear hb hg; have hnb16 := NB394_386.out; have hnc16 := NB386_394.out; obtain ⟨hcz17_0, hcz17_1, hcz17_2, hfz17_0, hfz17_1, hfz17_2⟩ := cells3 BK394.out; obtain ⟨hcz18_0, hcz18_1, hcz18_2, hcz18_3, hfz18_0, hfz18_1, hfz18_2, hfz18_3⟩ := cells4 BK386.out))
         have n0_ : Aside0 (Kd.R (Kd.int .i64) 3 (((w15.setCell ⟨gb394, 0, none⟩ (.int .i64 ((rd_T25 t390 x10_1).f0))).setCell ⟨gb394, 1, none⟩ (.int .i64 ((rd_T25 t390 x10_1).f1))).setCell ⟨gb394, 2, none⟩ (.int .i64 ((rd_T25 t390 x10_1).f2))) w.heap.size (fun _ => True) u3 x3_1) := ⟨by (with_reducible repeat (first | apply Kd.R_alloc | apply Kd.R_drewN | apply Kd.R_drew)); exact Kd.R_mono (Kd.R_far (p := ⟨gb394, 2, none⟩) (Kd.R_far (p := ⟨gb394, 1, none⟩) (Kd.R_far (p := ⟨gb394, 0, none⟩) (Kd.R_types HO_3.out BK394.out (by decide)) (fun _ hk => hk.2) (.int .i64 ((rd_T25 t390 x10_1).f0))) (fun _ hk => hk.2) (.int .i64 ((rd_T25 t390 x10_1).f1))) (fun _ hk => hk.2) (.int .i64 ((rd_T25 t390 x10_1).f2))) (fun _ hk => trivial)⟩
         have n1_ : Aside0 (Kd.R k25 25 (((w15.setCell ⟨gb394, 0, none⟩ (.int .i64 ((rd_T25 t390 x10_1).f0))).setCell ⟨gb394, 1, none⟩ (.int .i64 ((rd_T25 t390 x10_1).f1))).setCell ⟨gb394, 2, none⟩ (.int .i64 ((rd_T25 t390 x10_1).f2))) w.heap.size (fun k_ => k_ ≠ gb394) (.slice (some ad393) t390.length co8) t390) := ⟨by (with_reducible repeat (first | apply Kd.R_alloc | apply Kd.R_drewN | apply Kd.R_drew)); exact Kd.R_mono (Kd.R_far (p := ⟨gb394, 2, none⟩) (Kd.R_far (p := ⟨gb394, 1, none⟩) (Kd.R_far (p := ⟨gb394, 0, none⟩) (Kd.R_mono HO_8.out (fun k_ hk => (⟨hk, hk.2⟩ : _ ∧ k_ ≠ gb394))) (fun _ hk => hk.2) (.int .i64 ((rd_T25 t390 x10_1).f0))) (fun _ hk => hk.2) (.int .i64 ((rd_T25 t390 x10_1).f1))) (fun _ hk => hk.2) (.int .i64 ((rd_T25 t390 x10_1).f2))) (fun _ hk => hk.1.2)⟩
         have n2_ : Aside0 ((((w15.setCell ⟨gb394, 0, none⟩ (.int .i64 ((rd_T25 t390 x10_1).f0))).setCell ⟨gb394, 1, none⟩ (.int .i64 ((rd_T25 t390 x10_1).f1))).setCell ⟨gb394, 2, none⟩ (.int .i64 ((rd_T25 t390 x10_1).f2))).heap[gb386]? = some (.cells #[.int .i64 a0_0, .int .i64 a0_1, .int .i64 a0_2, .slice A0_3 l0_3.length c0_3] 28 (0, 0))) := ⟨by (with_reducible repeat (first | refine blk_drewN ?_ _ | refine blk_drew ?_ | refine blk_alloc ?_ _)); refine blk_far ?_ NB386_394.out _; (with_reducible repeat (first | refine blk_drewN ?_ _ | refine blk_drew ?_ | refine blk_alloc ?_ _)); refine blk_far ?_ NB386_394.out _; (with_reducible repeat (first | refine blk_drewN ?_ _ | refine blk_drew ?_ | refine blk_alloc ?_ _)); refine blk_far ?_ NB386_394.out _; (with_reducible repeat (first | refine blk_drewN ?_ _ | refine blk_drew ?_ | refine blk_alloc ?_ _)); exact BK386.out⟩
         have n3_ : Aside0 ((((w15.setCell ⟨gb394, 0, none⟩ (.int .i64 ((rd_T25 t390 x10_1).f0))).setCell ⟨gb394, 1, none⟩ (.int .i64 ((rd_T25 t390 x10_1).f1))).setCell ⟨gb394, 2, none⟩ (.int .i64 ((rd_T25 t390 x10_1).f2))).heap[gb394]? = some (.cells #[.int .i64 ((rd_T25 t390 x10_1).f0), .int .i64 ((rd_T25 t390 x10_1).f1), .int .i64 ((rd_T25 t390 x10_1).f2)] 25 (0, 0))) := ⟨by (with_reducible repeat (first | refine blk_drewN ?_ _ | refine blk_drew ?_ | refine blk_alloc ?_ _)); refine blk_put (cs := #[.int .i64 ((rd_T25 t390 x10_1).f0), .int .i64 ((rd_T25 t390 x10_1).f1), .int .i64 0]) ?_ 2 _ rfl; (with_reducible repeat (first | refine blk_drewN ?_ _ | refine blk_drew ?_ | refine blk_alloc ?_ _)); refine blk_put (cs := #[.int .i64 ((rd_T25 t390 x10_1).f0), .int .i64 0, .int .i64 0]) ?_ 1 _ rfl; (with_reducible repeat (first | refine blk_drewN ?_ _ | refine blk_drew ?_ | refine blk_alloc ?_ _)); refine blk_put (cs := #[.int .i64 0, .int .i64 0, .int .i64 0]) ?_ 0 _ rfl; (with_reducible repeat (first | refine blk_drewN ?_ _ | refine blk_drew ?_ | refine blk_alloc ?_ _)); exact BK394.out⟩
         have n4_ : Aside0 (Below w.heap.size w (((w15.setCell ⟨gb394, 0, none⟩ (.int .i64 ((rd_T25 t390 x10_1).f0))).setCell ⟨gb394, 1, none⟩ (.int .i64 ((rd_T25 t390 x10_1).f1))).setCell ⟨gb394, 2, none⟩ (.int .i64 ((rd_T25 t390 x10_1).f2)))) := ⟨bel_now⟩
         (try clear HO_3)
         (try clear HO_8)
         (try clear BK386)
         (try clear BK394)
         (try clear HB)
         generalize (((w15.setCell ⟨gb394, 0, none⟩ (.int .i64 ((rd_T25 t390 x10_1).f0))).setCell ⟨gb394, 1, none⟩ (.int .i64 ((rd_T25 t390 x10_1).f1))).setCell ⟨gb394, 2, none⟩ (.int .i64 ((rd_T25 t390 x10_1).f2))) = w19 at n0_ n1_ n2_ n3_ n4_ ⊢
         have HO_3 := n0_
         have HO_8 := n1_
         have BK386 := n2_
         have BK394 := n3_
         have HB := n4_
         clear n0_ n1_ n2_ n3_ n4_
         replace HO_3 := Aside0.mk (Kd.R_drew HO_3.out)
         replace HO_8 := Aside0.mk (Kd.R_drew HO_8.out)
         replace BK386 := Aside0.mk (blk_drew BK386.out)
         replace BK394 := Aside0.mk (blk_drew BK394.out)
         replace HB := Aside0.mk (below_drew1 HB.out)
         have p395 : 0 ≤ (x10_1 : Int) := of_decide_eq_true (by first | (with_reducible assumption) | assumption)
         have q395 : x10_1 < (l0_3.length : Int) := of_decide_eq_true (by first | (with_reducible assumption) | assumption)
         obtain ⟨ad395, A395_7, c395_7, A395_8, c395_8, e395, hx395_0, hx395_1, hx395_2, hx395_3, hx395_4, hx395_5, hx395_6, hx395_7, hx395_8, hl395_7, hi395_7, hl395_8, hi395_8⟩ := at_T73 HR0_3.out x10_1 p395 q395
         have hw395_8 := hx395_8
         have hw395_7 := hx395_7
         have hw395_6 := hx395_6
         have hw395_5 := hx395_5
         have hw395_4 := hx395_4
         have hw395_3 := hx395_3
         have hw395_2 := hx395_2
         have hw395_1 := hx395_1
         have hw395_0 := hx395_0
         cases e395
         replace hx395_0 := (HB.out.cell (World.block_lt_of_cell? w _ hx395_0)).trans hx395_0
         replace hx395_1 := (HB.out.cell (World.block_lt_of_cell? w _ hx395_1)).trans hx395_1
         replace hx395_2 := (HB.out.cell (World.block_lt_of_cell? w _ hx395_2)).trans hx395_2
         replace hx395_3 := (HB.out.cell (World.block_lt_of_cell? w _ hx395_3)).trans hx395_3
         replace hx395_4 := (HB.out.cell (World.block_lt_of_cell? w _ hx395_4)).trans hx395_4
         replace hx395_5 := (HB.out.cell (World.block_lt_of_cell? w _ hx395_5)).trans hx395_5
         replace hx395_6 := (HB.out.cell (World.block_lt_of_cell? w _ hx395_6)).trans hx395_6
         replace hx395_7 := (HB.out.cell (World.block_lt_of_cell? w _ hx395_7)).trans hx395_7
         replace hx395_8 := (HB.out.cell (World.block_lt_of_cell? w _ hx395_8)).trans hx395_8
         have HR395_7 := Aside0.mk hi395_7
         have HC395_7 := Aside0.mk hl395_7
         clear hi395_7 hl395_7
         have HR395_8 := Aside0.mk hi395_8
         have HC395_8 := Aside0.mk hl395_8
         clear hi395_8 hl395_8
         replace p395 := eq_true p395
         replace q395 := eq_true q395
         refine start_ (n := 11) (S := fun w' => w'.cell? ⟨gb394, 0, none⟩ = some (.int .i64 ((rd_T25 t390 x10_1).f0)) ∧ w'.cell? ⟨gb394, 1, none⟩ = some (.int .i64 ((rd_T25 t390 x10_1).f1)) ∧ w'.cell? ⟨gb394, 2, none⟩ = some (.int .i64 ((rd_T25 t390 x10_1).f2)) ∧ w'.cell? ⟨gb386, 0, none⟩ = some (.int .i64 a0_0) ∧ w'.cell? ⟨gb386, 1, none⟩ = some (.int .i64 a0_1) ∧ w'.cell? ⟨gb386, 2, none⟩ = some (.int .i64 a0_2) ∧ w'.cell? ⟨gb386, 3, none⟩ = some (.slice (some ad395) l0_3.length c0_3) ∧ w'.cell? (ad395.add ((x10_1).toNat * 9)) = some (.int .i64 ((rd_T73 l0_3 x10_1).f0)) ∧ w'.cell? ⟨(ad395.add ((x10_1).toNat * 9)).block, (ad395.add ((x10_1).toNat * 9)).off + 1, none⟩ = some (.int .i64 ((rd_T73 l0_3 x10_1).f1)) ∧ w'.cell? ⟨(ad395.add ((x10_1).toNat * 9)).block, (ad395.add ((x10_1).toNat * 9)).off + 2, none⟩ = some (.int .i64 ((rd_T73 l0_3 x10_1).f2)) ∧ w'.cell? ⟨(ad395.add ((x10_1).toNat * 9)).block, (ad395.add ((x10_1).toNat * 9)).off + 3, none⟩ = some (.int .i64 ((rd_T73 l0_3 x10_1).f3)) ∧ w'.cell? ⟨(ad395.add ((x10_1).toNat * 9)).block, (ad395.add ((x10_1).toNat * 9)).off + 4, none⟩ = some (.int .i64 ((rd_T73 l0_3 x10_1).f4)) ∧ w'.cell? ⟨(ad395.add ((x10_1).toNat * 9)).block, (ad395.add ((x10_1).toNat * 9)).off + 5, none⟩ = some (.int .i64 ((rd_T73 l0_3 x10_1).f5)) ∧ w'.cell? ⟨(ad395.add ((x10_1).toNat * 9)).block, (ad395.add ((x10_1).toNat * 9)).off + 6, none⟩ = some (.int .i64 ((rd_T73 l0_3 x10_1).f6)) ∧ w'.cell? ⟨(ad395.add ((x10_1).toNat * 9)).block, (ad395.add ((x10_1).toNat * 9)).off + 7, none⟩ = some (.slice A395_7 ((rd_T73 l0_3 x10_1).f7).length c395_7) ∧ w'.cell? ⟨(ad395.add ((x10_1).toNat * 9)).block, (ad395.add ((x10_1).toNat * 9)).off + 8, none⟩ = some (.slice A395_8 ((rd_T73 l0_3 x10_1).f8).length c395_8)) (ds := []) #[O, O, O, O, O, O, O, O, O, O, O] (by kernel_rfl) rfl rfl ⟨bc BK394 0, bc BK394 1, bc BK394 2, bc BK386 0, bc BK386 1, bc BK386 2, bc BK386 3, ((HB.out.cell (World.block_lt_of_cell? w _ hw395_0)).trans hw395_0), ((HB.out.cell (World.block_lt_of_cell? w _ hw395_1)).trans hw395_1), ((HB.out.cell (World.block_lt_of_cell? w _ hw395_2)).trans hw395_2), ((HB.out.cell (World.block_lt_of_cell? w _ hw395_3)).trans hw395_3), ((HB.out.cell (World.block_lt_of_cell? w _ hw395_4)).trans hw395_4), ((HB.out.cell (World.block_lt_of_cell? w _ hw395_5)).trans hw395_5), ((HB.out.cell (World.block_lt_of_cell? w _ hw395_6)).trans hw395_6), ((HB.out.cell (World.block_lt_of_cell? w _ hw395_7)).trans hw395_7), ((HB.out.cell (World.block_lt_of_cell? w _ hw395_8)).trans hw395_8)⟩ (fun hHeld => ?_); refine with_tabW impl_CostsOf.tab6 impl_CostsOf.bits6 (fun HT_ HW_ => ?_)
         generalize w19.drew = w20 at HO_3 HO_8 BK386 BK394 HB HR395_7 HR395_8 hx395_0 hx395_1 hx395_2 hx395_3 hx395_4 hx395_5 hx395_6 hx395_7 hx395_8 hHeld ⊢
         refine stepP 0 (some 20) (tk 11 1) (any_of HT_.out (by kernel_rfl)) ?_
         refine stepP 2 (some 22) (tk 11 5) (any_of HT_.out (by kernel_rfl)) ?_
         refine stepP 4 (some 24) (tk 11 21) (any_of HT_.out (by kernel_rfl)) ?_
         refine stepT 1 (some 21) (tk 11 23) (take_ofW HT_.out HW_.out (by kernel_rfl)) hHeld ?_
         refine stepT 3 (some 23) (tk 11 31) (take_ofW HT_.out HW_.out (by kernel_rfl)) hHeld ?_
         refine stepP 5 (some 25) (tk 11 63) (any_of HT_.out (by kernel_rfl)) ?_
         refine stepT 6 (some 26) (tk 11 127) (take_ofW HT_.out HW_.out (by kernel_rfl)) hHeld ?_
         refine one_ (i := 7) (N := some 27) #[I, I, I, I, I, I, I, I, O, O, O] rfl rfl (one_of HT_.out (by kernel_rfl)) (by decide) (fun K hK => ?_)
         refine goes_ Try.func77 (by kernel_rfl) rfl #[.agg #[.int .i64 ((rd_T25 t390 x10_1).f0), .int .i64 ((rd_T25 t390 x10_1).f1), .int .i64 ((rd_T25 t390 x10_1).f2)], .agg #[.int .i64 ((rd_T73 l0_3 x10_1).f0), .int .i64 ((rd_T73 l0_3 x10_1).f1), .int .i64 ((rd_T73 l0_3 x10_1).f2), .int .i64 ((rd_T73 l0_3 x10_1).f3), .int .i64 ((rd_T73 l0_3 x10_1).f4), .int .i64 ((rd_T73 l0_3 x10_1).f5), .int .i64 ((rd_T73 l0_3 x10_1).f6), .slice A395_7 ((rd_T73 l0_3 x10_1).f7).length c395_7, .slice A395_8 ((rd_T73 l0_3 x10_1).f8).length c395_8]] (by rfl) rfl rfl (by (try simp only [List.map_toArray, List.map_cons, List.map_nil]); first | done | rfl | (simp only [List.length_drop, List.length_take]; rfl)) ?_
         with_reducible refine (impl_CostOf.calls k1 ((rd_T25 t390 x10_1).f0) ((rd_T25 t390 x10_1).f1) ((rd_T25 t390 x10_1).f2) ((rd_T73 l0_3 x10_1).f0) ((rd_T73 l0_3 x10_1).f1) ((rd_T73 l0_3 x10_1).f2) ((rd_T73 l0_3 x10_1).f3) ((rd_T73 l0_3 x10_1).f4) ((rd_T73 l0_3 x10_1).f5) ((rd_T73 l0_3 x10_1).f6) _ _ ((rd_T73 l0_3 x10_1).f7) _ _ ((rd_T73 l0_3 x10_1).f8) t396 _ ?side1 ?side2 ?side3 ?side4 A13.out).mono ?_
         (case side1 => exact C_now HR395_7.out)
         (case side2 => exact HC395_7.out)
         (case side3 => exact C_now HR395_8.out)
         (case side4 => exact HC395_8.out)
         rintro e w21 ⟨rfl, hb⟩
         refine ⟨_, rfl, ?_⟩
         replace HO_3 := Aside0.mk (Kd.R_below (R_at HO_3.out) hb)
         replace HO_8 := Aside0.mk (Kd.R_below (R_at HO_8.out) hb)
         replace BK386 := blk_on gb386 hb
         replace BK394 := blk_on gb394 hb
         replace HB := bel_on w hb
         (try clear hb)
         (try clear hb2)
         (try clear hk)
         (try clear hi)
         refine hK.out _ _ ⟨bc BK394 0, bc BK394 1, bc BK394 2, bc BK386 0, bc BK386 1, bc BK386 2, bc BK386 3, ((HB.out.cell (World.block_lt_of_cell? w _ hw395_0)).trans hw395_0), ((HB.out.cell (World.block_lt_of_cell? w _ hw395_1)).trans hw395_1), ((HB.out.cell (World.block_lt_of_cell? w _ hw395_2)).trans hw395_2), ((HB.out.cell (World.block_lt_of_cell? w _ hw395_3)).trans hw395_3), ((HB.out.cell (World.block_lt_of_cell? w _ hw395_4)).trans hw395_4), ((HB.out.cell (World.block_lt_of_cell? w _ hw395_5)).trans hw395_5), ((HB.out.cell (World.block_lt_of_cell? w _ hw395_6)).trans hw395_6), ((HB.out.cell (World.block_lt_of_cell? w _ hw395_7)).trans hw395_7), ((HB.out.cell (World.block_lt_of_cell? w _ hw395_8)).trans hw395_8)⟩ (fun hHeld => ?_)
         clear hK K
         refine norm_ (a' := ?_) ?_ ?_
         rotate_left
         ·show Act.put _ (some 27) _ = _
          simp only [Act.put, zA, zB, zC, i64_w, i32_w]
          rfl
         refine one_ (i := 8) (N := some 28) #[I, I, I, I, I, I, I, I, I, O, O] rfl rfl (one_of HT_.out (by kernel_rfl)) (by decide) (fun K hK => ?_)
         refine value_ (w1 := ?_) (v := ?_) (by rfl) rfl ?_ ?_
         rotate_left 2
         ·go_simp
          constructor
          ·rfl
          ·rfl
         refine hK.out _ _ ⟨(blk_cell (blk_alloc BK394.out _) 0).trans rfl, (blk_cell (blk_alloc BK394.out _) 1).trans rfl, (blk_cell (blk_alloc BK394.out _) 2).trans rfl, (blk_cell (blk_alloc BK386.out _) 0).trans rfl, (blk_cell (blk_alloc BK386.out _) 1).trans rfl, (blk_cell (blk_alloc BK386.out _) 2).trans rfl, (blk_cell (blk_alloc BK386.out _) 3).trans rfl, (World.cell?_alloc_lt _ _ _ (World.block_lt_of_cell? _ _ (((HB.out.cell (World.block_lt_of_cell? w _ hw395_0)).trans hw395_0)))).trans (((HB.out.cell (World.block_lt_of_cell? w _ hw395_0)).trans hw395_0)), (World.cell?_alloc_lt _ _ _ (World.block_lt_of_cell? _ _ (((HB.out.cell (World.block_lt_of_cell? w _ hw395_1)).trans hw395_1)))).trans (((HB.out.cell (World.block_lt_of_cell? w _ hw395_1)).trans hw395_1)), (World.cell?_alloc_lt _ _ _ (World.block_lt_of_cell? _ _ (((HB.out.cell (World.block_lt_of_cell? w _ hw395_2)).trans hw395_2)))).trans (((HB.out.cell (World.block_lt_of_cell? w _ hw395_2)).trans hw395_2)), (World.cell?_alloc_lt _ _ _ (World.block_lt_of_cell? _ _ (((HB.out.cell (World.block_lt_of_cell? w _ hw395_3)).trans hw395_3)))).trans (((HB.out.cell (World.block_lt_of_cell? w _ hw395_3)).trans hw395_3)), (World.cell?_alloc_lt _ _ _ (World.block_lt_of_cell? _ _ (((HB.out.cell (World.block_lt_of_cell? w _ hw395_4)).trans hw395_4)))).trans (((HB.out.cell (World.block_lt_of_cell? w _ hw395_4)).trans hw395_4)), (World.cell?_alloc_lt _ _ _ (World.block_lt_of_cell? _ _ (((HB.out.cell (World.block_lt_of_cell? w _ hw395_5)).trans hw395_5)))).trans (((HB.out.cell (World.block_lt_of_cell? w _ hw395_5)).trans hw395_5)), (World.cell?_alloc_lt _ _ _ (World.block_lt_of_cell? _ _ (((HB.out.cell (World.block_lt_of_cell? w _ hw395_6)).trans hw395_6)))).trans (((HB.out.cell (World.block_lt_of_cell? w _ hw395_6)).trans hw395_6)), (World.cell?_alloc_lt _ _ _ (World.block_lt_of_cell? _ _ (((HB.out.cell (World.block_lt_of_cell? w _ hw395_7)).trans hw395_7)))).trans (((HB.out.cell (World.block_lt_of_cell? w _ hw395_7)).trans hw395_7)), (World.cell?_alloc_lt _ _ _ (World.block_lt_of_cell? _ _ (((HB.out.cell (World.block_lt_of_cell? w _ hw395_8)).trans hw395_8)))).trans (((HB.out.cell (World.block_lt_of_cell? w _ hw395_8)).trans hw395_8))⟩ (fun hHeld => ?_)
         clear hK K
         refine norm_ (a' := ?_) ?_ ?_
         rotate_left
         ·show Act.put _ (some 28) _ = _
          simp only [Act.put, zA, zB, zC, i64_w, i32_w]
          rfl
         refine one_ (i := 9) (N := some 29) #[I, I, I, I, I, I, I, I, I, I, O] rfl rfl (one_of HT_.out (by kernel_rfl)) (by decide) (fun K hK => ?_)
         refine Kd.R_append_step (Kd.int .i64) (w0 := w) w.heap.size (by rfl) (.tmp 20) (.tmp 28) 51 3 (.int .i64 0) 8 rfl Try.underlying51 info3 rfl (by decide) (by omega) u3 x3_1 t396 [.int .i64 t396] (fun _ => True) (fun _ => False) rfl rfl ?aP (fun _ hk => hk.elim) ?aF ?aO ?aB ?aS ?aL ?_
         (case aP => exact rfl)
         (case aB => exact bel_now)
         (case aF => exact (fun _ _ => trivial))
         (case aO => exact (R_at HO_3.out))
         (case aS => exact (below_size bel_now))
         (case aL => have := LMc14.out; omega)
         intro v398 w22 ho hb hg hat
         rw [← Ny397.out] at ho
         have n4_ := Aside0.mk (ho)
         replace HO_8 := Aside0.mk (Kd.R_over' (R_at HO_8.out) (Kd.R_typed (R_at HO_3.out)) (by decide) hg)
         replace BK386 := Aside0.mk (blk_grown (g := gb386) blk_now hg (Kd.R_ne HO_3.out BK386.out (by decide)))
         replace BK394 := Aside0.mk (blk_grown (g := gb394) blk_now hg (Kd.R_ne HO_3.out BK394.out (by decide)))
         replace HB := Aside0.mk (hb)
         clear HO_3
         have HO399 := n4_
         clear n4_
         clear ho hb hg hat
         refine hK.out _ _ ⟨bc BK394 0, bc BK394 1, bc BK394 2, bc BK386 0, bc BK386 1, bc BK386 2, bc BK386 3, ((HB.out.cell (World.block_lt_of_cell? w _ hw395_0)).trans hw395_0), ((HB.out.cell (World.block_lt_of_cell? w _ hw395_1)).trans hw395_1), ((HB.out.cell (World.block_lt_of_cell? w _ hw395_2)).trans hw395_2), ((HB.out.cell (World.block_lt_of_cell? w _ hw395_3)).trans hw395_3), ((HB.out.cell (World.block_lt_of_cell? w _ hw395_4)).trans hw395_4), ((HB.out.cell (World.block_lt_of_cell? w _ hw395_5)).trans hw395_5), ((HB.out.cell (World.block_lt_of_cell? w _ hw395_6)).trans hw395_6), ((HB.out.cell (World.block_lt_of_cell? w _ hw395_7)).trans hw395_7), ((HB.out.cell (World.block_lt_of_cell? w _ hw395_8)).trans hw395_8)⟩ (fun hHeld => ?_)
         clear hK K
         refine norm_ (a' := ?_) ?_ ?_
         rotate_left
         ·show Act.put _ (some 29) _ = _
          simp only [Act.put, zA, zB, zC, i64_w, i32_w]
          rfl
         refine stepP 10 (some 3) (tk 11 2047) (any_of HT_.out (by kernel_rfl)) ?_
         refine done_ (done_of HT_.out (by kernel_rfl)) ?_
         try go_wp2
         go_roundg k1
         case measure => have := HK1.out; omega
         case rel => exact ⟨(y397), (wrap64 (x10_1 + 1)), (by first | rfl | (simp; done) | (simp [*]; done)), H', ⟨by have := HK1.out; omega⟩, ⟨by (with_reducible repeat (first | apply Kd.R_alloc | apply Kd.R_drewN | apply Kd.R_drew)); exact HO399.out⟩, ⟨by (with_reducible repeat (first | apply Kd.R_alloc | apply Kd.R_drewN | apply Kd.R_drew)); exact Kd.R_mono HO_8.out (fun _ hk => trivial)⟩, ⟨by (with_reducible repeat (first | refine blk_drewN ?_ _ | refine blk_drew ?_ | refine blk_alloc ?_ _)); exact BK386.out⟩, ⟨bel_now⟩⟩
        ·rw [if_neg c14] at H
         exact absurd H (by simp)
       ·rw [if_neg c12] at H
        have c12b0 : decide (x10_1 < (l0_3.length : Int)) = false := decide_eq_false c12
        clear c12
        have H' := Aside0.mk H
        clear H
        have p393 : 0 ≤ (x10_1 : Int) := of_decide_eq_true (by first | (with_reducible assumption) | assumption)
        have q393 : x10_1 < (t390.length : Int) := of_decide_eq_true (by first | (with_reducible assumption) | assumption)
        (try (obtain ⟨_, _, eo_⟩ := Kd.R_slice HO_8.out; subst eo_))
        obtain ⟨ad393, e393, hx393_0, hx393_1, hx393_2⟩ := at_T25 (Kd.R_reads' HO_8.out).2.2 x10_1 p393 q393
        cases e393
        replace p393 := eq_true p393
        replace q393 := eq_true q393
        go_wp2_with (first | ((with_reducible refine gate_dst (N := 5) rfl ?_); refine boxM 5 #[.int .i64 0, .int .i64 0, .int .i64 0] 25 ?_; intro gb394 hg w23 BK394 hb; replace HB := box_at w hb hg; obtain ⟨HB, GW394, GE394⟩ := HB; replace BK386 := box_on gb386 hb hg; obtain ⟨BK386, NB386_394, NB394_386⟩ := BK386; replace HO_3 := Aside0.mk (Kd.R_below (R_at HO_3.out) hb); replace HO_8 := Aside0.mk (Kd.R_below (Kd.R_elderB (R_at HO_8.out) gb394 (Nat.le_of_eq hg.symm)) hb); clear hb hg; have hnb24 := NB394_386.out; have hnc24 := NB386_394.out; obtain ⟨hcz25_0, hcz25_1, hcz25_2, hfz25_0, hfz25_1, hfz25_2⟩ := cells3 BK394.out; obtain ⟨hcz26_0, hcz26_1, hcz26_2, hcz26_3, hfz26_0, hfz26_1, hfz26_2, hfz26_3⟩ := cells4 BK386.out))
        go_roundg k1
        case measure => have := HK1.out; omega
        case rel => exact ⟨(x3_1), (wrap64 (x10_1 + 1)), (by first | rfl | (simp; done) | (simp [*]; done)), H', ⟨by have := HK1.out; omega⟩, ⟨by (with_reducible repeat (first | apply Kd.R_alloc | apply Kd.R_drewN | apply Kd.R_drew)); exact Kd.R_mono (Kd.R_far (p := ⟨gb394, 2, none⟩) (Kd.R_far (p := ⟨gb394, 1, none⟩) (Kd.R_far (p := ⟨gb394, 0, none⟩) (Kd.R_types HO_3.out BK394.out (by decide)) (fun _ hk => hk.2) (.int .i64 ((rd_T25 t390 x10_1).f0))) (fun _ hk => hk.2) (.int .i64 ((rd_T25 t390 x10_1).f1))) (fun _ hk => hk.2) (.int .i64 ((rd_T25 t390 x10_1).f2))) (fun _ hk => trivial)⟩, ⟨by (with_reducible repeat (first | apply Kd.R_alloc | apply Kd.R_drewN | apply Kd.R_drew)); exact Kd.R_mono (Kd.R_far (p := ⟨gb394, 2, none⟩) (Kd.R_far (p := ⟨gb394, 1, none⟩) (Kd.R_far (p := ⟨gb394, 0, none⟩) (Kd.R_mono HO_8.out (fun k_ hk => (⟨hk, hk.2⟩ : _ ∧ k_ ≠ gb394))) (fun _ hk => hk.2) (.int .i64 ((rd_T25 t390 x10_1).f0))) (fun _ hk => hk.2) (.int .i64 ((rd_T25 t390 x10_1).f1))) (fun _ hk => hk.2) (.int .i64 ((rd_T25 t390 x10_1).f2))) (fun _ hk => trivial)⟩, ⟨by (with_reducible repeat (first | refine blk_drewN ?_ _ | refine blk_drew ?_ | refine blk_alloc ?_ _)); refine blk_far ?_ NB386_394.out _; (with_reducible repeat (first | refine blk_drewN ?_ _ | refine blk_drew ?_ | refine blk_alloc ?_ _)); refine blk_far ?_ NB386_394.out _; (with_reducible repeat (first | refine blk_drewN ?_ _ | refine blk_drew ?_ | refine blk_alloc ?_ _)); refine blk_far ?_ NB386_394.out _; (with_reducible repeat (first | refine blk_drewN ?_ _ | refine blk_drew ?_ | refine blk_alloc ?_ _)); exact BK386.out⟩, ⟨bel_now⟩⟩
      ·rw [if_neg c11] at H
       exact absurd H (by simp)
     ·rw [if_neg c10] at H
      exact absurd H (by simp)
    ·rw [if_neg c9] at H
     have c9b0 : decide (x10_1 < (t390.length : Int)) = false := decide_eq_false c9
     clear c9
     obtain rfl := Option.some.inj H
     go_wp2
     go_ret
     exact ⟨_, eqN, by (with_reducible repeat (first | apply Kd.R_alloc | apply Kd.R_drewN | apply Kd.R_drew)); exact HO_3.out, bel_now⟩

end Go.Proofs.Ytljdcemdhmaahaa.PFnExactNextCost
