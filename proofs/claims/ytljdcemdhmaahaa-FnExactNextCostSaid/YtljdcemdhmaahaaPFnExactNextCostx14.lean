-- Printed by the session's own program (wip/myprint.py) for this claim out of the translation. Not trusted: Lean checks it.
import Derived.Test.YtljdcemdhmaahaaPFnExactNextCostx0
import Derived.Test.YtljdcemdhmaahaaPFnExactNextCostx12
import Derived.Test.YtljdcemdhmaahaaPFnExactNextCostx13
namespace Go.Proofs.Ytljdcemdhmaahaa.PFnExactNextCost
open Go.RowKit Go.Proofs.YtljdcemdhmaahaaW.PrintWords Go.Proofs.YtljdcemdhmaahaaW.PrintLast Go.Proofs.YtljdcemdhmaahaaW.PrintMore
attribute [local go_sem] max2_int min2_int max_two min_two max_three min_three max_four min_four   -- for this text's walks alone
set_option linter.unusedVariables false
set_option linter.unusedSimpArgs false

/-! ### impl_OutShape: function 100 -/
def impl_OutShape.j0 : Nat → Int → Int → Bool → Int → Int → Int → Int → Int → Int → Int → Int → Int → Int → List Int → List Int → Option (Int × Int × Int × Bool)
  | 0, _, _, _, _, _, _, _, _, _, _, _, _, _, _, _ => none
  | k + 1, x6, x14, x59, x322000, x322001, x322002, x323000, x323001, x323002, x323003, x323004, x323005, x323006, x323007, x323008 => if x59 = true then ((impl_Layer_isWindow.f x323000 x323001 x323002 x323003 x323004 x323005 x323006 x323007 x323008 x322000 x322001 x322002).bind fun t333 => (if t333 = true then ((impl_Layer_isBare.f x323000 x323001 x323002 x323003 x323004 x323005 x323006 x323007 x323008).bind fun t334 => (if t334 = true then (if x323006 = 0 then ((impl_Layer_windows.f x323000 x323001 x323002 x323003 x323004 x323005 x323006 x323007 x323008 x322000 x322001 x322002 x322002).bind fun bt335 => (some (bt335.1, bt335.2.1, bt335.2.2, true))) else (some (0, 0, 0, false))) else (some (0, 0, 0, false)))) else (some (0, 0, 0, false)))) else (if x14 = 4 then ((impl_Layer_hasNone.f x323000 x323001 x323002 x323003 x323004 x323005 x323006 x323007 x323008).bind fun t338 => (if t338 = true then ((impl_Layer_isBare.f x323000 x323001 x323002 x323003 x323004 x323005 x323006 x323007 x323008).bind fun t339 => (if t339 = true then ((impl_in.f x323006 (-128) 127).bind fun t340 => (if t340 = true then (some (x322000, x322001, x322002, true)) else (some (0, 0, 0, false)))) else (some (0, 0, 0, false)))) else (some (0, 0, 0, false)))) else (if x14 = 5 then ((impl_Layer_hasNone.f x323000 x323001 x323002 x323003 x323004 x323005 x323006 x323007 x323008).bind fun t341 => (if t341 = true then ((impl_Layer_isBare.f x323000 x323001 x323002 x323003 x323004 x323005 x323006 x323007 x323008).bind fun t342 => (if t342 = true then (if x323006 = 0 then (if x6 ≤ 8 then (some (1, 1, x6, true)) else (some (0, 0, 0, false))) else (some (0, 0, 0, false))) else (some (0, 0, 0, false)))) else (some (0, 0, 0, false)))) else (some (0, 0, 0, false))))
def impl_OutShape.f (k : Nat) (a0_0 : Int) (a0_1 : Int) (a0_2 : Int) (a1_0 : Int) (a1_1 : Int) (a1_2 : Int) (a1_3 : Int) (a1_4 : Int) (a1_5 : Int) (a1_6 : Int) (l1_7 : List Int) (l1_8 : List Int) : Option (Int × Int × Int × Bool) := (impl_ShapeOk.f a0_0 a0_1 a0_2).bind fun t324 => (if t324 = true then ((impl_SizeOf.f a0_0 a0_1 a0_2).bind fun t325 => (if a1_0 = 0 then (if t325 ≤ 64 then ((impl_Layer_hasNone.f a1_0 a1_1 a1_2 a1_3 a1_4 a1_5 a1_6 l1_7 l1_8).bind fun t326 => (if t326 = true then ((impl_Layer_isScaled.f k a1_0 a1_1 a1_2 a1_3 a1_4 a1_5 a1_6 l1_7 l1_8 t325).bind fun t327 => (if t327 = true then (some (1, 1, a1_1, true)) else (some (0, 0, 0, false)))) else (some (0, 0, 0, false)))) else (some (0, 0, 0, false))) else (if a1_0 = 1 then ((impl_Layer_isWindow.f a1_0 a1_1 a1_2 a1_3 a1_4 a1_5 a1_6 l1_7 l1_8 a0_0 a0_1 a0_2).bind fun t328 => (if t328 = true then (if (l1_7.length : Int) ≤ 600 then ((impl_Layer_isScaled.f k a1_0 a1_1 a1_2 a1_3 a1_4 a1_5 a1_6 l1_7 l1_8 (wrap64 ((wrap64 (a1_2 * a1_2)) * a0_2))).bind fun t329 => (if t329 = true then ((impl_Layer_windows.f a1_0 a1_1 a1_2 a1_3 a1_4 a1_5 a1_6 l1_7 l1_8 a0_0 a0_1 a0_2 a1_1).bind fun bt330 => (some (bt330.1, bt330.2.1, bt330.2.2, true))) else (some (0, 0, 0, false)))) else (some (0, 0, 0, false))) else (some (0, 0, 0, false)))) else (if a1_0 = 2 then (impl_OutShape.j0 k t325 a1_0 (a1_0 == 2) a0_0 a0_1 a0_2 a1_0 a1_1 a1_2 a1_3 a1_4 a1_5 a1_6 l1_7 l1_8) else (impl_OutShape.j0 k t325 a1_0 (a1_0 == 3) a0_0 a0_1 a0_2 a1_0 a1_1 a1_2 a1_3 a1_4 a1_5 a1_6 l1_7 l1_8))))) else (some (0, 0, 0, false)))
set_option maxHeartbeats 8000000 in
set_option maxRecDepth 100000 in
theorem impl_OutShape.calls (k : Nat) (a0_0 : Int) (a0_1 : Int) (a0_2 : Int) (a1_0 : Int) (a1_1 : Int) (a1_2 : Int) (a1_3 : Int) (a1_4 : Int) (a1_5 : Int) (a1_6 : Int) (A1_7 : Option Addr) (c1_7 : Nat) (l1_7 : List Int) (A1_8 : Option Addr) (c1_8 : Nat) (l1_8 : List Int) (r1 : Int) (r2 : Int) (r3 : Int) (r4 : Bool) (w : World) (hr1_7 : Kd.C (Kd.int .i64) w A1_7 l1_7.length l1_7) (hc1_7 : l1_7.length ≤ c1_7) (hr1_8 : Kd.C (Kd.int .i64) w A1_8 l1_8.length l1_8) (hc1_8 : l1_8.length ≤ c1_8) (h : impl_OutShape.f k a0_0 a0_1 a0_2 a1_0 a1_1 a1_2 a1_3 a1_4 a1_5 a1_6 l1_7 l1_8 = some (r1, r2, r3, r4)) :
   Calls Try.prog 100 #[.agg #[.int .i64 a0_0, .int .i64 a0_1, .int .i64 a0_2], .agg #[.int .i64 a1_0, .int .i64 a1_1, .int .i64 a1_2, .int .i64 a1_3, .int .i64 a1_4, .int .i64 a1_5, .int .i64 a1_6, .slice A1_7 l1_7.length c1_7, .slice A1_8 l1_8.length c1_8]] w fun e w' => e = .returned (.tuple #[.agg #[.int .i64 r1, .int .i64 r2, .int .i64 r3], .bool r4]) ∧ Below w.heap.size w w' := by
  have hu25 := Try.underlying25
  have hu73 := Try.underlying73
  have HR1_7 := Aside0.mk hr1_7
  have HC1_7 := Aside0.mk hc1_7
  clear hr1_7 hc1_7
  have HR1_8 := Aside0.mk hr1_8
  have HC1_8 := Aside0.mk hc1_8
  clear hr1_8 hc1_8
  have HB := Aside0.mk (Below.refl w.heap.size w)
  have H : ((impl_ShapeOk.f a0_0 a0_1 a0_2).bind fun t324 => (if t324 = true then ((impl_SizeOf.f a0_0 a0_1 a0_2).bind fun t325 => (if a1_0 = 0 then (if t325 ≤ 64 then ((impl_Layer_hasNone.f a1_0 a1_1 a1_2 a1_3 a1_4 a1_5 a1_6 l1_7 l1_8).bind fun t326 => (if t326 = true then ((impl_Layer_isScaled.f k a1_0 a1_1 a1_2 a1_3 a1_4 a1_5 a1_6 l1_7 l1_8 t325).bind fun t327 => (if t327 = true then (some (1, 1, a1_1, true)) else (some (0, 0, 0, false)))) else (some (0, 0, 0, false)))) else (some (0, 0, 0, false))) else (if a1_0 = 1 then ((impl_Layer_isWindow.f a1_0 a1_1 a1_2 a1_3 a1_4 a1_5 a1_6 l1_7 l1_8 a0_0 a0_1 a0_2).bind fun t328 => (if t328 = true then (if (l1_7.length : Int) ≤ 600 then ((impl_Layer_isScaled.f k a1_0 a1_1 a1_2 a1_3 a1_4 a1_5 a1_6 l1_7 l1_8 (wrap64 ((wrap64 (a1_2 * a1_2)) * a0_2))).bind fun t329 => (if t329 = true then ((impl_Layer_windows.f a1_0 a1_1 a1_2 a1_3 a1_4 a1_5 a1_6 l1_7 l1_8 a0_0 a0_1 a0_2 a1_1).bind fun bt330 => (some (bt330.1, bt330.2.1, bt330.2.2, true))) else (some (0, 0, 0, false)))) else (some (0, 0, 0, false))) else (some (0, 0, 0, false)))) else (if a1_0 = 2 then (impl_OutShape.j0 k t325 a1_0 (a1_0 == 2) a0_0 a0_1 a0_2 a1_0 a1_1 a1_2 a1_3 a1_4 a1_5 a1_6 l1_7 l1_8) else (impl_OutShape.j0 k t325 a1_0 (a1_0 == 3) a0_0 a0_1 a0_2 a1_0 a1_1 a1_2 a1_3 a1_4 a1_5 a1_6 l1_7 l1_8))))) else (some (0, 0, 0, false)))) = some (r1, r2, r3, r4) := h
  clear h
  replace H := Option.bind_eq_some_iff.mp H
  obtain ⟨t324, A30, H⟩ := H
  (try dsimp only at H)
  have A3 := Aside0.mk A30
  clear A30
  by_cases c4 : t324 = true
  ·subst c4
   rw [if_pos rfl] at H
   replace H := Option.bind_eq_some_iff.mp H
   obtain ⟨t325, A50, H⟩ := H
   (try dsimp only at H)
   have A5 := Aside0.mk A50
   clear A50
   by_cases c6 : a1_0 = 0
   ·rw [if_pos c6] at H
    have c6b0 : (a1_0 == 0) = true := beq_iff_eq.mpr c6
    have c6b1 : (a1_0 != 0) = false := bne_eq_false_iff_eq.mpr c6
    clear c6
    by_cases c7 : t325 ≤ 64
    ·rw [if_pos c7] at H
     have c7b0 : decide (t325 ≤ 64) = true := decide_eq_true c7
     clear c7
     replace H := Option.bind_eq_some_iff.mp H
     obtain ⟨t326, A80, H⟩ := H
     (try dsimp only at H)
     have A8 := Aside0.mk A80
     clear A80
     by_cases c9 : t326 = true
     ·subst c9
      rw [if_pos rfl] at H
      replace H := Option.bind_eq_some_iff.mp H
      obtain ⟨t327, A100, H⟩ := H
      (try dsimp only at H)
      have A10 := Aside0.mk A100
      clear A100
      by_cases c11 : t327 = true
      ·subst c11
       rw [if_pos rfl] at H
       simp only [Option.some.injEq, Prod.mk.injEq] at H
       obtain ⟨rfl, rfl, rfl, rfl⟩ := H
       go_enter Try.func100, Try.ntmps100
       go_wp2_with (first | ((with_reducible refine gate_dst (N := 2) rfl ?_); (try (refine gate_guard (by rfl) ?_; dsimp only)); refine boxM 2 #[.int .i64 a0_0, .int .i64 a0_1, .int .i64 a0_2] 25 ?_; intro gb321 hg w12 BK321 hb; replace HB := box_at w hb hg; obtain ⟨HB, GW321, GE321⟩ := HB; clear hb hg) | ((with_reducible refine gate_dst (N := 3) rfl ?_); (try (refine gate_guard (by rfl) ?_; dsimp only)); refine boxM 3 #[.int .i64 a1_0, .int .i64 a1_1, .int .i64 a1_2, .int .i64 a1_3, .int .i64 a1_4, .int .i64 a1_5, .int .i64 a1_6, .slice A1_7 l1_7.length c1_7, .slice A1_8 l1_8.length c1_8] 73 ?_; intro gb322 hg w13 BK322 hb; replace HB := box_at w hb hg; obtain ⟨HB, GW322, GE322⟩ := HB; replace BK321 := box_on gb321 hb hg; obtain ⟨BK321, NB321_322, NB322_321⟩ := BK321; clear hb hg) | ((with_reducible refine gate_dst (N := 4) rfl ?_); (try (refine gate_guard (by rfl) ?_; dsimp only)); refine boxM 4 #[.int .i64 0, .int .i64 0, .int .i64 0] 25 ?_; intro gb323 hg w14 BK323 hb; replace HB := box_at w hb hg; obtain ⟨HB, GW323, GE323⟩ := HB; replace BK321 := box_on gb321 hb hg; obtain ⟨BK321, NB321_323, NB323_321⟩ := BK321; replace BK322 := box_on gb322 hb hg; obtain ⟨BK322, NB322_323, NB323_322⟩ := BK322; clear hb hg; have hnb15 := NB321_322.out; have hnc15 := NB322_321.out; have hnb16 := NB321_323.out; have hnc16 := NB323_321.out; obtain ⟨hcz17_0, hcz17_1, hcz17_2, hfz17_0, hfz17_1, hfz17_2⟩ := cells3 BK321.out) | ((with_reducible refine gate_callee (f := 107) rfl ?_); refine goesM (some 8) rfl rfl Try.func107 (by kernel_rfl) rfl #[.agg #[.int .i64 a0_0, .int .i64 a0_1, .int .i64 a0_2]] rfl ?_; (with_reducible refine (impl_ShapeOk.calls a0_0 a0_1 a0_2 true _ A3.out).mono ?_); rintro e w18 ⟨rfl, hb⟩; refine ⟨_, rfl, ?_⟩; replace HB := bel_on w hb; replace BK321 := blk_on gb321 hb; replace BK322 := blk_on gb322 hb; replace BK323 := blk_on gb323 hb; (try clear hb); obtain ⟨hcz19_0, hcz19_1, hcz19_2, hfz19_0, hfz19_1, hfz19_2⟩ := cells3 BK321.out) | ((with_reducible refine gate_callee (f := 103) rfl ?_); refine goesM (some 12) rfl rfl Try.func103 (by kernel_rfl) rfl #[.agg #[.int .i64 a0_0, .int .i64 a0_1, .int .i64 a0_2]] rfl ?_; (with_reducible refine (impl_SizeOf.calls a0_0 a0_1 a0_2 t325 _ A5.out).mono ?_); rintro e w20 ⟨rfl, hb⟩; refine ⟨_, rfl, ?_⟩; replace HB := bel_on w hb; replace BK321 := blk_on gb321 hb; replace BK322 := blk_on gb322 hb; replace BK323 := blk_on gb323 hb; (try clear hb); have hnb21 := NB322_323.out; have hnc21 := NB323_322.out; obtain ⟨hcz22_0, hcz22_1, hcz22_2, hcz22_3, hcz22_4, hcz22_5, hcz22_6, hcz22_7, hcz22_8, hfz22_0, hfz22_1, hfz22_2, hfz22_3, hfz22_4, hfz22_5, hfz22_6, hfz22_7, hfz22_8⟩ := cells9 BK322.out) | (go_at_call 116; (with_reducible refine (impl_Layer_hasNone.calls a1_0 a1_1 a1_2 a1_3 a1_4 a1_5 a1_6 _ _ l1_7 _ _ l1_8 true _ ?side1 ?side2 ?side3 ?side4 A8.out).mono ?_); (case side1 => exact C_now HR1_7.out); (case side2 => exact HC1_7.out); (case side3 => exact C_now HR1_8.out); (case side4 => exact HC1_8.out); rintro e w23 ⟨rfl, hb⟩; replace HB := bel_on w hb; replace BK321 := blk_on gb321 hb; replace BK322 := blk_on gb322 hb; replace BK323 := blk_on gb323 hb; (try clear hb); obtain ⟨hcz24_0, hcz24_1, hcz24_2, hcz24_3, hcz24_4, hcz24_5, hcz24_6, hcz24_7, hcz24_8, hfz24_0, hfz24_1, hfz24_2, hfz24_3, hfz24_4, hfz24_5, hfz24_6, hfz24_7, hfz24_8⟩ := cells9 BK322.out) | (go_at_call 117; (with_reducible refine (impl_Layer_isScaled.calls k a1_0 a1_1 a1_2 a1_3 a1_4 a1_5 a1_6 _ _ l1_7 _ _ l1_8 t325 true _ ?side1 ?side2 ?side3 ?side4 A10.out).mono ?_); (case side1 => exact C_now HR1_7.out); (case side2 => exact HC1_7.out); (case side3 => exact C_now HR1_8.out); (case side4 => exact HC1_8.out); rintro e w25 ⟨rfl, hb⟩; replace HB := bel_on w hb; replace BK321 := blk_on gb321 hb; replace BK322 := blk_on gb322 hb; replace BK323 := blk_on gb323 hb; (try clear hb); obtain ⟨hcz26_0, hcz26_1, hcz26_2, hcz26_3, hcz26_4, hcz26_5, hcz26_6, hcz26_7, hcz26_8, hfz26_0, hfz26_1, hfz26_2, hfz26_3, hfz26_4, hfz26_5, hfz26_6, hfz26_7, hfz26_8⟩ := cells9 BK322.out; obtain ⟨hcz27_0, hcz27_1, hcz27_2, hfz27_0, hfz27_1, hfz27_2⟩ := cells3 BK323.out))
       refine bodyPost_ret (results_ct rfl _ _ gb323 25 #[.int .i64 1, .int .i64 1, .int .i64 a1_1] (0, 0) _ rfl (blk_fars (puts3 BK323.out)) Try.underlying25 rfl (by kernel_rfl)) rfl ?_
       exact ⟨eqN, bel_now⟩
      ·replace c11 := Bool.eq_false_iff.mpr c11
       subst c11
       rw [if_neg (show ¬ (false = true) by decide)] at H
       simp only [Option.some.injEq, Prod.mk.injEq] at H
       obtain ⟨rfl, rfl, rfl, rfl⟩ := H
       go_enter Try.func100, Try.ntmps100
       go_wp2_with (first | ((with_reducible refine gate_dst (N := 2) rfl ?_); (try (refine gate_guard (by rfl) ?_; dsimp only)); refine boxM 2 #[.int .i64 a0_0, .int .i64 a0_1, .int .i64 a0_2] 25 ?_; intro gb321 hg w28 BK321 hb; replace HB := box_at w hb hg; obtain ⟨HB, GW321, GE321⟩ := HB; clear hb hg) | ((with_reducible refine gate_dst (N := 3) rfl ?_); (try (refine gate_guard (by rfl) ?_; dsimp only)); refine boxM 3 #[.int .i64 a1_0, .int .i64 a1_1, .int .i64 a1_2, .int .i64 a1_3, .int .i64 a1_4, .int .i64 a1_5, .int .i64 a1_6, .slice A1_7 l1_7.length c1_7, .slice A1_8 l1_8.length c1_8] 73 ?_; intro gb322 hg w29 BK322 hb; replace HB := box_at w hb hg; obtain ⟨HB, GW322, GE322⟩ := HB; replace BK321 := box_on gb321 hb hg; obtain ⟨BK321, NB321_322, NB322_321⟩ := BK321; clear hb hg) | ((with_reducible refine gate_dst (N := 4) rfl ?_); (try (refine gate_guard (by rfl) ?_; dsimp only)); refine boxM 4 #[.int .i64 0, .int .i64 0, .int .i64 0] 25 ?_; intro gb323 hg w30 BK323 hb; replace HB := box_at w hb hg; obtain ⟨HB, GW323, GE323⟩ := HB; replace BK321 := box_on gb321 hb hg; obtain ⟨BK321, NB321_323, NB323_321⟩ := BK321; replace BK322 := box_on gb322 hb hg; obtain ⟨BK322, NB322_323, NB323_322⟩ := BK322; clear hb hg; have hnb31 := NB321_322.out; have hnc31 := NB322_321.out; have hnb32 := NB321_323.out; have hnc32 := NB323_321.out; obtain ⟨hcz33_0, hcz33_1, hcz33_2, hfz33_0, hfz33_1, hfz33_2⟩ := cells3 BK321.out) | ((with_reducible refine gate_callee (f := 107) rfl ?_); refine goesM (some 8) rfl rfl Try.func107 (by kernel_rfl) rfl #[.agg #[.int .i64 a0_0, .int .i64 a0_1, .int .i64 a0_2]] rfl ?_; (with_reducible refine (impl_ShapeOk.calls a0_0 a0_1 a0_2 true _ A3.out).mono ?_); rintro e w34 ⟨rfl, hb⟩; refine ⟨_, rfl, ?_⟩; replace HB := bel_on w hb; replace BK321 := blk_on gb321 hb; replace BK322 := blk_on gb322 hb; replace BK323 := blk_on gb323 hb; (try clear hb); obtain ⟨hcz35_0, hcz35_1, hcz35_2, hfz35_0, hfz35_1, hfz35_2⟩ := cells3 BK321.out) | ((with_reducible refine gate_callee (f := 103) rfl ?_); refine goesM (some 12) rfl rfl Try.func103 (by kernel_rfl) rfl #[.agg #[.int .i64 a0_0, .int .i64 a0_1, .int .i64 a0_2]] rfl ?_; (with_reducible refine (impl_SizeOf.calls a0_0 a0_1 a0_2 t325 _ A5.out).mono ?_); rintro e w36 ⟨rfl, hb⟩; refine ⟨_, rfl, ?_⟩; replace HB := bel_on w hb; replace BK321 := blk_on gb321 hb; replace BK322 := blk_on gb322 hb; replace BK323 := blk_on gb323 hb; (try clear hb); have hnb37 := NB322_323.out; have hnc37 := NB323_322.out; obtain ⟨hcz38_0, hcz38_1, hcz38_2, hcz38_3, hcz38_4, hcz38_5, hcz38_6, hcz38_7, hcz38_8, hfz38_0, hfz38_1, hfz38_2, hfz38_3, hfz38_4, hfz38_5, hfz38_6, hfz38_7, hfz38_8⟩ := cells9 BK322.out) | (go_at_call 116; (with_reducible refine (impl_Layer_hasNone.calls a1_0 a1_1 a1_2 a1_3 a1_4 a1_5 a1_6 _ _ l1_7 _ _ l1_8 true _ ?side1 ?side2 ?side3 ?side4 A8.out).mono ?_); (case side1 => exact C_now HR1_7.out); (case side2 => exact HC1_7.out); (case side3 => exact C_now HR1_8.out); (case side4 => exact HC1_8.out); rintro e w39 ⟨rfl, hb⟩; replace HB := bel_on w hb; replace BK321 := blk_on gb321 hb; replace BK322 := blk_on gb322 hb; replace BK323 := blk_on gb323 hb; (try clear hb); obtain ⟨hcz40_0, hcz40_1, hcz40_2, hcz40_3, hcz40_4, hcz40_5, hcz40_6, hcz40_7, hcz40_8, hfz40_0, hfz40_1, hfz40_2, hfz40_3, hfz40_4, hfz40_5, hfz40_6, hfz40_7, hfz40_8⟩ := cells9 BK322.out) | (go_at_call 117; (with_reducible refine (impl_Layer_isScaled.calls k a1_0 a1_1 a1_2 a1_3 a1_4 a1_5 a1_6 _ _ l1_7 _ _ l1_8 t325 false _ ?side1 ?side2 ?side3 ?side4 A10.out).mono ?_); (case side1 => exact C_now HR1_7.out); (case side2 => exact HC1_7.out); (case side3 => exact C_now HR1_8.out); (case side4 => exact HC1_8.out); rintro e w41 ⟨rfl, hb⟩; replace HB := bel_on w hb; replace BK321 := blk_on gb321 hb; replace BK322 := blk_on gb322 hb; replace BK323 := blk_on gb323 hb; (try clear hb); obtain ⟨hcz42_0, hcz42_1, hcz42_2, hfz42_0, hfz42_1, hfz42_2⟩ := cells3 BK323.out))
       refine bodyPost_ret (results_ct rfl _ _ gb323 25 #[.int .i64 0, .int .i64 0, .int .i64 0] (0, 0) _ rfl (blk_fars (puts3 BK323.out)) Try.underlying25 rfl (by kernel_rfl)) rfl ?_
       exact ⟨eqN, bel_now⟩
     ·replace c9 := Bool.eq_false_iff.mpr c9
      subst c9
      rw [if_neg (show ¬ (false = true) by decide)] at H
      simp only [Option.some.injEq, Prod.mk.injEq] at H
      obtain ⟨rfl, rfl, rfl, rfl⟩ := H
      go_enter Try.func100, Try.ntmps100
      go_wp2_with (first | ((with_reducible refine gate_dst (N := 2) rfl ?_); (try (refine gate_guard (by rfl) ?_; dsimp only)); refine boxM 2 #[.int .i64 a0_0, .int .i64 a0_1, .int .i64 a0_2] 25 ?_; intro gb321 hg w43 BK321 hb; replace HB := box_at w hb hg; obtain ⟨HB, GW321, GE321⟩ := HB; clear hb hg) | ((with_reducible refine gate_dst (N := 3) rfl ?_); (try (refine gate_guard (by rfl) ?_; dsimp only)); refine boxM 3 #[.int .i64 a1_0, .int .i64 a1_1, .int .i64 a1_2, .int .i64 a1_3, .int .i64 a1_4, .int .i64 a1_5, .int .i64 a1_6, .slice A1_7 l1_7.length c1_7, .slice A1_8 l1_8.length c1_8] 73 ?_; intro gb322 hg w44 BK322 hb; replace HB := box_at w hb hg; obtain ⟨HB, GW322, GE322⟩ := HB; replace BK321 := box_on gb321 hb hg; obtain ⟨BK321, NB321_322, NB322_321⟩ := BK321; clear hb hg) | ((with_reducible refine gate_dst (N := 4) rfl ?_); (try (refine gate_guard (by rfl) ?_; dsimp only)); refine boxM 4 #[.int .i64 0, .int .i64 0, .int .i64 0] 25 ?_; intro gb323 hg w45 BK323 hb; replace HB := box_at w hb hg; obtain ⟨HB, GW323, GE323⟩ := HB; replace BK321 := box_on gb321 hb hg; obtain ⟨BK321, NB321_323, NB323_321⟩ := BK321; replace BK322 := box_on gb322 hb hg; obtain ⟨BK322, NB322_323, NB323_322⟩ := BK322; clear hb hg; have hnb46 := NB321_322.out; have hnc46 := NB322_321.out; have hnb47 := NB321_323.out; have hnc47 := NB323_321.out; obtain ⟨hcz48_0, hcz48_1, hcz48_2, hfz48_0, hfz48_1, hfz48_2⟩ := cells3 BK321.out) | ((with_reducible refine gate_callee (f := 107) rfl ?_); refine goesM (some 8) rfl rfl Try.func107 (by kernel_rfl) rfl #[.agg #[.int .i64 a0_0, .int .i64 a0_1, .int .i64 a0_2]] rfl ?_; (with_reducible refine (impl_ShapeOk.calls a0_0 a0_1 a0_2 true _ A3.out).mono ?_); rintro e w49 ⟨rfl, hb⟩; refine ⟨_, rfl, ?_⟩; replace HB := bel_on w hb; replace BK321 := blk_on gb321 hb; replace BK322 := blk_on gb322 hb; replace BK323 := blk_on gb323 hb; (try clear hb); obtain ⟨hcz50_0, hcz50_1, hcz50_2, hfz50_0, hfz50_1, hfz50_2⟩ := cells3 BK321.out) | ((with_reducible refine gate_callee (f := 103) rfl ?_); refine goesM (some 12) rfl rfl Try.func103 (by kernel_rfl) rfl #[.agg #[.int .i64 a0_0, .int .i64 a0_1, .int .i64 a0_2]] rfl ?_; (with_reducible refine (impl_SizeOf.calls a0_0 a0_1 a0_2 t325 _ A5.out).mono ?_); rintro e w51 ⟨rfl, hb⟩; refine ⟨_, rfl, ?_⟩; replace HB := bel_on w hb; replace BK321 := blk_on gb321 hb; replace BK322 := blk_on gb322 hb; replace BK323 := blk_on gb323 hb; (try clear hb); have hnb52 := NB322_323.out; have hnc52 := NB323_322.out; obtain ⟨hcz53_0, hcz53_1, hcz53_2, hcz53_3, hcz53_4, hcz53_5, hcz53_6, hcz53_7, hcz53_8, hfz53_0, hfz53_1, hfz53_2, hfz53_3, hfz53_4, hfz53_5, hfz53_6, hfz53_7, hfz53_8⟩ := cells9 BK322.out) | (go_at_call 116; (with_reducible refine (impl_Layer_hasNone.calls a1_0 a1_1 a1_2 a1_3 a1_4 a1_5 a1_6 _ _ l1_7 _ _ l1_8 false _ ?side1 ?side2 ?side3 ?side4 A8.out).mono ?_); (case side1 => exact C_now HR1_7.out); (case side2 => exact HC1_7.out); (case side3 => exact C_now HR1_8.out); (case side4 => exact HC1_8.out); rintro e w54 ⟨rfl, hb⟩; replace HB := bel_on w hb; replace BK321 := blk_on gb321 hb; replace BK322 := blk_on gb322 hb; replace BK323 := blk_on gb323 hb; (try clear hb); obtain ⟨hcz55_0, hcz55_1, hcz55_2, hfz55_0, hfz55_1, hfz55_2⟩ := cells3 BK323.out))
      refine bodyPost_ret (results_ct rfl _ _ gb323 25 #[.int .i64 0, .int .i64 0, .int .i64 0] (0, 0) _ rfl (blk_fars (puts3 BK323.out)) Try.underlying25 rfl (by kernel_rfl)) rfl ?_
      exact ⟨eqN, bel_now⟩
    ·rw [if_neg c7] at H
     have c7b0 : decide (t325 ≤ 64) = false := decide_eq_false c7
     clear c7
     simp only [Option.some.injEq, Prod.mk.injEq] at H
     obtain ⟨rfl, rfl, rfl, rfl⟩ := H
     go_enter Try.func100, Try.ntmps100
     go_wp2_with (first | ((with_reducible refine gate_dst (N := 2) rfl ?_); (try (refine gate_guard (by rfl) ?_; dsimp only)); refine boxM 2 #[.int .i64 a0_0, .int .i64 a0_1, .int .i64 a0_2] 25 ?_; intro gb321 hg w56 BK321 hb; replace HB := box_at w hb hg; obtain ⟨HB, GW321, GE321⟩ := HB; clear hb hg) | ((with_reducible refine gate_dst (N := 3) rfl ?_); (try (refine gate_guard (by rfl) ?_; dsimp only)); refine boxM 3 #[.int .i64 a1_0, .int .i64 a1_1, .int .i64 a1_2, .int .i64 a1_3, .int .i64 a1_4, .int .i64 a1_5, .int .i64 a1_6, .slice A1_7 l1_7.length c1_7, .slice A1_8 l1_8.length c1_8] 73 ?_; intro gb322 hg w57 BK322 hb; replace HB := box_at w hb hg; obtain ⟨HB, GW322, GE322⟩ := HB; replace BK321 := box_on gb321 hb hg; obtain ⟨BK321, NB321_322, NB322_321⟩ := BK321; clear hb hg) | ((with_reducible refine gate_dst (N := 4) rfl ?_); (try (refine gate_guard (by rfl) ?_; dsimp only)); refine boxM 4 #[.int .i64 0, .int .i64 0, .int .i64 0] 25 ?_; intro gb323 hg w58 BK323 hb; replace HB := box_at w hb hg; obtain ⟨HB, GW323, GE323⟩ := HB; replace BK321 := box_on gb321 hb hg; obtain ⟨BK321, NB321_323, NB323_321⟩ := BK321; replace BK322 := box_on gb322 hb hg; obtain ⟨BK322, NB322_323, NB323_322⟩ := BK322; clear hb hg; have hnb59 := NB321_322.out; have hnc59 := NB322_321.out; have hnb60 := NB321_323.out; have hnc60 := NB323_321.out; obtain ⟨hcz61_0, hcz61_1, hcz61_2, hfz61_0, hfz61_1, hfz61_2⟩ := cells3 BK321.out) | ((with_reducible refine gate_callee (f := 107) rfl ?_); refine goesM (some 8) rfl rfl Try.func107 (by kernel_rfl) rfl #[.agg #[.int .i64 a0_0, .int .i64 a0_1, .int .i64 a0_2]] rfl ?_; (with_reducible refine (impl_ShapeOk.calls a0_0 a0_1 a0_2 true _ A3.out).mono ?_); rintro e w62 ⟨rfl, hb⟩; refine ⟨_, rfl, ?_⟩; replace HB := bel_on w hb; replace BK321 := blk_on gb321 hb; replace BK322 := blk_on gb322 hb; replace BK323 := blk_on gb323 hb; (try clear hb); obtain ⟨hcz63_0, hcz63_1, hcz63_2, hfz63_0, hfz63_1, hfz63_2⟩ := cells3 BK321.out) | ((with_reducible refine gate_callee (f := 103) rfl ?_); refine goesM (some 12) rfl rfl Try.func103 (by kernel_rfl) rfl #[.agg #[.int .i64 a0_0, .int .i64 a0_1, .int .i64 a0_2]] rfl ?_; (with_reducible refine (impl_SizeOf.calls a0_0 a0_1 a0_2 t325 _ A5.out).mono ?_); rintro e w64 ⟨rfl, hb⟩; refine ⟨_, rfl, ?_⟩; replace HB := bel_on w hb; replace BK321 := blk_on gb321 hb; replace BK322 := blk_on gb322 hb; replace BK323 := blk_on gb323 hb; (try clear hb); have hnb65 := NB322_323.out; have hnc65 := NB323_322.out; obtain ⟨hcz66_0, hcz66_1, hcz66_2, hcz66_3, hcz66_4, hcz66_5, hcz66_6, hcz66_7, hcz66_8, hfz66_0, hfz66_1, hfz66_2, hfz66_3, hfz66_4, hfz66_5, hfz66_6, hfz66_7, hfz66_8⟩ := cells9 BK322.out; obtain ⟨hcz67_0, hcz67_1, hcz67_2, hfz67_0, hfz67_1, hfz67_2⟩ := cells3 BK323.out))
     refine bodyPost_ret (results_ct rfl _ _ gb323 25 #[.int .i64 0, .int .i64 0, .int .i64 0] (0, 0) _ rfl (blk_fars (puts3 BK323.out)) Try.underlying25 rfl (by kernel_rfl)) rfl ?_
     exact ⟨eqN, bel_now⟩
   ·rw [if_neg c6] at H
    have c6b0 : (a1_0 == 0) = false := beq_eq_false_iff_ne.mpr c6
    have c6b1 : (a1_0 != 0) = true := bne_iff_ne.mpr c6
    by_cases c68 : a1_0 = 1
    ·rw [if_pos c68] at H
     have c68b0 : (a1_0 == 1) = true := beq_iff_eq.mpr c68
     have c68b1 : (a1_0 != 1) = false := bne_eq_false_iff_eq.mpr c68
     clear c68
     replace H := Option.bind_eq_some_iff.mp H
     obtain ⟨t328, A690, H⟩ := H
     (try dsimp only at H)
     have A69 := Aside0.mk A690
     clear A690
     by_cases c70 : t328 = true
     ·subst c70
      rw [if_pos rfl] at H
      by_cases c71 : (l1_7.length : Int) ≤ 600
      ·rw [if_pos c71] at H
       have c71b0 : decide ((l1_7.length : Int) ≤ 600) = true := decide_eq_true c71
       have c71b1 : decide (l1_7.length ≤ 600) = true := decide_eq_true (by omega)
       clear c71
       replace H := Option.bind_eq_some_iff.mp H
       obtain ⟨t329, A720, H⟩ := H
       (try dsimp only at H)
       have A72 := Aside0.mk A720
       clear A720
       by_cases c73 : t329 = true
       ·subst c73
        rw [if_pos rfl] at H
        replace H := Option.bind_eq_some_iff.mp H
        obtain ⟨⟨t330, t331, t332⟩, A740, H⟩ := H
        (try dsimp only at H)
        have A74 := Aside0.mk A740
        clear A740
        simp only [Option.some.injEq, Prod.mk.injEq] at H
        obtain ⟨rfl, rfl, rfl, rfl⟩ := H
        go_enter Try.func100, Try.ntmps100
        go_wp2_with (first | ((with_reducible refine gate_dst (N := 2) rfl ?_); (try (refine gate_guard (by rfl) ?_; dsimp only)); refine boxM 2 #[.int .i64 a0_0, .int .i64 a0_1, .int .i64 a0_2] 25 ?_; intro gb321 hg w75 BK321 hb; replace HB := box_at w hb hg; obtain ⟨HB, GW321, GE321⟩ := HB; clear hb hg) | ((with_reducible refine gate_dst (N := 3) rfl ?_); (try (refine gate_guard (by rfl) ?_; dsimp only)); refine boxM 3 #[.int .i64 a1_0, .int .i64 a1_1, .int .i64 a1_2, .int .i64 a1_3, .int .i64 a1_4, .int .i64 a1_5, .int .i64 a1_6, .slice A1_7 l1_7.length c1_7, .slice A1_8 l1_8.length c1_8] 73 ?_; intro gb322 hg w76 BK322 hb; replace HB := box_at w hb hg; obtain ⟨HB, GW322, GE322⟩ := HB; replace BK321 := box_on gb321 hb hg; obtain ⟨BK321, NB321_322, NB322_321⟩ := BK321; clear hb hg) | ((with_reducible refine gate_dst (N := 4) rfl ?_); (try (refine gate_guard (by rfl) ?_; dsimp only)); refine boxM 4 #[.int .i64 0, .int .i64 0, .int .i64 0] 25 ?_; intro gb323 hg w77 BK323 hb; replace HB := box_at w hb hg; obtain ⟨HB, GW323, GE323⟩ := HB; replace BK321 := box_on gb321 hb hg; obtain ⟨BK321, NB321_323, NB323_321⟩ := BK321; replace BK322 := box_on gb322 hb hg; obtain ⟨BK322, NB322_323, NB323_322⟩ := BK322; clear hb hg; have hnb78 := NB321_322.out; have hnc78 := NB322_321.out; have hnb79 := NB321_323.out; have hnc79 := NB323_321.out; obtain ⟨hcz80_0, hcz80_1, hcz80_2, hfz80_0, hfz80_1, hfz80_2⟩ := cells3 BK321.out) | ((with_reducible refine gate_callee (f := 107) rfl ?_); refine goesM (some 8) rfl rfl Try.func107 (by kernel_rfl) rfl #[.agg #[.int .i64 a0_0, .int .i64 a0_1, .int .i64 a0_2]] rfl ?_; (with_reducible refine (impl_ShapeOk.calls a0_0 a0_1 a0_2 true _ A3.out).mono ?_); rintro e w81 ⟨rfl, hb⟩; refine ⟨_, rfl, ?_⟩; replace HB := bel_on w hb; replace BK321 := blk_on gb321 hb; replace BK322 := blk_on gb322 hb; replace BK323 := blk_on gb323 hb; (try clear hb); obtain ⟨hcz82_0, hcz82_1, hcz82_2, hfz82_0, hfz82_1, hfz82_2⟩ := cells3 BK321.out) | ((with_reducible refine gate_callee (f := 103) rfl ?_); refine goesM (some 12) rfl rfl Try.func103 (by kernel_rfl) rfl #[.agg #[.int .i64 a0_0, .int .i64 a0_1, .int .i64 a0_2]] rfl ?_; (with_reducible refine (impl_SizeOf.calls a0_0 a0_1 a0_2 t325 _ A5.out).mono ?_); rintro e w83 ⟨rfl, hb⟩; refine ⟨_, rfl, ?_⟩; replace HB := bel_on w hb; replace BK321 := blk_on gb321 hb; replace BK322 := blk_on gb322 hb; replace BK323 := blk_on gb323 hb; (try clear hb); have hnb84 := NB322_323.out; have hnc84 := NB323_322.out; obtain ⟨hcz85_0, hcz85_1, hcz85_2, hcz85_3, hcz85_4, hcz85_5, hcz85_6, hcz85_7, hcz85_8, hfz85_0, hfz85_1, hfz85_2, hfz85_3, hfz85_4, hfz85_5, hfz85_6, hfz85_7, hfz85_8⟩ := cells9 BK322.out; obtain ⟨hcz86_0, hcz86_1, hcz86_2, hfz86_0, hfz86_1, hfz86_2⟩ := cells3 BK321.out) | ((with_reducible refine gate_callee (f := 118) rfl ?_); refine goesM (some 35) rfl rfl Try.func118 (by kernel_rfl) rfl #[.agg #[.int .i64 a1_0, .int .i64 a1_1, .int .i64 a1_2, .int .i64 a1_3, .int .i64 a1_4, .int .i64 a1_5, .int .i64 a1_6, .slice A1_7 l1_7.length c1_7, .slice A1_8 l1_8.length c1_8], .agg #[.int .i64 a0_0, .int .i64 a0_1, .int .i64 a0_2]] rfl ?_; (with_reducible refine (impl_Layer_isWindow.calls a1_0 a1_1 a1_2 a1_3 a1_4 a1_5 a1_6 _ _ l1_7 _ _ l1_8 a0_0 a0_1 a0_2 true _ ?side1 ?side2 ?side3 ?side4 A69.out).mono ?_); (case side1 => exact C_now HR1_7.out); (case side2 => exact HC1_7.out); (case side3 => exact C_now HR1_8.out); (case side4 => exact HC1_8.out); rintro e w87 ⟨rfl, hb⟩; refine ⟨_, rfl, ?_⟩; replace HB := bel_on w hb; replace BK321 := blk_on gb321 hb; replace BK322 := blk_on gb322 hb; replace BK323 := blk_on gb323 hb; (try clear hb); obtain ⟨hcz88_0, hcz88_1, hcz88_2, hcz88_3, hcz88_4, hcz88_5, hcz88_6, hcz88_7, hcz88_8, hfz88_0, hfz88_1, hfz88_2, hfz88_3, hfz88_4, hfz88_5, hfz88_6, hfz88_7, hfz88_8⟩ := cells9 BK322.out; obtain ⟨hcz89_0, hcz89_1, hcz89_2, hfz89_0, hfz89_1, hfz89_2⟩ := cells3 BK321.out) | (go_at_call 117; (with_reducible refine (impl_Layer_isScaled.calls k a1_0 a1_1 a1_2 a1_3 a1_4 a1_5 a1_6 _ _ l1_7 _ _ l1_8 (wrap64 ((wrap64 (a1_2 * a1_2)) * a0_2)) true _ ?side1 ?side2 ?side3 ?side4 A72.out).mono ?_); (case side1 => exact C_now HR1_7.out); (case side2 => exact HC1_7.out); (case side3 => exact C_now HR1_8.out); (case side4 => exact HC1_8.out); rintro e w90 ⟨rfl, hb⟩; replace HB := bel_on w hb; replace BK321 := blk_on gb321 hb; replace BK322 := blk_on gb322 hb; replace BK323 := blk_on gb323 hb; (try clear hb); obtain ⟨hcz91_0, hcz91_1, hcz91_2, hcz91_3, hcz91_4, hcz91_5, hcz91_6, hcz91_7, hcz91_8, hfz91_0, hfz91_1, hfz91_2, hfz91_3, hfz91_4, hfz91_5, hfz91_6, hfz91_7, hfz91_8⟩ := cells9 BK322.out; obtain ⟨hcz92_0, hcz92_1, hcz92_2, hfz92_0, hfz92_1, hfz92_2⟩ := cells3 BK321.out) | ((with_reducible refine gate_callee (f := 119) rfl ?_); refine goesM (some 58) rfl rfl Try.func119 (by kernel_rfl) rfl #[.agg #[.int .i64 a1_0, .int .i64 a1_1, .int .i64 a1_2, .int .i64 a1_3, .int .i64 a1_4, .int .i64 a1_5, .int .i64 a1_6, .slice A1_7 l1_7.length c1_7, .slice A1_8 l1_8.length c1_8], .agg #[.int .i64 a0_0, .int .i64 a0_1, .int .i64 a0_2], .int .i64 a1_1] rfl ?_; (with_reducible refine (impl_Layer_windows.calls a1_0 a1_1 a1_2 a1_3 a1_4 a1_5 a1_6 _ _ l1_7 _ _ l1_8 a0_0 a0_1 a0_2 a1_1 t330 t331 t332 _ ?side1 ?side2 ?side3 ?side4 A74.out).mono ?_); (case side1 => exact C_now HR1_7.out); (case side2 => exact HC1_7.out); (case side3 => exact C_now HR1_8.out); (case side4 => exact HC1_8.out); rintro e w93 ⟨rfl, hb⟩; refine ⟨_, rfl, ?_⟩; replace HB := bel_on w hb; replace BK321 := blk_on gb321 hb; replace BK322 := blk_on gb322 hb; replace BK323 := blk_on gb323 hb; (try clear hb); obtain ⟨hcz94_0, hcz94_1, hcz94_2, hfz94_0, hfz94_1, hfz94_2⟩ := cells3 BK323.out))
        refine bodyPost_ret (results_ct rfl _ _ gb323 25 #[.int .i64 t330, .int .i64 t331, .int .i64 t332] (0, 0) _ rfl (blk_fars (puts3 BK323.out)) Try.underlying25 rfl (by kernel_rfl)) rfl ?_
        exact ⟨eqN, bel_now⟩
       ·replace c73 := Bool.eq_false_iff.mpr c73
        subst c73
        rw [if_neg (show ¬ (false = true) by decide)] at H
        simp only [Option.some.injEq, Prod.mk.injEq] at H
        obtain ⟨rfl, rfl, rfl, rfl⟩ := H
        go_enter Try.func100, Try.ntmps100
        go_wp2_with (first | ((with_reducible refine gate_dst (N := 2) rfl ?_); (try (refine gate_guard (by rfl) ?_; dsimp only)); refine boxM 2 #[.int .i64 a0_0, .int .i64 a0_1, .int .i64 a0_2] 25 ?_; intro gb321 hg w95 BK321 hb; replace HB := box_at w hb hg; obtain ⟨HB, GW321, GE321⟩ := HB; clear hb hg) | ((with_reducible refine gate_dst (N := 3) rfl ?_); (try (refine gate_guard (by rfl) ?_; dsimp only)); refine boxM 3 #[.int .i64 a1_0, .int .i64 a1_1, .int .i64 a1_2, .int .i64 a1_3, .int .i64 a1_4, .int .i64 a1_5, .int .i64 a1_6, .slice A1_7 l1_7.length c1_7, .slice A1_8 l1_8.length c1_8] 73 ?_; intro gb322 hg w96 BK322 hb; replace HB := box_at w hb hg; obtain ⟨HB, GW322, GE322⟩ := HB; replace BK321 := box_on gb321 hb hg; obtain ⟨BK321, NB321_322, NB322_321⟩ := BK321; clear hb hg) | ((with_reducible refine gate_dst (N := 4) rfl ?_); (try (refine gate_guard (by rfl) ?_; dsimp only)); refine boxM 4 #[.int .i64 0, .int .i64 0, .int .i64 0] 25 ?_; intro gb323 hg w97 BK323 hb; replace HB := box_at w hb hg; obtain ⟨HB, GW323, GE323⟩ := HB; replace BK321 := box_on gb321 hb hg; obtain ⟨BK321, NB321_323, NB323_321⟩ := BK321; replace BK322 := box_on gb322 hb hg; obtain ⟨BK322, NB322_323, NB323_322⟩ := BK322; clear hb hg; have hnb98 := NB321_322.out; have hnc98 := NB322_321.out; have hnb99 := NB321_323.out; have hnc99 := NB323_321.out; obtain ⟨hcz100_0, hcz100_1, hcz100_2, hfz100_0, hfz100_1, hfz100_2⟩ := cells3 BK321.out) | ((with_reducible refine gate_callee (f := 107) rfl ?_); refine goesM (some 8) rfl rfl Try.func107 (by kernel_rfl) rfl #[.agg #[.int .i64 a0_0, .int .i64 a0_1, .int .i64 a0_2]] rfl ?_; (with_reducible refine (impl_ShapeOk.calls a0_0 a0_1 a0_2 true _ A3.out).mono ?_); rintro e w101 ⟨rfl, hb⟩; refine ⟨_, rfl, ?_⟩; replace HB := bel_on w hb; replace BK321 := blk_on gb321 hb; replace BK322 := blk_on gb322 hb; replace BK323 := blk_on gb323 hb; (try clear hb); obtain ⟨hcz102_0, hcz102_1, hcz102_2, hfz102_0, hfz102_1, hfz102_2⟩ := cells3 BK321.out) | ((with_reducible refine gate_callee (f := 103) rfl ?_); refine goesM (some 12) rfl rfl Try.func103 (by kernel_rfl) rfl #[.agg #[.int .i64 a0_0, .int .i64 a0_1, .int .i64 a0_2]] rfl ?_; (with_reducible refine (impl_SizeOf.calls a0_0 a0_1 a0_2 t325 _ A5.out).mono ?_); rintro e w103 ⟨rfl, hb⟩; refine ⟨_, rfl, ?_⟩; replace HB := bel_on w hb; replace BK321 := blk_on gb321 hb; replace BK322 := blk_on gb322 hb; replace BK323 := blk_on gb323 hb; (try clear hb); have hnb104 := NB322_323.out; have hnc104 := NB323_322.out; obtain ⟨hcz105_0, hcz105_1, hcz105_2, hcz105_3, hcz105_4, hcz105_5, hcz105_6, hcz105_7, hcz105_8, hfz105_0, hfz105_1, hfz105_2, hfz105_3, hfz105_4, hfz105_5, hfz105_6, hfz105_7, hfz105_8⟩ := cells9 BK322.out; obtain ⟨hcz106_0, hcz106_1, hcz106_2, hfz106_0, hfz106_1, hfz106_2⟩ := cells3 BK321.out) | ((with_reducible refine gate_callee (f := 118) rfl ?_); refine goesM (some 35) rfl rfl Try.func118 (by kernel_rfl) rfl #[.agg #[.int .i64 a1_0, .int .i64 a1_1, .int .i64 a1_2, .int .i64 a1_3, .int .i64 a1_4, .int .i64 a1_5, .int .i64 a1_6, .slice A1_7 l1_7.length c1_7, .slice A1_8 l1_8.length c1_8], .agg #[.int .i64 a0_0, .int .i64 a0_1, .int .i64 a0_2]] rfl ?_; (with_reducible refine (impl_Layer_isWindow.calls a1_0 a1_1 a1_2 a1_3 a1_4 a1_5 a1_6 _ _ l1_7 _ _ l1_8 a0_0 a0_1 a0_2 true _ ?side1 ?side2 ?side3 ?side4 A69.out).mono ?_); (case side1 => exact C_now HR1_7.out); (case side2 => exact HC1_7.out); (case side3 => exact C_now HR1_8.out); (case side4 => exact HC1_8.out); rintro e w107 ⟨rfl, hb⟩; refine ⟨_, rfl, ?_⟩; replace HB := bel_on w hb; replace BK321 := blk_on gb321 hb; replace BK322 := blk_on gb322 hb; replace BK323 := blk_on gb323 hb; (try clear hb); obtain ⟨hcz108_0, hcz108_1, hcz108_2, hcz108_3, hcz108_4, hcz108_5, hcz108_6, hcz108_7, hcz108_8, hfz108_0, hfz108_1, hfz108_2, hfz108_3, hfz108_4, hfz108_5, hfz108_6, hfz108_7, hfz108_8⟩ := cells9 BK322.out; obtain ⟨hcz109_0, hcz109_1, hcz109_2, hfz109_0, hfz109_1, hfz109_2⟩ := cells3 BK321.out) | (go_at_call 117; (with_reducible refine (impl_Layer_isScaled.calls k a1_0 a1_1 a1_2 a1_3 a1_4 a1_5 a1_6 _ _ l1_7 _ _ l1_8 (wrap64 ((wrap64 (a1_2 * a1_2)) * a0_2)) false _ ?side1 ?side2 ?side3 ?side4 A72.out).mono ?_); (case side1 => exact C_now HR1_7.out); (case side2 => exact HC1_7.out); (case side3 => exact C_now HR1_8.out); (case side4 => exact HC1_8.out); rintro e w110 ⟨rfl, hb⟩; replace HB := bel_on w hb; replace BK321 := blk_on gb321 hb; replace BK322 := blk_on gb322 hb; replace BK323 := blk_on gb323 hb; (try clear hb); obtain ⟨hcz111_0, hcz111_1, hcz111_2, hfz111_0, hfz111_1, hfz111_2⟩ := cells3 BK323.out))
        refine bodyPost_ret (results_ct rfl _ _ gb323 25 #[.int .i64 0, .int .i64 0, .int .i64 0] (0, 0) _ rfl (blk_fars (puts3 BK323.out)) Try.underlying25 rfl (by kernel_rfl)) rfl ?_
        exact ⟨eqN, bel_now⟩
      ·rw [if_neg c71] at H
       have c71b0 : decide ((l1_7.length : Int) ≤ 600) = false := decide_eq_false c71
       have c71b1 : decide (l1_7.length ≤ 600) = false := decide_eq_false (by omega)
       clear c71
       simp only [Option.some.injEq, Prod.mk.injEq] at H
       obtain ⟨rfl, rfl, rfl, rfl⟩ := H
       go_enter Try.func100, Try.ntmps100
       go_wp2_with (first | ((with_reducible refine gate_dst (N := 2) rfl ?_); (try (refine gate_guard (by rfl) ?_; dsimp only)); refine boxM 2 #[.int .i64 a0_0, .int .i64 a0_1, .int .i64 a0_2] 25 ?_; intro gb321 hg w112 BK321 hb; replace HB := box_at w hb hg; obtain ⟨HB, GW321, GE321⟩ := HB; clear hb hg) | ((with_reducible refine gate_dst (N := 3) rfl ?_); (try (refine gate_guard (by rfl) ?_; dsimp only)); refine boxM 3 #[.int .i64 a1_0, .int .i64 a1_1, .int .i64 a1_2, .int .i64 a1_3, .int .i64 a1_4, .int .i64 a1_5, .int .i64 a1_6, .slice A1_7 l1_7.length c1_7, .slice A1_8 l1_8.length c1_8] 73 ?_; intro gb322 hg w113 BK322 hb; replace HB := box_at w hb hg; obtain ⟨HB, GW322, GE322⟩ := HB; replace BK321 := box_on gb321 hb hg; obtain ⟨BK321, NB321_322, NB322_321⟩ := BK321; clear hb hg) | ((with_reducible refine gate_dst (N := 4) rfl ?_); (try (refine gate_guard (by rfl) ?_; dsimp only)); refine boxM 4 #[.int .i64 0, .int .i64 0, .int .i64 0] 25 ?_; intro gb323 hg w114 BK323 hb; replace HB := box_at w hb hg; obtain ⟨HB, GW323, GE323⟩ := HB; replace BK321 := box_on gb321 hb hg; obtain ⟨BK321, NB321_323, NB323_321⟩ := BK321; replace BK322 := box_on gb322 hb hg; obtain ⟨BK322, NB322_323, NB323_322⟩ := BK322; clear hb hg; have hnb115 := NB321_322.out; have hnc115 := NB322_321.out; have hnb116 := NB321_323.out; have hnc116 := NB323_321.out; obtain ⟨hcz117_0, hcz117_1, hcz117_2, hfz117_0, hfz117_1, hfz117_2⟩ := cells3 BK321.out) | ((with_reducible refine gate_callee (f := 107) rfl ?_); refine goesM (some 8) rfl rfl Try.func107 (by kernel_rfl) rfl #[.agg #[.int .i64 a0_0, .int .i64 a0_1, .int .i64 a0_2]] rfl ?_; (with_reducible refine (impl_ShapeOk.calls a0_0 a0_1 a0_2 true _ A3.out).mono ?_); rintro e w118 ⟨rfl, hb⟩; refine ⟨_, rfl, ?_⟩; replace HB := bel_on w hb; replace BK321 := blk_on gb321 hb; replace BK322 := blk_on gb322 hb; replace BK323 := blk_on gb323 hb; (try clear hb); obtain ⟨hcz119_0, hcz119_1, hcz119_2, hfz119_0, hfz119_1, hfz119_2⟩ := cells3 BK321.out) | ((with_reducible refine gate_callee (f := 103) rfl ?_); refine goesM (some 12) rfl rfl Try.func103 (by kernel_rfl) rfl #[.agg #[.int .i64 a0_0, .int .i64 a0_1, .int .i64 a0_2]] rfl ?_; (with_reducible refine (impl_SizeOf.calls a0_0 a0_1 a0_2 t325 _ A5.out).mono ?_); rintro e w120 ⟨rfl, hb⟩; refine ⟨_, rfl, ?_⟩; replace HB := bel_on w hb; replace BK321 := blk_on gb321 hb; replace BK322 := blk_on gb322 hb; replace BK323 := blk_on gb323 hb; (try clear hb); have hnb121 := NB322_323.out; have hnc121 := NB323_322.out; obtain ⟨hcz122_0, hcz122_1, hcz122_2, hcz122_3, hcz122_4, hcz122_5, hcz122_6, hcz122_7, hcz122_8, hfz122_0, hfz122_1, hfz122_2, hfz122_3, hfz122_4, hfz122_5, hfz122_6, hfz122_7, hfz122_8⟩ := cells9 BK322.out; obtain ⟨hcz123_0, hcz123_1, hcz123_2, hfz123_0, hfz123_1, hfz123_2⟩ := cells3 BK321.out) | ((with_reducible refine gate_callee (f := 118) rfl ?_); refine goesM (some 35) rfl rfl Try.func118 (by kernel_rfl) rfl #[.agg #[.int .i64 a1_0, .int .i64 a1_1, .int .i64 a1_2, .int .i64 a1_3, .int .i64 a1_4, .int .i64 a1_5, .int .i64 a1_6, .slice A1_7 l1_7.length c1_7, .slice A1_8 l1_8.length c1_8], .agg #[.int .i64 a0_0, .int .i64 a0_1, .int .i64 a0_2]] rfl ?_; (with_reducible refine (impl_Layer_isWindow.calls a1_0 a1_1 a1_2 a1_3 a1_4 a1_5 a1_6 _ _ l1_7 _ _ l1_8 a0_0 a0_1 a0_2 true _ ?side1 ?side2 ?side3 ?side4 A69.out).mono ?_); (case side1 => exact C_now HR1_7.out); (case side2 => exact HC1_7.out); (case side3 => exact C_now HR1_8.out); (case side4 => exact HC1_8.out); rintro e w124 ⟨rfl, hb⟩; refine ⟨_, rfl, ?_⟩; replace HB := bel_on w hb; replace BK321 := blk_on gb321 hb; replace BK322 := blk_on gb322 hb; replace BK323 := blk_on gb323 hb; (try clear hb); obtain ⟨hcz125_0, hcz125_1, hcz125_2, hcz125_3, hcz125_4, hcz125_5, hcz125_6, hcz125_7, hcz125_8, hfz125_0, hfz125_1, hfz125_2, hfz125_3, hfz125_4, hfz125_5, hfz125_6, hfz125_7, hfz125_8⟩ := cells9 BK322.out; obtain ⟨hcz126_0, hcz126_1, hcz126_2, hfz126_0, hfz126_1, hfz126_2⟩ := cells3 BK323.out))
       refine bodyPost_ret (results_ct rfl _ _ gb323 25 #[.int .i64 0, .int .i64 0, .int .i64 0] (0, 0) _ rfl (blk_fars (puts3 BK323.out)) Try.underlying25 rfl (by kernel_rfl)) rfl ?_
       exact ⟨eqN, bel_now⟩
     ·replace c70 := Bool.eq_false_iff.mpr c70
      subst c70
      rw [if_neg (show ¬ (false = true) by decide)] at H
      simp only [Option.some.injEq, Prod.mk.injEq] at H
      obtain ⟨rfl, rfl, rfl, rfl⟩ := H
      go_enter Try.func100, Try.ntmps100
      go_wp2_with (first | ((with_reducible refine gate_dst (N := 2) rfl ?_); (try (refine gate_guard (by rfl) ?_; dsimp only)); refine boxM 2 #[.int .i64 a0_0, .int .i64 a0_1, .int .i64 a0_2] 25 ?_; intro gb321 hg w127 BK321 hb; replace HB := box_at w hb hg; obtain ⟨HB, GW321, GE321⟩ := HB; clear hb hg) | ((with_reducible refine gate_dst (N := 3) rfl ?_); (try (refine gate_guard (by rfl) ?_; dsimp only)); refine boxM 3 #[.int .i64 a1_0, .int .i64 a1_1, .int .i64 a1_2, .int .i64 a1_3, .int .i64 a1_4, .int .i64 a1_5, .int .i64 a1_6, .slice A1_7 l1_7.length c1_7, .slice A1_8 l1_8.length c1_8] 73 ?_; intro gb322 hg w128 BK322 hb; replace HB := box_at w hb hg; obtain ⟨HB, GW322, GE322⟩ := HB; replace BK321 := box_on gb321 hb hg; obtain ⟨BK321, NB321_322, NB322_321⟩ := BK321; clear hb hg) | ((with_reducible refine gate_dst (N := 4) rfl ?_); (try (refine gate_guard (by rfl) ?_; dsimp only)); refine boxM 4 #[.int .i64 0, .int .i64 0, .int .i64 0] 25 ?_; intro gb323 hg w129 BK323 hb; replace HB := box_at w hb hg; obtain ⟨HB, GW323, GE323⟩ := HB; replace BK321 := box_on gb321 hb hg; obtain ⟨BK321, NB321_323, NB323_321⟩ := BK321; replace BK322 := box_on gb322 hb hg; obtain ⟨BK322, NB322_323, NB323_322⟩ := BK322; clear hb hg; have hnb130 := NB321_322.out; have hnc130 := NB322_321.out; have hnb131 := NB321_323.out; have hnc131 := NB323_321.out; obtain ⟨hcz132_0, hcz132_1, hcz132_2, hfz132_0, hfz132_1, hfz132_2⟩ := cells3 BK321.out) | ((with_reducible refine gate_callee (f := 107) rfl ?_); refine goesM (some 8) rfl rfl Try.func107 (by kernel_rfl) rfl #[.agg #[.int .i64 a0_0, .int .i64 a0_1, .int .i64 a0_2]] rfl ?_; (with_reducible refine (impl_ShapeOk.calls a0_0 a0_1 a0_2 true _ A3.out).mono ?_); rintro e w133 ⟨rfl, hb⟩; refine ⟨_, rfl, ?_⟩; replace HB := bel_on w hb; replace BK321 := blk_on gb321 hb; replace BK322 := blk_on gb322 hb; replace BK323 := blk_on gb323 hb; (try clear hb); obtain ⟨hcz134_0, hcz134_1, hcz134_2, hfz134_0, hfz134_1, hfz134_2⟩ := cells3 BK321.out) | ((with_reducible refine gate_callee (f := 103) rfl ?_); refine goesM (some 12) rfl rfl Try.func103 (by kernel_rfl) rfl #[.agg #[.int .i64 a0_0, .int .i64 a0_1, .int .i64 a0_2]] rfl ?_; (with_reducible refine (impl_SizeOf.calls a0_0 a0_1 a0_2 t325 _ A5.out).mono ?_); rintro e w135 ⟨rfl, hb⟩; refine ⟨_, rfl, ?_⟩; replace HB := bel_on w hb; replace BK321 := blk_on gb321 hb; replace BK322 := blk_on gb322 hb; replace BK323 := blk_on gb323 hb; (try clear hb); have hnb136 := NB322_323.out; have hnc136 := NB323_322.out; obtain ⟨hcz137_0, hcz137_1, hcz137_2, hcz137_3, hcz137_4, hcz137_5, hcz137_6, hcz137_7, hcz137_8, hfz137_0, hfz137_1, hfz137_2, hfz137_3, hfz137_4, hfz137_5, hfz137_6, hfz137_7, hfz137_8⟩ := cells9 BK322.out; obtain ⟨hcz138_0, hcz138_1, hcz138_2, hfz138_0, hfz138_1, hfz138_2⟩ := cells3 BK321.out) | ((with_reducible refine gate_callee (f := 118) rfl ?_); refine goesM (some 35) rfl rfl Try.func118 (by kernel_rfl) rfl #[.agg #[.int .i64 a1_0, .int .i64 a1_1, .int .i64 a1_2, .int .i64 a1_3, .int .i64 a1_4, .int .i64 a1_5, .int .i64 a1_6, .slice A1_7 l1_7.length c1_7, .slice A1_8 l1_8.length c1_8], .agg #[.int .i64 a0_0, .int .i64 a0_1, .int .i64 a0_2]] rfl ?_; (with_reducible refine (impl_Layer_isWindow.calls a1_0 a1_1 a1_2 a1_3 a1_4 a1_5 a1_6 _ _ l1_7 _ _ l1_8 a0_0 a0_1 a0_2 false _ ?side1 ?side2 ?side3 ?side4 A69.out).mono ?_); (case side1 => exact C_now HR1_7.out); (case side2 => exact HC1_7.out); (case side3 => exact C_now HR1_8.out); (case side4 => exact HC1_8.out); rintro e w139 ⟨rfl, hb⟩; refine ⟨_, rfl, ?_⟩; replace HB := bel_on w hb; replace BK321 := blk_on gb321 hb; replace BK322 := blk_on gb322 hb; replace BK323 := blk_on gb323 hb; (try clear hb); obtain ⟨hcz140_0, hcz140_1, hcz140_2, hfz140_0, hfz140_1, hfz140_2⟩ := cells3 BK323.out))
      refine bodyPost_ret (results_ct rfl _ _ gb323 25 #[.int .i64 0, .int .i64 0, .int .i64 0] (0, 0) _ rfl (blk_fars (puts3 BK323.out)) Try.underlying25 rfl (by kernel_rfl)) rfl ?_
      exact ⟨eqN, bel_now⟩
    ·rw [if_neg c68] at H
     have c68b0 : (a1_0 == 1) = false := beq_eq_false_iff_ne.mpr c68
     have c68b1 : (a1_0 != 1) = true := bne_iff_ne.mpr c68
     have HC141 := Aside0.mk H
     clear H
     go_enter Try.func100, Try.ntmps100
     go_upto_if 59 with (first | ((with_reducible refine gate_dst (N := 2) rfl ?_); (try (refine gate_guard (by rfl) ?_; dsimp only)); refine boxM 2 #[.int .i64 a0_0, .int .i64 a0_1, .int .i64 a0_2] 25 ?_; intro gb321 hg w142 BK321 hb; replace HB := box_at w hb hg; obtain ⟨HB, GW321, GE321⟩ := HB; clear hb hg) | ((with_reducible refine gate_dst (N := 3) rfl ?_); (try (refine gate_guard (by rfl) ?_; dsimp only)); refine boxM 3 #[.int .i64 a1_0, .int .i64 a1_1, .int .i64 a1_2, .int .i64 a1_3, .int .i64 a1_4, .int .i64 a1_5, .int .i64 a1_6, .slice A1_7 l1_7.length c1_7, .slice A1_8 l1_8.length c1_8] 73 ?_; intro gb322 hg w143 BK322 hb; replace HB := box_at w hb hg; obtain ⟨HB, GW322, GE322⟩ := HB; replace BK321 := box_on gb321 hb hg; obtain ⟨BK321, NB321_322, NB322_321⟩ := BK321; clear hb hg) | ((with_reducible refine gate_dst (N := 4) rfl ?_); (try (refine gate_guard (by rfl) ?_; dsimp only)); refine boxM 4 #[.int .i64 0, .int .i64 0, .int .i64 0] 25 ?_; intro gb323 hg w144 BK323 hb; replace HB := box_at w hb hg; obtain ⟨HB, GW323, GE323⟩ := HB; replace BK321 := box_on gb321 hb hg; obtain ⟨BK321, NB321_323, NB323_321⟩ := BK321; replace BK322 := box_on gb322 hb hg; obtain ⟨BK322, NB322_323, NB323_322⟩ := BK322; clear hb hg; have hnb145 := NB321_322.out; have hnc145 := NB322_321.out; have hnb146 := NB321_323.out; have hnc146 := NB323_321.out; obtain ⟨hcz147_0, hcz147_1, hcz147_2, hfz147_0, hfz147_1, hfz147_2⟩ := cells3 BK321.out) | ((with_reducible refine gate_callee (f := 107) rfl ?_); refine goesM (some 8) rfl rfl Try.func107 (by kernel_rfl) rfl #[.agg #[.int .i64 a0_0, .int .i64 a0_1, .int .i64 a0_2]] rfl ?_; (with_reducible refine (impl_ShapeOk.calls a0_0 a0_1 a0_2 true _ A3.out).mono ?_); rintro e w148 ⟨rfl, hb⟩; refine ⟨_, rfl, ?_⟩; replace HB := bel_on w hb; replace BK321 := blk_on gb321 hb; replace BK322 := blk_on gb322 hb; replace BK323 := blk_on gb323 hb; (try clear hb); obtain ⟨hcz149_0, hcz149_1, hcz149_2, hfz149_0, hfz149_1, hfz149_2⟩ := cells3 BK321.out) | ((with_reducible refine gate_callee (f := 103) rfl ?_); refine goesM (some 12) rfl rfl Try.func103 (by kernel_rfl) rfl #[.agg #[.int .i64 a0_0, .int .i64 a0_1, .int .i64 a0_2]] rfl ?_; (with_reducible refine (impl_SizeOf.calls a0_0 a0_1 a0_2 t325 _ A5.out).mono ?_); rintro e w150 ⟨rfl, hb⟩; refine ⟨_, rfl, ?_⟩; replace HB := bel_on w hb; replace BK321 := blk_on gb321 hb; replace BK322 := blk_on gb322 hb; replace BK323 := blk_on gb323 hb; (try clear hb); have hnb151 := NB322_323.out; have hnc151 := NB323_322.out; obtain ⟨hcz152_0, hcz152_1, hcz152_2, hcz152_3, hcz152_4, hcz152_5, hcz152_6, hcz152_7, hcz152_8, hfz152_0, hfz152_1, hfz152_2, hfz152_3, hfz152_4, hfz152_5, hfz152_6, hfz152_7, hfz152_8⟩ := cells9 BK322.out))
     (try simp only [Act.put, zA, zB, zC])
     go_cut [59] (fun v59 wc => ∃ (kq : Nat) (x59_140 : Bool), v59 = .bool x59_140 ∧ Aside0 (impl_OutShape.j0 kq t325 a1_0 x59_140 a0_0 a0_1 a0_2 a1_0 a1_1 a1_2 a1_3 a1_4 a1_5 a1_6 l1_7 l1_8 = some (r1, r2, r3, r4)) ∧ Aside0 (kq ≤ k) ∧ Aside0 (wc.heap[gb321]? = some (.cells #[.int .i64 a0_0, .int .i64 a0_1, .int .i64 a0_2] 25 (0, 0))) ∧ Aside0 (wc.heap[gb322]? = some (.cells #[.int .i64 a1_0, .int .i64 a1_1, .int .i64 a1_2, .int .i64 a1_3, .int .i64 a1_4, .int .i64 a1_5, .int .i64 a1_6, (.slice A1_7 l1_7.length c1_7), (.slice A1_8 l1_8.length c1_8)] 73 (0, 0))) ∧ Aside0 (wc.heap[gb323]? = some (.cells #[.int .i64 0, .int .i64 0, .int .i64 0] 25 (0, 0))) ∧ Aside0 (Below w.heap.size w wc))
     case first =>
      have H := HC141.out
      clear HC141
      by_cases c153 : a1_0 = 2
      ·rw [if_pos c153] at H
       have c153b0 : (a1_0 == 2) = true := beq_iff_eq.mpr c153
       have c153b1 : (a1_0 != 2) = false := bne_eq_false_iff_eq.mpr c153
       clear c153
       (first | rw [c153b0] | (simp only [i64_w, i32_w]; rw [c153b0]) | skip)
       have H' := Aside0.mk H
       clear H
       go_wp2
       go_meet
       case rel => exact ⟨_, ((a1_0 == 2)), (by first | rfl | (simp; done) | (simp [*]; done)), H', ⟨by first | omega | exact Nat.le_refl _⟩, ⟨by (with_reducible repeat (first | refine blk_drewN ?_ _ | refine blk_drew ?_ | refine blk_alloc ?_ _)); exact BK321.out⟩, ⟨by (with_reducible repeat (first | refine blk_drewN ?_ _ | refine blk_drew ?_ | refine blk_alloc ?_ _)); exact BK322.out⟩, ⟨by (with_reducible repeat (first | refine blk_drewN ?_ _ | refine blk_drew ?_ | refine blk_alloc ?_ _)); exact BK323.out⟩, ⟨bel_now⟩⟩
      ·rw [if_neg c153] at H
       have c153b0 : (a1_0 == 2) = false := beq_eq_false_iff_ne.mpr c153
       have c153b1 : (a1_0 != 2) = true := bne_iff_ne.mpr c153
       (first | rw [c153b0] | (simp only [i64_w, i32_w]; rw [c153b0]) | skip)
       have H' := Aside0.mk H
       clear H
       go_wp2
       go_meet
       case rel => exact ⟨_, ((a1_0 == 3)), (by first | rfl | (simp; done) | (simp [*]; done)), H', ⟨by first | omega | exact Nat.le_refl _⟩, ⟨by (with_reducible repeat (first | refine blk_drewN ?_ _ | refine blk_drew ?_ | refine blk_alloc ?_ _)); exact BK321.out⟩, ⟨by (with_reducible repeat (first | refine blk_drewN ?_ _ | refine blk_drew ?_ | refine blk_alloc ?_ _)); exact BK322.out⟩, ⟨by (with_reducible repeat (first | refine blk_drewN ?_ _ | refine blk_drew ?_ | refine blk_alloc ?_ _)); exact BK323.out⟩, ⟨bel_now⟩⟩
     case rest =>
      clear HC141
      try clear c1
      try clear c2
      try clear p2
      try clear c3
      try clear c4
      try clear c5
      try clear c6
      try clear c6b0
      try clear c6b1
      try clear p6
      try clear c7
      try clear c7b0
      try clear c8
      try clear c9
      try clear c10
      try clear c11
      try clear c12
      try clear c13
      try clear c14
      try clear c15
      try clear c16
      try clear c21
      try clear c31
      try clear c32
      try clear c37
      try clear c46
      try clear c47
      try clear c52
      try clear c59
      try clear c60
      try clear p64
      try clear c65
      try clear c68
      try clear c68b0
      try clear c68b1
      try clear c70
      try clear c71
      try clear c71b0
      try clear c71b1
      try clear c73
      try clear c78
      try clear c79
      try clear c84
      try clear c98
      try clear c99
      try clear c100
      try clear c103
      try clear c104
      try clear c107
      try clear c115
      try clear c116
      try clear c118
      try clear c119
      try clear c121
      try clear c130
      try clear c131
      try clear c136
      try clear c145
      try clear c146
      try clear c151
      try clear c153
      try clear c153b0
      try clear c153b1
      try clear hcz100_0 hcz100_1 hcz100_2 hfz100_0 hfz100_1 hfz100_2
      try clear hcz102_0 hcz102_1 hcz102_2 hfz102_0 hfz102_1 hfz102_2
      try clear hcz105_0 hcz105_1 hcz105_2 hcz105_3 hcz105_4 hcz105_5 hcz105_6 hcz105_7 hcz105_8 hfz105_0 hfz105_1 hfz105_2 hfz105_3 hfz105_4 hfz105_5 hfz105_6 hfz105_7 hfz105_8
      try clear hcz106_0 hcz106_1 hcz106_2 hfz106_0 hfz106_1 hfz106_2
      try clear hcz108_0 hcz108_1 hcz108_2 hcz108_3 hcz108_4 hcz108_5 hcz108_6 hcz108_7 hcz108_8 hfz108_0 hfz108_1 hfz108_2 hfz108_3 hfz108_4 hfz108_5 hfz108_6 hfz108_7 hfz108_8
      try clear hcz109_0 hcz109_1 hcz109_2 hfz109_0 hfz109_1 hfz109_2
      try clear hcz111_0 hcz111_1 hcz111_2 hfz111_0 hfz111_1 hfz111_2
      try clear hcz117_0 hcz117_1 hcz117_2 hfz117_0 hfz117_1 hfz117_2
      try clear hcz119_0 hcz119_1 hcz119_2 hfz119_0 hfz119_1 hfz119_2
      try clear hcz122_0 hcz122_1 hcz122_2 hcz122_3 hcz122_4 hcz122_5 hcz122_6 hcz122_7 hcz122_8 hfz122_0 hfz122_1 hfz122_2 hfz122_3 hfz122_4 hfz122_5 hfz122_6 hfz122_7 hfz122_8
      try clear hcz123_0 hcz123_1 hcz123_2 hfz123_0 hfz123_1 hfz123_2
      try clear hcz125_0 hcz125_1 hcz125_2 hcz125_3 hcz125_4 hcz125_5 hcz125_6 hcz125_7 hcz125_8 hfz125_0 hfz125_1 hfz125_2 hfz125_3 hfz125_4 hfz125_5 hfz125_6 hfz125_7 hfz125_8
      try clear hcz126_0 hcz126_1 hcz126_2 hfz126_0 hfz126_1 hfz126_2
      try clear hcz132_0 hcz132_1 hcz132_2 hfz132_0 hfz132_1 hfz132_2
      try clear hcz134_0 hcz134_1 hcz134_2 hfz134_0 hfz134_1 hfz134_2
      try clear hcz137_0 hcz137_1 hcz137_2 hcz137_3 hcz137_4 hcz137_5 hcz137_6 hcz137_7 hcz137_8 hfz137_0 hfz137_1 hfz137_2 hfz137_3 hfz137_4 hfz137_5 hfz137_6 hfz137_7 hfz137_8
      try clear hcz138_0 hcz138_1 hcz138_2 hfz138_0 hfz138_1 hfz138_2
      try clear hcz140_0 hcz140_1 hcz140_2 hfz140_0 hfz140_1 hfz140_2
      try clear hcz147_0 hcz147_1 hcz147_2 hfz147_0 hfz147_1 hfz147_2
      try clear hcz149_0 hcz149_1 hcz149_2 hfz149_0 hfz149_1 hfz149_2
      try clear hcz152_0 hcz152_1 hcz152_2 hcz152_3 hcz152_4 hcz152_5 hcz152_6 hcz152_7 hcz152_8 hfz152_0 hfz152_1 hfz152_2 hfz152_3 hfz152_4 hfz152_5 hfz152_6 hfz152_7 hfz152_8
      try clear hcz17_0 hcz17_1 hcz17_2 hfz17_0 hfz17_1 hfz17_2
      try clear hcz19_0 hcz19_1 hcz19_2 hfz19_0 hfz19_1 hfz19_2
      try clear hcz22_0 hcz22_1 hcz22_2 hcz22_3 hcz22_4 hcz22_5 hcz22_6 hcz22_7 hcz22_8 hfz22_0 hfz22_1 hfz22_2 hfz22_3 hfz22_4 hfz22_5 hfz22_6 hfz22_7 hfz22_8
      try clear hcz24_0 hcz24_1 hcz24_2 hcz24_3 hcz24_4 hcz24_5 hcz24_6 hcz24_7 hcz24_8 hfz24_0 hfz24_1 hfz24_2 hfz24_3 hfz24_4 hfz24_5 hfz24_6 hfz24_7 hfz24_8
      try clear hcz26_0 hcz26_1 hcz26_2 hcz26_3 hcz26_4 hcz26_5 hcz26_6 hcz26_7 hcz26_8 hfz26_0 hfz26_1 hfz26_2 hfz26_3 hfz26_4 hfz26_5 hfz26_6 hfz26_7 hfz26_8
      try clear hcz27_0 hcz27_1 hcz27_2 hfz27_0 hfz27_1 hfz27_2
      try clear hcz33_0 hcz33_1 hcz33_2 hfz33_0 hfz33_1 hfz33_2
      try clear hcz35_0 hcz35_1 hcz35_2 hfz35_0 hfz35_1 hfz35_2
      try clear hcz38_0 hcz38_1 hcz38_2 hcz38_3 hcz38_4 hcz38_5 hcz38_6 hcz38_7 hcz38_8 hfz38_0 hfz38_1 hfz38_2 hfz38_3 hfz38_4 hfz38_5 hfz38_6 hfz38_7 hfz38_8
      try clear hcz40_0 hcz40_1 hcz40_2 hcz40_3 hcz40_4 hcz40_5 hcz40_6 hcz40_7 hcz40_8 hfz40_0 hfz40_1 hfz40_2 hfz40_3 hfz40_4 hfz40_5 hfz40_6 hfz40_7 hfz40_8
      try clear hcz42_0 hcz42_1 hcz42_2 hfz42_0 hfz42_1 hfz42_2
      try clear hcz48_0 hcz48_1 hcz48_2 hfz48_0 hfz48_1 hfz48_2
      try clear hcz50_0 hcz50_1 hcz50_2 hfz50_0 hfz50_1 hfz50_2
      try clear hcz53_0 hcz53_1 hcz53_2 hcz53_3 hcz53_4 hcz53_5 hcz53_6 hcz53_7 hcz53_8 hfz53_0 hfz53_1 hfz53_2 hfz53_3 hfz53_4 hfz53_5 hfz53_6 hfz53_7 hfz53_8
      try clear hcz55_0 hcz55_1 hcz55_2 hfz55_0 hfz55_1 hfz55_2
      try clear hcz61_0 hcz61_1 hcz61_2 hfz61_0 hfz61_1 hfz61_2
      try clear hcz63_0 hcz63_1 hcz63_2 hfz63_0 hfz63_1 hfz63_2
      try clear hcz66_0 hcz66_1 hcz66_2 hcz66_3 hcz66_4 hcz66_5 hcz66_6 hcz66_7 hcz66_8 hfz66_0 hfz66_1 hfz66_2 hfz66_3 hfz66_4 hfz66_5 hfz66_6 hfz66_7 hfz66_8
      try clear hcz67_0 hcz67_1 hcz67_2 hfz67_0 hfz67_1 hfz67_2
      try clear hcz80_0 hcz80_1 hcz80_2 hfz80_0 hfz80_1 hfz80_2
      try clear hcz82_0 hcz82_1 hcz82_2 hfz82_0 hfz82_1 hfz82_2
      try clear hcz85_0 hcz85_1 hcz85_2 hcz85_3 hcz85_4 hcz85_5 hcz85_6 hcz85_7 hcz85_8 hfz85_0 hfz85_1 hfz85_2 hfz85_3 hfz85_4 hfz85_5 hfz85_6 hfz85_7 hfz85_8
      try clear hcz86_0 hcz86_1 hcz86_2 hfz86_0 hfz86_1 hfz86_2
      try clear hcz88_0 hcz88_1 hcz88_2 hcz88_3 hcz88_4 hcz88_5 hcz88_6 hcz88_7 hcz88_8 hfz88_0 hfz88_1 hfz88_2 hfz88_3 hfz88_4 hfz88_5 hfz88_6 hfz88_7 hfz88_8
      try clear hcz89_0 hcz89_1 hcz89_2 hfz89_0 hfz89_1 hfz89_2
      try clear hcz91_0 hcz91_1 hcz91_2 hcz91_3 hcz91_4 hcz91_5 hcz91_6 hcz91_7 hcz91_8 hfz91_0 hfz91_1 hfz91_2 hfz91_3 hfz91_4 hfz91_5 hfz91_6 hfz91_7 hfz91_8
      try clear hcz92_0 hcz92_1 hcz92_2 hfz92_0 hfz92_1 hfz92_2
      try clear hcz94_0 hcz94_1 hcz94_2 hfz94_0 hfz94_1 hfz94_2
      obtain ⟨kq, x59_140, rfl, HA, HJ140, BK321, BK322, BK323, HB⟩ := hcut
      cases kq with
      | zero => exact absurd HA.out (by simp [impl_OutShape.j0])
      | succ kj140 =>
       have H := HA.out
       clear HA
       simp only [impl_OutShape.j0] at H
       by_cases c154 : x59_140 = true
       ·subst c154
        rw [if_pos rfl] at H
        replace H := Option.bind_eq_some_iff.mp H
        obtain ⟨t333, A1550, H⟩ := H
        (try dsimp only at H)
        have A155 := Aside0.mk A1550
        clear A1550
        by_cases c156 : t333 = true
        ·subst c156
         rw [if_pos rfl] at H
         replace H := Option.bind_eq_some_iff.mp H
         obtain ⟨t334, A1570, H⟩ := H
         (try dsimp only at H)
         have A157 := Aside0.mk A1570
         clear A1570
         by_cases c158 : t334 = true
         ·subst c158
          rw [if_pos rfl] at H
          by_cases c159 : a1_6 = 0
          ·rw [if_pos c159] at H
           have c159b0 : (a1_6 == 0) = true := beq_iff_eq.mpr c159
           have c159b1 : (a1_6 != 0) = false := bne_eq_false_iff_eq.mpr c159
           clear c159
           replace H := Option.bind_eq_some_iff.mp H
           obtain ⟨⟨t335, t336, t337⟩, A1600, H⟩ := H
           (try dsimp only at H)
           have A160 := Aside0.mk A1600
           clear A1600
           simp only [Option.some.injEq, Prod.mk.injEq] at H
           obtain ⟨rfl, rfl, rfl, rfl⟩ := H
           have hnb161 := NB322_321.out
           have hnc161 := NB321_322.out
           have hnb162 := NB322_323.out
           have hnc162 := NB323_322.out
           obtain ⟨hcz163_0, hcz163_1, hcz163_2, hcz163_3, hcz163_4, hcz163_5, hcz163_6, hcz163_7, hcz163_8, hfz163_0, hfz163_1, hfz163_2, hfz163_3, hfz163_4, hfz163_5, hfz163_6, hfz163_7, hfz163_8⟩ := cells9 BK322.out
           have hnb164 := NB321_323.out
           have hnc164 := NB323_321.out
           obtain ⟨hcz165_0, hcz165_1, hcz165_2, hfz165_0, hfz165_1, hfz165_2⟩ := cells3 BK321.out
           go_wp2_with (first | ((with_reducible refine gate_callee (f := 118) rfl ?_); refine goesM (some 64) rfl rfl Try.func118 (by kernel_rfl) rfl #[.agg #[.int .i64 a1_0, .int .i64 a1_1, .int .i64 a1_2, .int .i64 a1_3, .int .i64 a1_4, .int .i64 a1_5, .int .i64 a1_6, .slice A1_7 l1_7.length c1_7, .slice A1_8 l1_8.length c1_8], .agg #[.int .i64 a0_0, .int .i64 a0_1, .int .i64 a0_2]] rfl ?_; (with_reducible refine (impl_Layer_isWindow.calls a1_0 a1_1 a1_2 a1_3 a1_4 a1_5 a1_6 _ _ l1_7 _ _ l1_8 a0_0 a0_1 a0_2 true _ ?side1 ?side2 ?side3 ?side4 A155.out).mono ?_); (case side1 => exact C_now HR1_7.out); (case side2 => exact HC1_7.out); (case side3 => exact C_now HR1_8.out); (case side4 => exact HC1_8.out); rintro e w166 ⟨rfl, hb⟩; refine ⟨_, rfl, ?_⟩; replace HB := bel_on w hb; replace BK321 := blk_on gb321 hb; replace BK322 := blk_on gb322 hb; replace BK323 := blk_on gb323 hb; (try clear hb); obtain ⟨hcz167_0, hcz167_1, hcz167_2, hcz167_3, hcz167_4, hcz167_5, hcz167_6, hcz167_7, hcz167_8, hfz167_0, hfz167_1, hfz167_2, hfz167_3, hfz167_4, hfz167_5, hfz167_6, hfz167_7, hfz167_8⟩ := cells9 BK322.out) | (go_at_call 120; (with_reducible refine (impl_Layer_isBare.calls a1_0 a1_1 a1_2 a1_3 a1_4 a1_5 a1_6 _ _ l1_7 _ _ l1_8 true _ ?side1 ?side2 ?side3 ?side4 A157.out).mono ?_); (case side1 => exact C_now HR1_7.out); (case side2 => exact HC1_7.out); (case side3 => exact C_now HR1_8.out); (case side4 => exact HC1_8.out); rintro e w168 ⟨rfl, hb⟩; replace HB := bel_on w hb; replace BK321 := blk_on gb321 hb; replace BK322 := blk_on gb322 hb; replace BK323 := blk_on gb323 hb; (try clear hb); obtain ⟨hcz169_0, hcz169_1, hcz169_2, hcz169_3, hcz169_4, hcz169_5, hcz169_6, hcz169_7, hcz169_8, hfz169_0, hfz169_1, hfz169_2, hfz169_3, hfz169_4, hfz169_5, hfz169_6, hfz169_7, hfz169_8⟩ := cells9 BK322.out; obtain ⟨hcz170_0, hcz170_1, hcz170_2, hfz170_0, hfz170_1, hfz170_2⟩ := cells3 BK321.out) | ((with_reducible refine gate_callee (f := 119) rfl ?_); refine goesM (some 78) rfl rfl Try.func119 (by kernel_rfl) rfl #[.agg #[.int .i64 a1_0, .int .i64 a1_1, .int .i64 a1_2, .int .i64 a1_3, .int .i64 a1_4, .int .i64 a1_5, .int .i64 a1_6, .slice A1_7 l1_7.length c1_7, .slice A1_8 l1_8.length c1_8], .agg #[.int .i64 a0_0, .int .i64 a0_1, .int .i64 a0_2], .int .i64 a0_2] rfl ?_; (with_reducible refine (impl_Layer_windows.calls a1_0 a1_1 a1_2 a1_3 a1_4 a1_5 a1_6 _ _ l1_7 _ _ l1_8 a0_0 a0_1 a0_2 a0_2 t335 t336 t337 _ ?side1 ?side2 ?side3 ?side4 A160.out).mono ?_); (case side1 => exact C_now HR1_7.out); (case side2 => exact HC1_7.out); (case side3 => exact C_now HR1_8.out); (case side4 => exact HC1_8.out); rintro e w171 ⟨rfl, hb⟩; refine ⟨_, rfl, ?_⟩; replace HB := bel_on w hb; replace BK321 := blk_on gb321 hb; replace BK322 := blk_on gb322 hb; replace BK323 := blk_on gb323 hb; (try clear hb); obtain ⟨hcz172_0, hcz172_1, hcz172_2, hfz172_0, hfz172_1, hfz172_2⟩ := cells3 BK323.out))
           refine bodyPost_ret (results_ct rfl _ _ gb323 25 #[.int .i64 t335, .int .i64 t336, .int .i64 t337] (0, 0) _ rfl (blk_fars (puts3 BK323.out)) Try.underlying25 rfl (by kernel_rfl)) rfl ?_
           exact ⟨eqN, bel_now⟩
          ·rw [if_neg c159] at H
           have c159b0 : (a1_6 == 0) = false := beq_eq_false_iff_ne.mpr c159
           have c159b1 : (a1_6 != 0) = true := bne_iff_ne.mpr c159
           simp only [Option.some.injEq, Prod.mk.injEq] at H
           obtain ⟨rfl, rfl, rfl, rfl⟩ := H
           have hnb173 := NB322_321.out
           have hnc173 := NB321_322.out
           have hnb174 := NB322_323.out
           have hnc174 := NB323_322.out
           obtain ⟨hcz175_0, hcz175_1, hcz175_2, hcz175_3, hcz175_4, hcz175_5, hcz175_6, hcz175_7, hcz175_8, hfz175_0, hfz175_1, hfz175_2, hfz175_3, hfz175_4, hfz175_5, hfz175_6, hfz175_7, hfz175_8⟩ := cells9 BK322.out
           have hnb176 := NB321_323.out
           have hnc176 := NB323_321.out
           obtain ⟨hcz177_0, hcz177_1, hcz177_2, hfz177_0, hfz177_1, hfz177_2⟩ := cells3 BK321.out
           go_wp2_with (first | ((with_reducible refine gate_callee (f := 118) rfl ?_); refine goesM (some 64) rfl rfl Try.func118 (by kernel_rfl) rfl #[.agg #[.int .i64 a1_0, .int .i64 a1_1, .int .i64 a1_2, .int .i64 a1_3, .int .i64 a1_4, .int .i64 a1_5, .int .i64 a1_6, .slice A1_7 l1_7.length c1_7, .slice A1_8 l1_8.length c1_8], .agg #[.int .i64 a0_0, .int .i64 a0_1, .int .i64 a0_2]] rfl ?_; (with_reducible refine (impl_Layer_isWindow.calls a1_0 a1_1 a1_2 a1_3 a1_4 a1_5 a1_6 _ _ l1_7 _ _ l1_8 a0_0 a0_1 a0_2 true _ ?side1 ?side2 ?side3 ?side4 A155.out).mono ?_); (case side1 => exact C_now HR1_7.out); (case side2 => exact HC1_7.out); (case side3 => exact C_now HR1_8.out); (case side4 => exact HC1_8.out); rintro e w178 ⟨rfl, hb⟩; refine ⟨_, rfl, ?_⟩; replace HB := bel_on w hb; replace BK321 := blk_on gb321 hb; replace BK322 := blk_on gb322 hb; replace BK323 := blk_on gb323 hb; (try clear hb); obtain ⟨hcz179_0, hcz179_1, hcz179_2, hcz179_3, hcz179_4, hcz179_5, hcz179_6, hcz179_7, hcz179_8, hfz179_0, hfz179_1, hfz179_2, hfz179_3, hfz179_4, hfz179_5, hfz179_6, hfz179_7, hfz179_8⟩ := cells9 BK322.out) | (go_at_call 120; (with_reducible refine (impl_Layer_isBare.calls a1_0 a1_1 a1_2 a1_3 a1_4 a1_5 a1_6 _ _ l1_7 _ _ l1_8 true _ ?side1 ?side2 ?side3 ?side4 A157.out).mono ?_); (case side1 => exact C_now HR1_7.out); (case side2 => exact HC1_7.out); (case side3 => exact C_now HR1_8.out); (case side4 => exact HC1_8.out); rintro e w180 ⟨rfl, hb⟩; replace HB := bel_on w hb; replace BK321 := blk_on gb321 hb; replace BK322 := blk_on gb322 hb; replace BK323 := blk_on gb323 hb; (try clear hb); obtain ⟨hcz181_0, hcz181_1, hcz181_2, hcz181_3, hcz181_4, hcz181_5, hcz181_6, hcz181_7, hcz181_8, hfz181_0, hfz181_1, hfz181_2, hfz181_3, hfz181_4, hfz181_5, hfz181_6, hfz181_7, hfz181_8⟩ := cells9 BK322.out; obtain ⟨hcz182_0, hcz182_1, hcz182_2, hfz182_0, hfz182_1, hfz182_2⟩ := cells3 BK323.out))
           refine bodyPost_ret (results_ct rfl _ _ gb323 25 #[.int .i64 0, .int .i64 0, .int .i64 0] (0, 0) _ rfl (blk_fars (puts3 BK323.out)) Try.underlying25 rfl (by kernel_rfl)) rfl ?_
           exact ⟨eqN, bel_now⟩
         ·replace c158 := Bool.eq_false_iff.mpr c158
          subst c158
          rw [if_neg (show ¬ (false = true) by decide)] at H
          simp only [Option.some.injEq, Prod.mk.injEq] at H
          obtain ⟨rfl, rfl, rfl, rfl⟩ := H
          have hnb183 := NB322_321.out
          have hnc183 := NB321_322.out
          have hnb184 := NB322_323.out
          have hnc184 := NB323_322.out
          obtain ⟨hcz185_0, hcz185_1, hcz185_2, hcz185_3, hcz185_4, hcz185_5, hcz185_6, hcz185_7, hcz185_8, hfz185_0, hfz185_1, hfz185_2, hfz185_3, hfz185_4, hfz185_5, hfz185_6, hfz185_7, hfz185_8⟩ := cells9 BK322.out
          have hnb186 := NB321_323.out
          have hnc186 := NB323_321.out
          obtain ⟨hcz187_0, hcz187_1, hcz187_2, hfz187_0, hfz187_1, hfz187_2⟩ := cells3 BK321.out
          go_wp2_with (first | ((with_reducible refine gate_callee (f := 118) rfl ?_); refine goesM (some 64) rfl rfl Try.func118 (by kernel_rfl) rfl #[.agg #[.int .i64 a1_0, .int .i64 a1_1, .int .i64 a1_2, .int .i64 a1_3, .int .i64 a1_4, .int .i64 a1_5, .int .i64 a1_6, .slice A1_7 l1_7.length c1_7, .slice A1_8 l1_8.length c1_8], .agg #[.int .i64 a0_0, .int .i64 a0_1, .int .i64 a0_2]] rfl ?_; (with_reducible refine (impl_Layer_isWindow.calls a1_0 a1_1 a1_2 a1_3 a1_4 a1_5 a1_6 _ _ l1_7 _ _ l1_8 a0_0 a0_1 a0_2 true _ ?side1 ?side2 ?side3 ?side4 A155.out).mono ?_); (case side1 => exact C_now HR1_7.out); (case side2 => exact HC1_7.out); (case side3 => exact C_now HR1_8.out); (case side4 => exact HC1_8.out); rintro e w188 ⟨rfl, hb⟩; refine ⟨_, rfl, ?_⟩; replace HB := bel_on w hb; replace BK321 := blk_on gb321 hb; replace BK322 := blk_on gb322 hb; replace BK323 := blk_on gb323 hb; (try clear hb); obtain ⟨hcz189_0, hcz189_1, hcz189_2, hcz189_3, hcz189_4, hcz189_5, hcz189_6, hcz189_7, hcz189_8, hfz189_0, hfz189_1, hfz189_2, hfz189_3, hfz189_4, hfz189_5, hfz189_6, hfz189_7, hfz189_8⟩ := cells9 BK322.out) | (go_at_call 120; (with_reducible refine (impl_Layer_isBare.calls a1_0 a1_1 a1_2 a1_3 a1_4 a1_5 a1_6 _ _ l1_7 _ _ l1_8 false _ ?side1 ?side2 ?side3 ?side4 A157.out).mono ?_); (case side1 => exact C_now HR1_7.out); (case side2 => exact HC1_7.out); (case side3 => exact C_now HR1_8.out); (case side4 => exact HC1_8.out); rintro e w190 ⟨rfl, hb⟩; replace HB := bel_on w hb; replace BK321 := blk_on gb321 hb; replace BK322 := blk_on gb322 hb; replace BK323 := blk_on gb323 hb; (try clear hb); obtain ⟨hcz191_0, hcz191_1, hcz191_2, hfz191_0, hfz191_1, hfz191_2⟩ := cells3 BK323.out))
          refine bodyPost_ret (results_ct rfl _ _ gb323 25 #[.int .i64 0, .int .i64 0, .int .i64 0] (0, 0) _ rfl (blk_fars (puts3 BK323.out)) Try.underlying25 rfl (by kernel_rfl)) rfl ?_
          exact ⟨eqN, bel_now⟩
        ·replace c156 := Bool.eq_false_iff.mpr c156
         subst c156
         rw [if_neg (show ¬ (false = true) by decide)] at H
         simp only [Option.some.injEq, Prod.mk.injEq] at H
         obtain ⟨rfl, rfl, rfl, rfl⟩ := H
         have hnb192 := NB322_321.out
         have hnc192 := NB321_322.out
         have hnb193 := NB322_323.out
         have hnc193 := NB323_322.out
         obtain ⟨hcz194_0, hcz194_1, hcz194_2, hcz194_3, hcz194_4, hcz194_5, hcz194_6, hcz194_7, hcz194_8, hfz194_0, hfz194_1, hfz194_2, hfz194_3, hfz194_4, hfz194_5, hfz194_6, hfz194_7, hfz194_8⟩ := cells9 BK322.out
         have hnb195 := NB321_323.out
         have hnc195 := NB323_321.out
         obtain ⟨hcz196_0, hcz196_1, hcz196_2, hfz196_0, hfz196_1, hfz196_2⟩ := cells3 BK321.out
         go_wp2_with (first | ((with_reducible refine gate_callee (f := 118) rfl ?_); refine goesM (some 64) rfl rfl Try.func118 (by kernel_rfl) rfl #[.agg #[.int .i64 a1_0, .int .i64 a1_1, .int .i64 a1_2, .int .i64 a1_3, .int .i64 a1_4, .int .i64 a1_5, .int .i64 a1_6, .slice A1_7 l1_7.length c1_7, .slice A1_8 l1_8.length c1_8], .agg #[.int .i64 a0_0, .int .i64 a0_1, .int .i64 a0_2]] rfl ?_; (with_reducible refine (impl_Layer_isWindow.calls a1_0 a1_1 a1_2 a1_3 a1_4 a1_5 a1_6 _ _ l1_7 _ _ l1_8 a0_0 a0_1 a0_2 false _ ?side1 ?side2 ?side3 ?side4 A155.out).mono ?_); (case side1 => exact C_now HR1_7.out); (case side2 => exact HC1_7.out); (case side3 => exact C_now HR1_8.out); (case side4 => exact HC1_8.out); rintro e w197 ⟨rfl, hb⟩; refine ⟨_, rfl, ?_⟩; replace HB := bel_on w hb; replace BK321 := blk_on gb321 hb; replace BK322 := blk_on gb322 hb; replace BK323 := blk_on gb323 hb; (try clear hb); obtain ⟨hcz198_0, hcz198_1, hcz198_2, hfz198_0, hfz198_1, hfz198_2⟩ := cells3 BK323.out))
         refine bodyPost_ret (results_ct rfl _ _ gb323 25 #[.int .i64 0, .int .i64 0, .int .i64 0] (0, 0) _ rfl (blk_fars (puts3 BK323.out)) Try.underlying25 rfl (by kernel_rfl)) rfl ?_
         exact ⟨eqN, bel_now⟩
       ·replace c154 := Bool.eq_false_iff.mpr c154
        subst c154
        rw [if_neg (show ¬ (false = true) by decide)] at H
        by_cases c199 : a1_0 = 4
        ·rw [if_pos c199] at H
         have c199b0 : (a1_0 == 4) = true := beq_iff_eq.mpr c199
         have c199b1 : (a1_0 != 4) = false := bne_eq_false_iff_eq.mpr c199
         clear c199
         replace H := Option.bind_eq_some_iff.mp H
         obtain ⟨t338, A2000, H⟩ := H
         (try dsimp only at H)
         have A200 := Aside0.mk A2000
         clear A2000
         by_cases c201 : t338 = true
         ·subst c201
          rw [if_pos rfl] at H
          replace H := Option.bind_eq_some_iff.mp H
          obtain ⟨t339, A2020, H⟩ := H
          (try dsimp only at H)
          have A202 := Aside0.mk A2020
          clear A2020
          by_cases c203 : t339 = true
          ·subst c203
           rw [if_pos rfl] at H
           replace H := Option.bind_eq_some_iff.mp H
           obtain ⟨t340, A2040, H⟩ := H
           (try dsimp only at H)
           have A204 := Aside0.mk A2040
           clear A2040
           by_cases c205 : t340 = true
           ·subst c205
            rw [if_pos rfl] at H
            simp only [Option.some.injEq, Prod.mk.injEq] at H
            obtain ⟨rfl, rfl, rfl, rfl⟩ := H
            have hnb206 := NB322_321.out
            have hnc206 := NB321_322.out
            have hnb207 := NB322_323.out
            have hnc207 := NB323_322.out
            obtain ⟨hcz208_0, hcz208_1, hcz208_2, hcz208_3, hcz208_4, hcz208_5, hcz208_6, hcz208_7, hcz208_8, hfz208_0, hfz208_1, hfz208_2, hfz208_3, hfz208_4, hfz208_5, hfz208_6, hfz208_7, hfz208_8⟩ := cells9 BK322.out
            go_wp2_with (first | ((with_reducible refine gate_callee (f := 116) rfl ?_); refine goesM (some 82) rfl rfl Try.func116 (by kernel_rfl) rfl #[.agg #[.int .i64 a1_0, .int .i64 a1_1, .int .i64 a1_2, .int .i64 a1_3, .int .i64 a1_4, .int .i64 a1_5, .int .i64 a1_6, .slice A1_7 l1_7.length c1_7, .slice A1_8 l1_8.length c1_8]] rfl ?_; (with_reducible refine (impl_Layer_hasNone.calls a1_0 a1_1 a1_2 a1_3 a1_4 a1_5 a1_6 _ _ l1_7 _ _ l1_8 true _ ?side1 ?side2 ?side3 ?side4 A200.out).mono ?_); (case side1 => exact C_now HR1_7.out); (case side2 => exact HC1_7.out); (case side3 => exact C_now HR1_8.out); (case side4 => exact HC1_8.out); rintro e w209 ⟨rfl, hb⟩; refine ⟨_, rfl, ?_⟩; replace HB := bel_on w hb; replace BK321 := blk_on gb321 hb; replace BK322 := blk_on gb322 hb; replace BK323 := blk_on gb323 hb; (try clear hb); obtain ⟨hcz210_0, hcz210_1, hcz210_2, hcz210_3, hcz210_4, hcz210_5, hcz210_6, hcz210_7, hcz210_8, hfz210_0, hfz210_1, hfz210_2, hfz210_3, hfz210_4, hfz210_5, hfz210_6, hfz210_7, hfz210_8⟩ := cells9 BK322.out) | (go_at_call 120; (with_reducible refine (impl_Layer_isBare.calls a1_0 a1_1 a1_2 a1_3 a1_4 a1_5 a1_6 _ _ l1_7 _ _ l1_8 true _ ?side1 ?side2 ?side3 ?side4 A202.out).mono ?_); (case side1 => exact C_now HR1_7.out); (case side2 => exact HC1_7.out); (case side3 => exact C_now HR1_8.out); (case side4 => exact HC1_8.out); rintro e w211 ⟨rfl, hb⟩; replace HB := bel_on w hb; replace BK321 := blk_on gb321 hb; replace BK322 := blk_on gb322 hb; replace BK323 := blk_on gb323 hb; (try clear hb); obtain ⟨hcz212_0, hcz212_1, hcz212_2, hcz212_3, hcz212_4, hcz212_5, hcz212_6, hcz212_7, hcz212_8, hfz212_0, hfz212_1, hfz212_2, hfz212_3, hfz212_4, hfz212_5, hfz212_6, hfz212_7, hfz212_8⟩ := cells9 BK322.out) | (go_at_call 82; (with_reducible refine (impl_in.calls a1_6 (-128) 127 true _ A204.out).mono ?_); rintro e w' ⟨rfl, ⟨nd, rfl⟩⟩; (try (rw [drewN_self w211]; generalize hq_ : World.drewN w211 _ = w211; have n0_ : Aside0 (w211.heap[gb321]? = some (.cells #[.int .i64 a0_0, .int .i64 a0_1, .int .i64 a0_2] 25 (0, 0))) := ⟨by rw [← hq_]; exact blk_now⟩; have n1_ : Aside0 (w211.heap[gb322]? = some (.cells #[.int .i64 a1_0, .int .i64 a1_1, .int .i64 a1_2, .int .i64 a1_3, .int .i64 a1_4, .int .i64 a1_5, .int .i64 a1_6, .slice A1_7 l1_7.length c1_7, .slice A1_8 l1_8.length c1_8] 73 (0, 0))) := ⟨by rw [← hq_]; exact blk_now⟩; have n2_ : Aside0 (w211.heap[gb323]? = some (.cells #[.int .i64 0, .int .i64 0, .int .i64 0] 25 (0, 0))) := ⟨by rw [← hq_]; exact blk_now⟩; have n3_ : Aside0 (Below w.heap.size w w211) := ⟨by rw [← hq_]; exact bel_now⟩; clear BK321 BK322 BK323 HB hq_; have BK321 := n0_; have BK322 := n1_; have BK323 := n2_; have HB := n3_; clear n0_ n1_ n2_ n3_; (try obtain ⟨hcuBK322_0, hcuBK322_1, hcuBK322_2, hcuBK322_3, hcuBK322_4, hcuBK322_5, hcuBK322_6, hcuBK322_7, hcuBK322_8, hcuBK322_9, hcuBK322_10, hcuBK322_11, hcuBK322_12, hcuBK322_13, hcuBK322_14, hcuBK322_15, hcuBK322_16, hcuBK322_17⟩ := cells9 BK322.out))); have hnb213 := NB321_323.out; have hnc213 := NB323_321.out; obtain ⟨hcz214_0, hcz214_1, hcz214_2, hfz214_0, hfz214_1, hfz214_2⟩ := cells3 BK321.out; obtain ⟨hcz215_0, hcz215_1, hcz215_2, hfz215_0, hfz215_1, hfz215_2⟩ := cells3 BK323.out))
            refine bodyPost_ret (results_ct rfl _ _ gb323 25 #[.int .i64 a0_0, .int .i64 a0_1, .int .i64 a0_2] (0, 0) _ rfl (blk_fars (puts3 BK323.out)) Try.underlying25 rfl (by kernel_rfl)) rfl ?_
            exact ⟨eqN, bel_now⟩
           ·replace c205 := Bool.eq_false_iff.mpr c205
            subst c205
            rw [if_neg (show ¬ (false = true) by decide)] at H
            simp only [Option.some.injEq, Prod.mk.injEq] at H
            obtain ⟨rfl, rfl, rfl, rfl⟩ := H
            have hnb216 := NB322_321.out
            have hnc216 := NB321_322.out
            have hnb217 := NB322_323.out
            have hnc217 := NB323_322.out
            obtain ⟨hcz218_0, hcz218_1, hcz218_2, hcz218_3, hcz218_4, hcz218_5, hcz218_6, hcz218_7, hcz218_8, hfz218_0, hfz218_1, hfz218_2, hfz218_3, hfz218_4, hfz218_5, hfz218_6, hfz218_7, hfz218_8⟩ := cells9 BK322.out
            go_wp2_with (first | ((with_reducible refine gate_callee (f := 116) rfl ?_); refine goesM (some 82) rfl rfl Try.func116 (by kernel_rfl) rfl #[.agg #[.int .i64 a1_0, .int .i64 a1_1, .int .i64 a1_2, .int .i64 a1_3, .int .i64 a1_4, .int .i64 a1_5, .int .i64 a1_6, .slice A1_7 l1_7.length c1_7, .slice A1_8 l1_8.length c1_8]] rfl ?_; (with_reducible refine (impl_Layer_hasNone.calls a1_0 a1_1 a1_2 a1_3 a1_4 a1_5 a1_6 _ _ l1_7 _ _ l1_8 true _ ?side1 ?side2 ?side3 ?side4 A200.out).mono ?_); (case side1 => exact C_now HR1_7.out); (case side2 => exact HC1_7.out); (case side3 => exact C_now HR1_8.out); (case side4 => exact HC1_8.out); rintro e w219 ⟨rfl, hb⟩; refine ⟨_, rfl, ?_⟩; replace HB := bel_on w hb; replace BK321 := blk_on gb321 hb; replace BK322 := blk_on gb322 hb; replace BK323 := blk_on gb323 hb; (try clear hb); obtain ⟨hcz220_0, hcz220_1, hcz220_2, hcz220_3, hcz220_4, hcz220_5, hcz220_6, hcz220_7, hcz220_8, hfz220_0, hfz220_1, hfz220_2, hfz220_3, hfz220_4, hfz220_5, hfz220_6, hfz220_7, hfz220_8⟩ := cells9 BK322.out) | (go_at_call 120; (with_reducible refine (impl_Layer_isBare.calls a1_0 a1_1 a1_2 a1_3 a1_4 a1_5 a1_6 _ _ l1_7 _ _ l1_8 true _ ?side1 ?side2 ?side3 ?side4 A202.out).mono ?_); (case side1 => exact C_now HR1_7.out); (case side2 => exact HC1_7.out); (case side3 => exact C_now HR1_8.out); (case side4 => exact HC1_8.out); rintro e w221 ⟨rfl, hb⟩; replace HB := bel_on w hb; replace BK321 := blk_on gb321 hb; replace BK322 := blk_on gb322 hb; replace BK323 := blk_on gb323 hb; (try clear hb); obtain ⟨hcz222_0, hcz222_1, hcz222_2, hcz222_3, hcz222_4, hcz222_5, hcz222_6, hcz222_7, hcz222_8, hfz222_0, hfz222_1, hfz222_2, hfz222_3, hfz222_4, hfz222_5, hfz222_6, hfz222_7, hfz222_8⟩ := cells9 BK322.out) | (go_at_call 82; (with_reducible refine (impl_in.calls a1_6 (-128) 127 false _ A204.out).mono ?_); rintro e w' ⟨rfl, ⟨nd, rfl⟩⟩; (try (rw [drewN_self w221]; generalize hq_ : World.drewN w221 _ = w221; have n0_ : Aside0 (w221.heap[gb321]? = some (.cells #[.int .i64 a0_0, .int .i64 a0_1, .int .i64 a0_2] 25 (0, 0))) := ⟨by rw [← hq_]; exact blk_now⟩; have n1_ : Aside0 (w221.heap[gb322]? = some (.cells #[.int .i64 a1_0, .int .i64 a1_1, .int .i64 a1_2, .int .i64 a1_3, .int .i64 a1_4, .int .i64 a1_5, .int .i64 a1_6, .slice A1_7 l1_7.length c1_7, .slice A1_8 l1_8.length c1_8] 73 (0, 0))) := ⟨by rw [← hq_]; exact blk_now⟩; have n2_ : Aside0 (w221.heap[gb323]? = some (.cells #[.int .i64 0, .int .i64 0, .int .i64 0] 25 (0, 0))) := ⟨by rw [← hq_]; exact blk_now⟩; have n3_ : Aside0 (Below w.heap.size w w221) := ⟨by rw [← hq_]; exact bel_now⟩; clear BK321 BK322 BK323 HB hq_; have BK321 := n0_; have BK322 := n1_; have BK323 := n2_; have HB := n3_; clear n0_ n1_ n2_ n3_; (try obtain ⟨hcuBK322_0, hcuBK322_1, hcuBK322_2, hcuBK322_3, hcuBK322_4, hcuBK322_5, hcuBK322_6, hcuBK322_7, hcuBK322_8, hcuBK322_9, hcuBK322_10, hcuBK322_11, hcuBK322_12, hcuBK322_13, hcuBK322_14, hcuBK322_15, hcuBK322_16, hcuBK322_17⟩ := cells9 BK322.out))); have hnb223 := NB323_321.out; have hnc223 := NB321_323.out; obtain ⟨hcz224_0, hcz224_1, hcz224_2, hfz224_0, hfz224_1, hfz224_2⟩ := cells3 BK323.out))
            refine bodyPost_ret (results_ct rfl _ _ gb323 25 #[.int .i64 0, .int .i64 0, .int .i64 0] (0, 0) _ rfl (blk_fars (puts3 BK323.out)) Try.underlying25 rfl (by kernel_rfl)) rfl ?_
            exact ⟨eqN, bel_now⟩
          ·replace c203 := Bool.eq_false_iff.mpr c203
           subst c203
           rw [if_neg (show ¬ (false = true) by decide)] at H
           simp only [Option.some.injEq, Prod.mk.injEq] at H
           obtain ⟨rfl, rfl, rfl, rfl⟩ := H
           have hnb225 := NB322_321.out
           have hnc225 := NB321_322.out
           have hnb226 := NB322_323.out
           have hnc226 := NB323_322.out
           obtain ⟨hcz227_0, hcz227_1, hcz227_2, hcz227_3, hcz227_4, hcz227_5, hcz227_6, hcz227_7, hcz227_8, hfz227_0, hfz227_1, hfz227_2, hfz227_3, hfz227_4, hfz227_5, hfz227_6, hfz227_7, hfz227_8⟩ := cells9 BK322.out
           go_wp2_with (first | ((with_reducible refine gate_callee (f := 116) rfl ?_); refine goesM (some 82) rfl rfl Try.func116 (by kernel_rfl) rfl #[.agg #[.int .i64 a1_0, .int .i64 a1_1, .int .i64 a1_2, .int .i64 a1_3, .int .i64 a1_4, .int .i64 a1_5, .int .i64 a1_6, .slice A1_7 l1_7.length c1_7, .slice A1_8 l1_8.length c1_8]] rfl ?_; (with_reducible refine (impl_Layer_hasNone.calls a1_0 a1_1 a1_2 a1_3 a1_4 a1_5 a1_6 _ _ l1_7 _ _ l1_8 true _ ?side1 ?side2 ?side3 ?side4 A200.out).mono ?_); (case side1 => exact C_now HR1_7.out); (case side2 => exact HC1_7.out); (case side3 => exact C_now HR1_8.out); (case side4 => exact HC1_8.out); rintro e w228 ⟨rfl, hb⟩; refine ⟨_, rfl, ?_⟩; replace HB := bel_on w hb; replace BK321 := blk_on gb321 hb; replace BK322 := blk_on gb322 hb; replace BK323 := blk_on gb323 hb; (try clear hb); obtain ⟨hcz229_0, hcz229_1, hcz229_2, hcz229_3, hcz229_4, hcz229_5, hcz229_6, hcz229_7, hcz229_8, hfz229_0, hfz229_1, hfz229_2, hfz229_3, hfz229_4, hfz229_5, hfz229_6, hfz229_7, hfz229_8⟩ := cells9 BK322.out) | (go_at_call 120; (with_reducible refine (impl_Layer_isBare.calls a1_0 a1_1 a1_2 a1_3 a1_4 a1_5 a1_6 _ _ l1_7 _ _ l1_8 false _ ?side1 ?side2 ?side3 ?side4 A202.out).mono ?_); (case side1 => exact C_now HR1_7.out); (case side2 => exact HC1_7.out); (case side3 => exact C_now HR1_8.out); (case side4 => exact HC1_8.out); rintro e w230 ⟨rfl, hb⟩; replace HB := bel_on w hb; replace BK321 := blk_on gb321 hb; replace BK322 := blk_on gb322 hb; replace BK323 := blk_on gb323 hb; (try clear hb); have hnb231 := NB323_321.out; have hnc231 := NB321_323.out; obtain ⟨hcz232_0, hcz232_1, hcz232_2, hfz232_0, hfz232_1, hfz232_2⟩ := cells3 BK323.out))
           refine bodyPost_ret (results_ct rfl _ _ gb323 25 #[.int .i64 0, .int .i64 0, .int .i64 0] (0, 0) _ rfl (blk_fars (puts3 BK323.out)) Try.underlying25 rfl (by kernel_rfl)) rfl ?_
           exact ⟨eqN, bel_now⟩
         ·replace c201 := Bool.eq_false_iff.mpr c201
          subst c201
          rw [if_neg (show ¬ (false = true) by decide)] at H
          simp only [Option.some.injEq, Prod.mk.injEq] at H
          obtain ⟨rfl, rfl, rfl, rfl⟩ := H
          have hnb233 := NB322_321.out
          have hnc233 := NB321_322.out
          have hnb234 := NB322_323.out
          have hnc234 := NB323_322.out
          obtain ⟨hcz235_0, hcz235_1, hcz235_2, hcz235_3, hcz235_4, hcz235_5, hcz235_6, hcz235_7, hcz235_8, hfz235_0, hfz235_1, hfz235_2, hfz235_3, hfz235_4, hfz235_5, hfz235_6, hfz235_7, hfz235_8⟩ := cells9 BK322.out
          go_wp2_with (first | ((with_reducible refine gate_callee (f := 116) rfl ?_); refine goesM (some 82) rfl rfl Try.func116 (by kernel_rfl) rfl #[.agg #[.int .i64 a1_0, .int .i64 a1_1, .int .i64 a1_2, .int .i64 a1_3, .int .i64 a1_4, .int .i64 a1_5, .int .i64 a1_6, .slice A1_7 l1_7.length c1_7, .slice A1_8 l1_8.length c1_8]] rfl ?_; (with_reducible refine (impl_Layer_hasNone.calls a1_0 a1_1 a1_2 a1_3 a1_4 a1_5 a1_6 _ _ l1_7 _ _ l1_8 false _ ?side1 ?side2 ?side3 ?side4 A200.out).mono ?_); (case side1 => exact C_now HR1_7.out); (case side2 => exact HC1_7.out); (case side3 => exact C_now HR1_8.out); (case side4 => exact HC1_8.out); rintro e w236 ⟨rfl, hb⟩; refine ⟨_, rfl, ?_⟩; replace HB := bel_on w hb; replace BK321 := blk_on gb321 hb; replace BK322 := blk_on gb322 hb; replace BK323 := blk_on gb323 hb; (try clear hb); have hnb237 := NB323_321.out; have hnc237 := NB321_323.out; obtain ⟨hcz238_0, hcz238_1, hcz238_2, hfz238_0, hfz238_1, hfz238_2⟩ := cells3 BK323.out))
          refine bodyPost_ret (results_ct rfl _ _ gb323 25 #[.int .i64 0, .int .i64 0, .int .i64 0] (0, 0) _ rfl (blk_fars (puts3 BK323.out)) Try.underlying25 rfl (by kernel_rfl)) rfl ?_
          exact ⟨eqN, bel_now⟩
        ·rw [if_neg c199] at H
         have c199b0 : (a1_0 == 4) = false := beq_eq_false_iff_ne.mpr c199
         have c199b1 : (a1_0 != 4) = true := bne_iff_ne.mpr c199
         by_cases c239 : a1_0 = 5
         ·rw [if_pos c239] at H
          have c239b0 : (a1_0 == 5) = true := beq_iff_eq.mpr c239
          have c239b1 : (a1_0 != 5) = false := bne_eq_false_iff_eq.mpr c239
          clear c239
          replace H := Option.bind_eq_some_iff.mp H
          obtain ⟨t341, A2400, H⟩ := H
          (try dsimp only at H)
          have A240 := Aside0.mk A2400
          clear A2400
          by_cases c241 : t341 = true
          ·subst c241
           rw [if_pos rfl] at H
           replace H := Option.bind_eq_some_iff.mp H
           obtain ⟨t342, A2420, H⟩ := H
           (try dsimp only at H)
           have A242 := Aside0.mk A2420
           clear A2420
           by_cases c243 : t342 = true
           ·subst c243
            rw [if_pos rfl] at H
            by_cases c244 : a1_6 = 0
            ·rw [if_pos c244] at H
             have c244b0 : (a1_6 == 0) = true := beq_iff_eq.mpr c244
             have c244b1 : (a1_6 != 0) = false := bne_eq_false_iff_eq.mpr c244
             clear c244
             by_cases c245 : t325 ≤ 8
             ·rw [if_pos c245] at H
              have c245b0 : decide (t325 ≤ 8) = true := decide_eq_true c245
              clear c245
              simp only [Option.some.injEq, Prod.mk.injEq] at H
              obtain ⟨rfl, rfl, rfl, rfl⟩ := H
              have hnb246 := NB322_321.out
              have hnc246 := NB321_322.out
              have hnb247 := NB322_323.out
              have hnc247 := NB323_322.out
              obtain ⟨hcz248_0, hcz248_1, hcz248_2, hcz248_3, hcz248_4, hcz248_5, hcz248_6, hcz248_7, hcz248_8, hfz248_0, hfz248_1, hfz248_2, hfz248_3, hfz248_4, hfz248_5, hfz248_6, hfz248_7, hfz248_8⟩ := cells9 BK322.out
              go_wp2_with (first | ((with_reducible refine gate_callee (f := 116) rfl ?_); refine goesM (some 96) rfl rfl Try.func116 (by kernel_rfl) rfl #[.agg #[.int .i64 a1_0, .int .i64 a1_1, .int .i64 a1_2, .int .i64 a1_3, .int .i64 a1_4, .int .i64 a1_5, .int .i64 a1_6, .slice A1_7 l1_7.length c1_7, .slice A1_8 l1_8.length c1_8]] rfl ?_; (with_reducible refine (impl_Layer_hasNone.calls a1_0 a1_1 a1_2 a1_3 a1_4 a1_5 a1_6 _ _ l1_7 _ _ l1_8 true _ ?side1 ?side2 ?side3 ?side4 A240.out).mono ?_); (case side1 => exact C_now HR1_7.out); (case side2 => exact HC1_7.out); (case side3 => exact C_now HR1_8.out); (case side4 => exact HC1_8.out); rintro e w249 ⟨rfl, hb⟩; refine ⟨_, rfl, ?_⟩; replace HB := bel_on w hb; replace BK321 := blk_on gb321 hb; replace BK322 := blk_on gb322 hb; replace BK323 := blk_on gb323 hb; (try clear hb); obtain ⟨hcz250_0, hcz250_1, hcz250_2, hcz250_3, hcz250_4, hcz250_5, hcz250_6, hcz250_7, hcz250_8, hfz250_0, hfz250_1, hfz250_2, hfz250_3, hfz250_4, hfz250_5, hfz250_6, hfz250_7, hfz250_8⟩ := cells9 BK322.out) | (go_at_call 120; (with_reducible refine (impl_Layer_isBare.calls a1_0 a1_1 a1_2 a1_3 a1_4 a1_5 a1_6 _ _ l1_7 _ _ l1_8 true _ ?side1 ?side2 ?side3 ?side4 A242.out).mono ?_); (case side1 => exact C_now HR1_7.out); (case side2 => exact HC1_7.out); (case side3 => exact C_now HR1_8.out); (case side4 => exact HC1_8.out); rintro e w251 ⟨rfl, hb⟩; replace HB := bel_on w hb; replace BK321 := blk_on gb321 hb; replace BK322 := blk_on gb322 hb; replace BK323 := blk_on gb323 hb; (try clear hb); obtain ⟨hcz252_0, hcz252_1, hcz252_2, hcz252_3, hcz252_4, hcz252_5, hcz252_6, hcz252_7, hcz252_8, hfz252_0, hfz252_1, hfz252_2, hfz252_3, hfz252_4, hfz252_5, hfz252_6, hfz252_7, hfz252_8⟩ := cells9 BK322.out; have hnb253 := NB323_321.out; have hnc253 := NB321_323.out; obtain ⟨hcz254_0, hcz254_1, hcz254_2, hfz254_0, hfz254_1, hfz254_2⟩ := cells3 BK323.out))
              refine bodyPost_ret (results_ct rfl _ _ gb323 25 #[.int .i64 1, .int .i64 1, .int .i64 t325] (0, 0) _ rfl (blk_fars (puts3 BK323.out)) Try.underlying25 rfl (by kernel_rfl)) rfl ?_
              exact ⟨eqN, bel_now⟩
             ·rw [if_neg c245] at H
              have c245b0 : decide (t325 ≤ 8) = false := decide_eq_false c245
              clear c245
              simp only [Option.some.injEq, Prod.mk.injEq] at H
              obtain ⟨rfl, rfl, rfl, rfl⟩ := H
              have hnb255 := NB322_321.out
              have hnc255 := NB321_322.out
              have hnb256 := NB322_323.out
              have hnc256 := NB323_322.out
              obtain ⟨hcz257_0, hcz257_1, hcz257_2, hcz257_3, hcz257_4, hcz257_5, hcz257_6, hcz257_7, hcz257_8, hfz257_0, hfz257_1, hfz257_2, hfz257_3, hfz257_4, hfz257_5, hfz257_6, hfz257_7, hfz257_8⟩ := cells9 BK322.out
              go_wp2_with (first | ((with_reducible refine gate_callee (f := 116) rfl ?_); refine goesM (some 96) rfl rfl Try.func116 (by kernel_rfl) rfl #[.agg #[.int .i64 a1_0, .int .i64 a1_1, .int .i64 a1_2, .int .i64 a1_3, .int .i64 a1_4, .int .i64 a1_5, .int .i64 a1_6, .slice A1_7 l1_7.length c1_7, .slice A1_8 l1_8.length c1_8]] rfl ?_; (with_reducible refine (impl_Layer_hasNone.calls a1_0 a1_1 a1_2 a1_3 a1_4 a1_5 a1_6 _ _ l1_7 _ _ l1_8 true _ ?side1 ?side2 ?side3 ?side4 A240.out).mono ?_); (case side1 => exact C_now HR1_7.out); (case side2 => exact HC1_7.out); (case side3 => exact C_now HR1_8.out); (case side4 => exact HC1_8.out); rintro e w258 ⟨rfl, hb⟩; refine ⟨_, rfl, ?_⟩; replace HB := bel_on w hb; replace BK321 := blk_on gb321 hb; replace BK322 := blk_on gb322 hb; replace BK323 := blk_on gb323 hb; (try clear hb); obtain ⟨hcz259_0, hcz259_1, hcz259_2, hcz259_3, hcz259_4, hcz259_5, hcz259_6, hcz259_7, hcz259_8, hfz259_0, hfz259_1, hfz259_2, hfz259_3, hfz259_4, hfz259_5, hfz259_6, hfz259_7, hfz259_8⟩ := cells9 BK322.out) | (go_at_call 120; (with_reducible refine (impl_Layer_isBare.calls a1_0 a1_1 a1_2 a1_3 a1_4 a1_5 a1_6 _ _ l1_7 _ _ l1_8 true _ ?side1 ?side2 ?side3 ?side4 A242.out).mono ?_); (case side1 => exact C_now HR1_7.out); (case side2 => exact HC1_7.out); (case side3 => exact C_now HR1_8.out); (case side4 => exact HC1_8.out); rintro e w260 ⟨rfl, hb⟩; replace HB := bel_on w hb; replace BK321 := blk_on gb321 hb; replace BK322 := blk_on gb322 hb; replace BK323 := blk_on gb323 hb; (try clear hb); obtain ⟨hcz261_0, hcz261_1, hcz261_2, hcz261_3, hcz261_4, hcz261_5, hcz261_6, hcz261_7, hcz261_8, hfz261_0, hfz261_1, hfz261_2, hfz261_3, hfz261_4, hfz261_5, hfz261_6, hfz261_7, hfz261_8⟩ := cells9 BK322.out; have hnb262 := NB323_321.out; have hnc262 := NB321_323.out; obtain ⟨hcz263_0, hcz263_1, hcz263_2, hfz263_0, hfz263_1, hfz263_2⟩ := cells3 BK323.out))
              refine bodyPost_ret (results_ct rfl _ _ gb323 25 #[.int .i64 0, .int .i64 0, .int .i64 0] (0, 0) _ rfl (blk_fars (puts3 BK323.out)) Try.underlying25 rfl (by kernel_rfl)) rfl ?_
              exact ⟨eqN, bel_now⟩
            ·rw [if_neg c244] at H
             have c244b0 : (a1_6 == 0) = false := beq_eq_false_iff_ne.mpr c244
             have c244b1 : (a1_6 != 0) = true := bne_iff_ne.mpr c244
             simp only [Option.some.injEq, Prod.mk.injEq] at H
             obtain ⟨rfl, rfl, rfl, rfl⟩ := H
             have hnb264 := NB322_321.out
             have hnc264 := NB321_322.out
             have hnb265 := NB322_323.out
             have hnc265 := NB323_322.out
             obtain ⟨hcz266_0, hcz266_1, hcz266_2, hcz266_3, hcz266_4, hcz266_5, hcz266_6, hcz266_7, hcz266_8, hfz266_0, hfz266_1, hfz266_2, hfz266_3, hfz266_4, hfz266_5, hfz266_6, hfz266_7, hfz266_8⟩ := cells9 BK322.out
             go_wp2_with (first | ((with_reducible refine gate_callee (f := 116) rfl ?_); refine goesM (some 96) rfl rfl Try.func116 (by kernel_rfl) rfl #[.agg #[.int .i64 a1_0, .int .i64 a1_1, .int .i64 a1_2, .int .i64 a1_3, .int .i64 a1_4, .int .i64 a1_5, .int .i64 a1_6, .slice A1_7 l1_7.length c1_7, .slice A1_8 l1_8.length c1_8]] rfl ?_; (with_reducible refine (impl_Layer_hasNone.calls a1_0 a1_1 a1_2 a1_3 a1_4 a1_5 a1_6 _ _ l1_7 _ _ l1_8 true _ ?side1 ?side2 ?side3 ?side4 A240.out).mono ?_); (case side1 => exact C_now HR1_7.out); (case side2 => exact HC1_7.out); (case side3 => exact C_now HR1_8.out); (case side4 => exact HC1_8.out); rintro e w267 ⟨rfl, hb⟩; refine ⟨_, rfl, ?_⟩; replace HB := bel_on w hb; replace BK321 := blk_on gb321 hb; replace BK322 := blk_on gb322 hb; replace BK323 := blk_on gb323 hb; (try clear hb); obtain ⟨hcz268_0, hcz268_1, hcz268_2, hcz268_3, hcz268_4, hcz268_5, hcz268_6, hcz268_7, hcz268_8, hfz268_0, hfz268_1, hfz268_2, hfz268_3, hfz268_4, hfz268_5, hfz268_6, hfz268_7, hfz268_8⟩ := cells9 BK322.out) | (go_at_call 120; (with_reducible refine (impl_Layer_isBare.calls a1_0 a1_1 a1_2 a1_3 a1_4 a1_5 a1_6 _ _ l1_7 _ _ l1_8 true _ ?side1 ?side2 ?side3 ?side4 A242.out).mono ?_); (case side1 => exact C_now HR1_7.out); (case side2 => exact HC1_7.out); (case side3 => exact C_now HR1_8.out); (case side4 => exact HC1_8.out); rintro e w269 ⟨rfl, hb⟩; replace HB := bel_on w hb; replace BK321 := blk_on gb321 hb; replace BK322 := blk_on gb322 hb; replace BK323 := blk_on gb323 hb; (try clear hb); obtain ⟨hcz270_0, hcz270_1, hcz270_2, hcz270_3, hcz270_4, hcz270_5, hcz270_6, hcz270_7, hcz270_8, hfz270_0, hfz270_1, hfz270_2, hfz270_3, hfz270_4, hfz270_5, hfz270_6, hfz270_7, hfz270_8⟩ := cells9 BK322.out; have hnb271 := NB323_321.out; have hnc271 := NB321_323.out; obtain ⟨hcz272_0, hcz272_1, hcz272_2, hfz272_0, hfz272_1, hfz272_2⟩ := cells3 BK323.out))
             refine bodyPost_ret (results_ct rfl _ _ gb323 25 #[.int .i64 0, .int .i64 0, .int .i64 0] (0, 0) _ rfl (blk_fars (puts3 BK323.out)) Try.underlying25 rfl (by kernel_rfl)) rfl ?_
             exact ⟨eqN, bel_now⟩
           ·replace c243 := Bool.eq_false_iff.mpr c243
            subst c243
            rw [if_neg (show ¬ (false = true) by decide)] at H
            simp only [Option.some.injEq, Prod.mk.injEq] at H
            obtain ⟨rfl, rfl, rfl, rfl⟩ := H
            have hnb273 := NB322_321.out
            have hnc273 := NB321_322.out
            have hnb274 := NB322_323.out
            have hnc274 := NB323_322.out
            obtain ⟨hcz275_0, hcz275_1, hcz275_2, hcz275_3, hcz275_4, hcz275_5, hcz275_6, hcz275_7, hcz275_8, hfz275_0, hfz275_1, hfz275_2, hfz275_3, hfz275_4, hfz275_5, hfz275_6, hfz275_7, hfz275_8⟩ := cells9 BK322.out
            go_wp2_with (first | ((with_reducible refine gate_callee (f := 116) rfl ?_); refine goesM (some 96) rfl rfl Try.func116 (by kernel_rfl) rfl #[.agg #[.int .i64 a1_0, .int .i64 a1_1, .int .i64 a1_2, .int .i64 a1_3, .int .i64 a1_4, .int .i64 a1_5, .int .i64 a1_6, .slice A1_7 l1_7.length c1_7, .slice A1_8 l1_8.length c1_8]] rfl ?_; (with_reducible refine (impl_Layer_hasNone.calls a1_0 a1_1 a1_2 a1_3 a1_4 a1_5 a1_6 _ _ l1_7 _ _ l1_8 true _ ?side1 ?side2 ?side3 ?side4 A240.out).mono ?_); (case side1 => exact C_now HR1_7.out); (case side2 => exact HC1_7.out); (case side3 => exact C_now HR1_8.out); (case side4 => exact HC1_8.out); rintro e w276 ⟨rfl, hb⟩; refine ⟨_, rfl, ?_⟩; replace HB := bel_on w hb; replace BK321 := blk_on gb321 hb; replace BK322 := blk_on gb322 hb; replace BK323 := blk_on gb323 hb; (try clear hb); obtain ⟨hcz277_0, hcz277_1, hcz277_2, hcz277_3, hcz277_4, hcz277_5, hcz277_6, hcz277_7, hcz277_8, hfz277_0, hfz277_1, hfz277_2, hfz277_3, hfz277_4, hfz277_5, hfz277_6, hfz277_7, hfz277_8⟩ := cells9 BK322.out) | (go_at_call 120; (with_reducible refine (impl_Layer_isBare.calls a1_0 a1_1 a1_2 a1_3 a1_4 a1_5 a1_6 _ _ l1_7 _ _ l1_8 false _ ?side1 ?side2 ?side3 ?side4 A242.out).mono ?_); (case side1 => exact C_now HR1_7.out); (case side2 => exact HC1_7.out); (case side3 => exact C_now HR1_8.out); (case side4 => exact HC1_8.out); rintro e w278 ⟨rfl, hb⟩; replace HB := bel_on w hb; replace BK321 := blk_on gb321 hb; replace BK322 := blk_on gb322 hb; replace BK323 := blk_on gb323 hb; (try clear hb); have hnb279 := NB323_321.out; have hnc279 := NB321_323.out; obtain ⟨hcz280_0, hcz280_1, hcz280_2, hfz280_0, hfz280_1, hfz280_2⟩ := cells3 BK323.out))
            refine bodyPost_ret (results_ct rfl _ _ gb323 25 #[.int .i64 0, .int .i64 0, .int .i64 0] (0, 0) _ rfl (blk_fars (puts3 BK323.out)) Try.underlying25 rfl (by kernel_rfl)) rfl ?_
            exact ⟨eqN, bel_now⟩
          ·replace c241 := Bool.eq_false_iff.mpr c241
           subst c241
           rw [if_neg (show ¬ (false = true) by decide)] at H
           simp only [Option.some.injEq, Prod.mk.injEq] at H
           obtain ⟨rfl, rfl, rfl, rfl⟩ := H
           have hnb281 := NB322_321.out
           have hnc281 := NB321_322.out
           have hnb282 := NB322_323.out
           have hnc282 := NB323_322.out
           obtain ⟨hcz283_0, hcz283_1, hcz283_2, hcz283_3, hcz283_4, hcz283_5, hcz283_6, hcz283_7, hcz283_8, hfz283_0, hfz283_1, hfz283_2, hfz283_3, hfz283_4, hfz283_5, hfz283_6, hfz283_7, hfz283_8⟩ := cells9 BK322.out
           go_wp2_with (first | ((with_reducible refine gate_callee (f := 116) rfl ?_); refine goesM (some 96) rfl rfl Try.func116 (by kernel_rfl) rfl #[.agg #[.int .i64 a1_0, .int .i64 a1_1, .int .i64 a1_2, .int .i64 a1_3, .int .i64 a1_4, .int .i64 a1_5, .int .i64 a1_6, .slice A1_7 l1_7.length c1_7, .slice A1_8 l1_8.length c1_8]] rfl ?_; (with_reducible refine (impl_Layer_hasNone.calls a1_0 a1_1 a1_2 a1_3 a1_4 a1_5 a1_6 _ _ l1_7 _ _ l1_8 false _ ?side1 ?side2 ?side3 ?side4 A240.out).mono ?_); (case side1 => exact C_now HR1_7.out); (case side2 => exact HC1_7.out); (case side3 => exact C_now HR1_8.out); (case side4 => exact HC1_8.out); rintro e w284 ⟨rfl, hb⟩; refine ⟨_, rfl, ?_⟩; replace HB := bel_on w hb; replace BK321 := blk_on gb321 hb; replace BK322 := blk_on gb322 hb; replace BK323 := blk_on gb323 hb; (try clear hb); have hnb285 := NB323_321.out; have hnc285 := NB321_323.out; obtain ⟨hcz286_0, hcz286_1, hcz286_2, hfz286_0, hfz286_1, hfz286_2⟩ := cells3 BK323.out))
           refine bodyPost_ret (results_ct rfl _ _ gb323 25 #[.int .i64 0, .int .i64 0, .int .i64 0] (0, 0) _ rfl (blk_fars (puts3 BK323.out)) Try.underlying25 rfl (by kernel_rfl)) rfl ?_
           exact ⟨eqN, bel_now⟩
         ·rw [if_neg c239] at H
          have c239b0 : (a1_0 == 5) = false := beq_eq_false_iff_ne.mpr c239
          have c239b1 : (a1_0 != 5) = true := bne_iff_ne.mpr c239
          simp only [Option.some.injEq, Prod.mk.injEq] at H
          obtain ⟨rfl, rfl, rfl, rfl⟩ := H
          have hnb287 := NB323_321.out
          have hnc287 := NB321_323.out
          have hnb288 := NB323_322.out
          have hnc288 := NB322_323.out
          obtain ⟨hcz289_0, hcz289_1, hcz289_2, hfz289_0, hfz289_1, hfz289_2⟩ := cells3 BK323.out
          go_wp2
          refine bodyPost_ret (results_ct rfl _ _ gb323 25 #[.int .i64 0, .int .i64 0, .int .i64 0] (0, 0) _ rfl (blk_fars (puts3 BK323.out)) Try.underlying25 rfl (by kernel_rfl)) rfl ?_
          exact ⟨eqN, bel_now⟩
  ·replace c4 := Bool.eq_false_iff.mpr c4
   subst c4
   rw [if_neg (show ¬ (false = true) by decide)] at H
   simp only [Option.some.injEq, Prod.mk.injEq] at H
   obtain ⟨rfl, rfl, rfl, rfl⟩ := H
   go_enter Try.func100, Try.ntmps100
   go_wp2_with (first | ((with_reducible refine gate_dst (N := 2) rfl ?_); (try (refine gate_guard (by rfl) ?_; dsimp only)); refine boxM 2 #[.int .i64 a0_0, .int .i64 a0_1, .int .i64 a0_2] 25 ?_; intro gb321 hg w290 BK321 hb; replace HB := box_at w hb hg; obtain ⟨HB, GW321, GE321⟩ := HB; clear hb hg) | ((with_reducible refine gate_dst (N := 3) rfl ?_); (try (refine gate_guard (by rfl) ?_; dsimp only)); refine boxM 3 #[.int .i64 a1_0, .int .i64 a1_1, .int .i64 a1_2, .int .i64 a1_3, .int .i64 a1_4, .int .i64 a1_5, .int .i64 a1_6, .slice A1_7 l1_7.length c1_7, .slice A1_8 l1_8.length c1_8] 73 ?_; intro gb322 hg w291 BK322 hb; replace HB := box_at w hb hg; obtain ⟨HB, GW322, GE322⟩ := HB; replace BK321 := box_on gb321 hb hg; obtain ⟨BK321, NB321_322, NB322_321⟩ := BK321; clear hb hg) | ((with_reducible refine gate_dst (N := 4) rfl ?_); (try (refine gate_guard (by rfl) ?_; dsimp only)); refine boxM 4 #[.int .i64 0, .int .i64 0, .int .i64 0] 25 ?_; intro gb323 hg w292 BK323 hb; replace HB := box_at w hb hg; obtain ⟨HB, GW323, GE323⟩ := HB; replace BK321 := box_on gb321 hb hg; obtain ⟨BK321, NB321_323, NB323_321⟩ := BK321; replace BK322 := box_on gb322 hb hg; obtain ⟨BK322, NB322_323, NB323_322⟩ := BK322; clear hb hg; have hnb293 := NB321_322.out; have hnc293 := NB322_321.out; have hnb294 := NB321_323.out; have hnc294 := NB323_321.out; obtain ⟨hcz295_0, hcz295_1, hcz295_2, hfz295_0, hfz295_1, hfz295_2⟩ := cells3 BK321.out) | ((with_reducible refine gate_callee (f := 107) rfl ?_); refine goesM (some 8) rfl rfl Try.func107 (by kernel_rfl) rfl #[.agg #[.int .i64 a0_0, .int .i64 a0_1, .int .i64 a0_2]] rfl ?_; (with_reducible refine (impl_ShapeOk.calls a0_0 a0_1 a0_2 false _ A3.out).mono ?_); rintro e w296 ⟨rfl, hb⟩; refine ⟨_, rfl, ?_⟩; replace HB := bel_on w hb; replace BK321 := blk_on gb321 hb; replace BK322 := blk_on gb322 hb; replace BK323 := blk_on gb323 hb; (try clear hb); have hnb297 := NB323_322.out; have hnc297 := NB322_323.out; obtain ⟨hcz298_0, hcz298_1, hcz298_2, hfz298_0, hfz298_1, hfz298_2⟩ := cells3 BK323.out))
   refine bodyPost_ret (results_ct rfl _ _ gb323 25 #[.int .i64 0, .int .i64 0, .int .i64 0] (0, 0) _ rfl (blk_fars (puts3 BK323.out)) Try.underlying25 rfl (by kernel_rfl)) rfl ?_
   exact ⟨eqN, bel_now⟩

end Go.Proofs.Ytljdcemdhmaahaa.PFnExactNextCost
